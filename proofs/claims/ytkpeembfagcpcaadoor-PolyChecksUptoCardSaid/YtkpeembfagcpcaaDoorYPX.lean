import Derived.Test.YtkpeembfagcpcaaDoorYKA
import Derived.Test.YtkpeembfagcpcaaDoorYLA
import Derived.Test.YtkpeembfagcpcaaDoorYAB
import Derived.Test.YtkpeembfagcpcaaDoorYU6
import Derived.Test.YtkpeembfagcpcaaDoorYOQ
set_option maxRecDepth 100000
set_option linter.unusedVariables false
section
namespace Go.Proofs.YtkpeembfagcpcaaDoor.G
def sd (X Y:Nat→Rat) (i j k:Nat):Rat:=(X j - X i)*(Y k - Y i) - (Y j - Y i)*(X k - X i)
def sp (X Y:Nat→Rat) (i j:Nat) (x y:Rat):Rat:=(X j - X i)*(y - Y i) - (Y j - Y i)*(x - X i)
def cx (X Y:Nat→Rat) (i j:Nat):Rat:=X i*Y j - Y i*X j
theorem plk (e1 e2 a1 a2 b1 b2 c1 c2:Rat):(a1*c2 - a2*c1)*(e1*b2 - e2*b1)=(e1*a2 - e2*a1)*(b1*c2 - b2*c1)+(e1*c2 - e2*c1)*(a1*b2 - a2*b1):=by grind
theorem pos_of_mul {x y:Rat} (h:0 < x*y) (hy:0 < y):0 < x:=by
  rcases Rat.le_total (a:=x) (b:=0) with hx | hx
  · have:=Rat.mul_nonneg (a:=-x) (b:=y) (by grind) (by grind)
    exact absurd h (by grind)
  by_cases h0:x=0
  · subst h0; grind
  grind
theorem nn_of_mul {x y:Rat} (h:0≤x*y) (hy:0 < y):0≤x:=by
  rcases Rat.le_total (a:=x) (b:=0) with hx | hx
  · by_cases h0:x=0
    · subst h0; grind
    have:=Rat.mul_pos (a:=-x) (b:=y) (by grind) hy
    exact absurd h (by grind)
  exact hx
section
variable {X Y:Nat→Rat} {n:Nat}
theorem sd_rot (i j k:Nat):sd X Y i j k=sd X Y k i j:=by unfold sd; grind
theorem sd_deg (i j:Nat):sd X Y i j j=0:=by unfold sd; grind
theorem sd_deg' (i j:Nat):sd X Y i j i=0:=by unfold sd; grind
def RingOk (X Y:Nat→Rat) (n:Nat):Prop:=∀ i k j,i < n→k < i→j < k→0 < sd X Y j k i
def PrgOk (X Y:Nat→Rat) (n:Nat):Prop:=∀ i k,i < n→2≤k→k < n→0 < sd X Y i ((i+1)%n) ((i+k)%n)
theorem prg_of_ring (h3:3≤n) (h:RingOk X Y n):PrgOk X Y n:=by
  intro i k hi hk hkn
  by_cases h1:i+1 < n
  · rw [Nat.mod_eq_of_lt h1]
    by_cases h2:i+k < n
    · rw [Nat.mod_eq_of_lt h2]
      exact h (i+k) (i+1) i h2 (by omega) (by omega)
    have e:(i+k)%n=i+k - n:=by rw [Nat.mod_eq_sub_mod (by omega),Nat.mod_eq_of_lt (by omega)]
    rw [e,sd_rot]
    exact h (i+1) i (i+k - n) h1 (by omega) (by omega)
  obtain rfl:n=i+1:=by omega
  have e:(i+k)%(i+1)=k - 1:=by rw [Nat.mod_eq_sub_mod (by omega),Nat.mod_eq_of_lt (by omega)]; omega
  rw [Nat.mod_self,e,sd_rot,sd_rot]
  exact h i (k - 1) 0 (by omega) (by omega) (by omega)
theorem edge_of_prg (h:PrgOk X Y n) {i m:Nat} (hi:i+1 < n) (hm:m < n) (h1:m≠i) (h2:m≠i+1):0 < sd X Y i (i+1) m:=by
  by_cases hlt:i < m
  · have:=h i (m - i) (by omega) (by omega) (by omega)
    rwa [Nat.mod_eq_of_lt hi,show i+(m - i)=m by omega,Nat.mod_eq_of_lt hm] at this
  have:=h i (m+n - i) (by omega) (by omega) (by omega)
  rwa [Nat.mod_eq_of_lt hi,show i+(m+n - i)=m+n by omega,Nat.add_mod_right,Nat.mod_eq_of_lt hm] at this
theorem ring_of_edge (h:∀ i m,i+1 < n→m < n→m≠i→m≠i+1→0 < sd X Y i (i+1) m):∀ (d i j k:Nat),i < j→j < k→k < n→k=j+d+1→0 < sd X Y i j k
  | 0,i,j,k,hij,hjk,hk,hd=>by
    subst hd
    rw [sd_rot,sd_rot]
    exact h j i hk (by omega) (by omega) (by omega)
  | d+1,i,j,k,hij,hjk,hk,hd=>by
    have ih:=ring_of_edge h d i (j+1) k (by omega) (by omega) hk (by omega)
    have e1:0 < sd X Y i (i+1) (j+1):=h i (j+1) (by omega) (by omega) (by omega) (by omega)
    have e2:0≤sd X Y i (i+1) j:=by
      by_cases hj:j=i+1
      · subst hj
        rw [sd_deg]
        exact Rat.le_refl
      exact Rat.le_of_lt (h i j (by omega) (by omega) (by omega) hj)
    have e3:0 < sd X Y i (i+1) k:=h i k (by omega) hk (by omega) (by omega)
    have e4:0 < sd X Y i j (j+1):=by
      rw [sd_rot,sd_rot]
      exact h j i (by omega) (by omega) (by omega) (by omega)
    have hp:sd X Y i j k*sd X Y i (i+1) (j+1)=sd X Y i (i+1) j*sd X Y i (j+1) k+sd X Y i (i+1) k*sd X Y i j (j+1):=plk _ _ _ _ _ _ _ _
    have h5:=Rat.mul_nonneg e2 (Rat.le_of_lt ih)
    have h6:=Rat.mul_pos e3 e4
    exact pos_of_mul (by rw [hp]; grind) e1
theorem ring_iff (h3:3≤n):PrgOk X Y n↔RingOk X Y n :=
  ⟨fun h i k j hi hk hj=>ring_of_edge (fun i m hi hm h1 h2=>edge_of_prg h hi hm h1 h2) (i - k - 1) j k i hj hk hi (by omega),prg_of_ring h3⟩
def EdgeIn (X Y:Nat→Rat) (n:Nat) (x y:Rat):Prop:=∀ i,i < n→0≤sp X Y i ((i+1)%n) x y
def FanIn (X Y:Nat→Rat) (n:Nat) (x y:Rat):Prop:=∃ i,2≤i∧i < n∧0≤sp X Y 0 (i - 1) x y∧0≤sp X Y (i - 1) i x y∧0≤sp X Y i 0 x y
theorem bary (a1 a2 b1 b2 c1 c2 m1 m2 k1 k2 x y:Rat):((b1 - a1)*(c2 - a2) - (b2 - a2)*(c1 - a1))*((k1 - m1)*(y - m2) - (k2 - m2)*(x - m1)) =
    ((c1 - b1)*(y - b2) - (c2 - b2)*(x - b1))*((k1 - m1)*(a2 - m2) - (k2 - m2)*(a1 - m1)) +
    ((a1 - c1)*(y - c2) - (a2 - c2)*(x - c1))*((k1 - m1)*(b2 - m2) - (k2 - m2)*(b1 - m1)) +
    ((b1 - a1)*(y - a2) - (b2 - a2)*(x - a1))*((k1 - m1)*(c2 - m2) - (k2 - m2)*(c1 - m1)):=by grind
theorem edge_nn (h3:3≤n) (h:RingOk X Y n) {i m:Nat} (hi:i < n) (hm:m < n):0≤sd X Y i ((i+1)%n) m:=by
  have hp:=prg_of_ring h3 h
  by_cases h1:m=i
  · subst h1; rw [sd_deg']; exact Rat.le_refl
  by_cases h2:m=(i+1)%n
  · rw [← h2,sd_deg]; exact Rat.le_refl
  by_cases h4:i+1 < n
  · rw [Nat.mod_eq_of_lt h4] at *
    exact Rat.le_of_lt (edge_of_prg hp h4 hm h1 h2)
  obtain rfl:n=i+1:=by omega
  rw [Nat.mod_self] at *
  rw [sd_rot,sd_rot]
  exact Rat.le_of_lt (h i m 0 (by omega) (by omega) (by omega))
theorem edge_of_fan (h3:3≤n) (h:RingOk X Y n) {x y:Rat} (hf:FanIn X Y n x y):EdgeIn X Y n x y:=by
  obtain ⟨i,h2,hi,f1,f2,f3⟩:=hf
  intro m hm
  have t:0 < sd X Y 0 (i - 1) i:=h i (i - 1) 0 hi (by omega) (by omega)
  have g1:=edge_nn h3 h hm (show 0 < n by omega)
  have g2:=edge_nn h3 h hm (show i - 1 < n by omega)
  have g3:=edge_nn h3 h hm hi
  have hb:sd X Y 0 (i - 1) i*sp X Y m ((m+1)%n) x y=sp X Y (i - 1) i x y*sd X Y m ((m+1)%n) 0+sp X Y i 0 x y*sd X Y m ((m+1)%n) (i - 1)+sp X Y 0 (i - 1) x y*sd X Y m ((m+1)%n) i:=bary _ _ _ _ _ _ _ _ _ _ _ _
  have a1:=Rat.mul_nonneg f2 g1
  have a2:=Rat.mul_nonneg f3 g2
  have a3:=Rat.mul_nonneg f1 g3
  refine nn_of_mul (y:=sd X Y 0 (i - 1) i) ?_ t
  rw [Rat.mul_comm,hb]
  grind
theorem sp_rev (i j:Nat) (x y:Rat):sp X Y i j x y = - sp X Y j i x y:=by unfold sp; grind
theorem fan_first {x y:Rat} (h1:0≤sp X Y 0 1 x y) (hE:∀ i,i+1 < n→0≤sp X Y i (i+1) x y):∀ (d i:Nat),2≤i→i+d+1=n→0≤sp X Y 0 (i - 1) x y→0≤sp X Y (n - 1) 0 x y→FanIn X Y n x y
  | 0,i,h2,hd,hs,hl=>⟨i,h2,by omega,hs,by have:=hE (i - 1) (by omega); rwa [show i - 1+1=i by omega] at this,by rwa [show n - 1=i by omega] at hl⟩
  | d+1,i,h2,hd,hs,hl=>by
    by_cases h:0≤sp X Y i 0 x y
    · exact ⟨i,h2,by omega,hs,by have:=hE (i - 1) (by omega); rwa [show i - 1+1=i by omega] at this,h⟩
    refine fan_first h1 hE d (i+1) (by omega) (by omega) ?_ hl
    rw [show i+1 - 1=i by omega,sp_rev]
    grind
theorem inner_iff (h3:3≤n) (h:RingOk X Y n) {x y:Rat}:EdgeIn X Y n x y↔FanIn X Y n x y:=by
  refine ⟨fun hE=>?_,edge_of_fan h3 h⟩
  have e1:∀ i,i+1 < n→0≤sp X Y i (i+1) x y:=fun i hi=>by
    have:=hE i (by omega)
    rwa [Nat.mod_eq_of_lt hi] at this
  have e2:0≤sp X Y (n - 1) 0 x y:=by
    have:=hE (n - 1) (by omega)
    rwa [show n - 1+1=n by omega,Nat.mod_self] at this
  have h1:=e1 0 (by omega)
  exact fan_first h1 e1 (n - 3) 2 (by omega) (by omega) h1 e2
def arP (X Y:Nat→Rat) (n:Nat):Nat→Rat
  | 0=>0
  | i+1=>arP X Y n i+cx X Y i ((i+1)%n)
def arR (X Y:Nat→Rat):Nat→Rat
  | 0=>0
  | i+1=>arR X Y i+sd X Y 0 (i+1) (i+2)
theorem ar_eq:∀ i,i+2≤n→arR X Y i=arP X Y n (i+1)+cx X Y (i+1) 0
  | 0,h=>by
    show (0:Rat)=arP X Y n 0+cx X Y 0 ((0+1)%n)+cx X Y (0+1) 0
    rw [Nat.mod_eq_of_lt (by omega)]
    show (0:Rat)=0+_+_
    unfold cx
    grind
  | i+1,h=>by
    show arR X Y i+sd X Y 0 (i+1) (i+2)=arP X Y n (i+1)+cx X Y (i+1) ((i+1+1)%n)+cx X Y (i+1+1) 0
    rw [ar_eq i (by omega),Nat.mod_eq_of_lt (by omega)]
    unfold cx sd
    grind
theorem area_eq (h3:3≤n):arR X Y (n - 2)=arP X Y n n:=by
  rw [ar_eq (n:=n) (n - 2) (by omega)]
  obtain ⟨k,rfl⟩:∃ k,n=k+1:=⟨n - 1,by omega⟩
  show _=arP X Y (k+1) k+cx X Y k ((k+1)%(k+1))
  rw [Nat.mod_self,show k+1 - 2+1=k by omega]
def bsP (D:Nat→Rat):Nat→Nat
  | 0=>0
  | i+1=>if D (bsP D i) < D i then i else bsP D i
def bsR (D:Nat→Rat):Nat→Nat→Nat
  | 0,b=>b
  | m+1,b=>bsR D m (if D b≤D m then m else b)
theorem bsP_spec {D:Nat→Rat}:∀ i,(∀ k,k < i→D k≤D (bsP D i))∧(bsP D i < i∨bsP D i=0)∧(∀ k,k < bsP D i→D k < D (bsP D i))
  | 0=>⟨fun k hk=>by omega,.inr rfl,fun k hk=>by exact absurd hk (by show ¬ k < 0; omega)⟩
  | i+1=>by
    obtain ⟨h1,h2,h3⟩:=bsP_spec (D:=D) i
    unfold bsP
    split
    · rename_i h
      refine ⟨fun k hk=>?_,.inl (by omega),fun k hk=>?_⟩
      · by_cases e:k=i
        · subst e; exact Rat.le_refl
        have:=h1 k (by omega); grind
      have:=h1 k hk; grind
    rename_i h
    refine ⟨fun k hk=>?_,?_,h3⟩
    · by_cases e:k=i
      · subst e; grind
      exact h1 k (by omega)
    rcases h2 with h2 | h2
    · exact .inl (by omega)
    exact .inr h2
theorem bsR_spec {D:Nat→Rat} {n:Nat}:∀ (m b:Nat),m≤n→(b=0∨m≤b)→b < n→(∀ k,m≤k→k < n→D k≤D b)→(b=0 ∨ ∀ k,m≤k→k < b→D k < D b) →
    bsR D m b < n∧(∀ k,k < n→D k≤D (bsR D m b))∧(∀ k,k < bsR D m b→D k < D (bsR D m b))
  | 0,b,hm,hb,hbn,h1,h2=>⟨hbn,fun k hk=>h1 k (Nat.zero_le _) hk,fun k hk=>by
    rcases h2 with rfl | h2
    · exact absurd hk (by show ¬ k < 0; omega)
    exact h2 k (Nat.zero_le _) hk⟩
  | m+1,b,hm,hb,hbn,h1,h2=>by
    unfold bsR
    by_cases h:D b≤D m
    · rw [if_pos h]
      refine bsR_spec m m (by omega) (.inr (Nat.le_refl _)) (by omega) (fun k hk hkn=>?_) (.inr fun k hk hkm=>by omega)
      by_cases e:k=m
      · subst e; exact Rat.le_refl
      have:=h1 k (by omega) hkn; grind
    rw [if_neg h]
    have hb0:b≠0∨m≠0:=by
      by_cases hz:b=0
      · subst hz
        right
        rintro rfl
        exact h Rat.le_refl
      exact .inl hz
    refine bsR_spec m b (by omega) (by omega) hbn (fun k hk hkn=>?_) ?_
    · by_cases e:k=m
      · subst e; grind
      exact h1 k (by omega) hkn
    rcases h2 with h2 | h2
    · exact .inl h2
    refine .inr fun k hk hkb=>?_
    by_cases e:k=m
    · subst e; grind
    exact h2 k (by omega) hkb
theorem best_eq {D:Nat→Rat} {n:Nat} (hn:0 < n):bsP D n=bsR D n 0:=by
  obtain ⟨a1,a2,a3⟩:=bsP_spec (D:=D) n
  obtain ⟨b1,b2,b3⟩:=bsR_spec (D:=D) (n:=n) n 0 (Nat.le_refl _) (.inl rfl) hn (fun k hk hkn=>by omega) (.inl rfl)
  have ha:bsP D n < n:=by omega
  rcases Nat.lt_trichotomy (bsP D n) (bsR D n 0) with h | h | h
  · have:=b3 _ h
    have:=a1 _ b1
    grind
  · exact h
  have:=a3 _ h
  have:=b2 _ ha
  grind
end
end Go.Proofs.YtkpeembfagcpcaaDoor.G
end
section
namespace Go.Proofs.YtkpeembfagcpcaaDoor.G
open Go.Proofs.YtkpeembfagcpcaaDoor.U Go.RowKit
theorem pI {x y:Int} (h:x=y):V.c (.int .i64 x)=V.c (.int .i64 y):=by rw [h]
def vcs (L:List VR):List V:=nv (L.map VR.c)
theorem vcs_f {L:List VR}:(vcs L).all V.isC=true:=flnv
theorem vcs_ld {L:List VR} {i:Nat} {v:VR} (h:L[i]? = some v):((vcs L).drop (0+Int.toNat (i:Int)*6)).take 6=v.c.map V.c∧v.c.toArray.size=6:=by
  rw [Int.toNat_natCast,Nat.zero_add]
  refine ⟨nv_at (fun e he=>?_) (by rw [List.getElem?_map,h]; rfl),rfl⟩
  obtain ⟨v,_,rfl⟩:=List.mem_map.1 he
  rfl
theorem vcs_l0 {L:List VR} {v:VR} (h:L[0]? = some v):((vcs L).drop 0).take 6=v.c.map V.c∧v.c.toArray.size=6:=vcs_ld (i:=0) h
theorem vr1_s {v:VR} (h:v.Ok):IsR v.n1 v.a1 v.b1 v.x 1048576:=h.r1
theorem vr2_s {v:VR} (h:v.Ok):IsR v.n2 v.a2 v.b2 v.y 1048576:=h.r2
abbrev vv (v:VR):Value:=ag [[.bool v.n1],[.string v.a1],[.string v.b1],[.bool v.n2],[.string v.a2],[.string v.b2]]
abbrev vw (v:VR):List V:=nv [[.bool v.n1],[.string v.a1],[.string v.b1],[.bool v.n2],[.string v.a2],[.string v.b2]]
noncomputable def pX (L:List VR) (i:Nat):Rat:=((L[i]?).map VR.x).getD 0
noncomputable def pY (L:List VR) (i:Nat):Rat:=((L[i]?).map VR.y).getD 0
theorem pX_at {L:List VR} {i:Nat} {v:VR} (h:L[i]? = some v):pX L i=v.x:=by unfold pX; rw [h]; rfl
theorem pY_at {L:List VR} {i:Nat} {v:VR} (h:L[i]? = some v):pY L i=v.y:=by unfold pY; rw [h]; rfl
theorem incn {i n:Nat} (h:i < n) (hn:n < 4611686018427387904):V.c (.int .i64 (IntKind.wrap .i64 ((i:Int)+1))) = .c (.int .i64 ((i+1:Nat):Int)):=by
  congr 2
  rw [IntKind.wrap_i64]
  push_cast
  omega
theorem addn {i k:Nat} (h:i+k < 4611686018427387904):V.c (.int .i64 (IntKind.wrap .i64 ((i:Int)+(k:Int)))) = .c (.int .i64 ((i+k:Nat):Int)):=by
  congr 2
  rw [IntKind.wrap_i64]
  push_cast
  omega
theorem sgn_sd {L:List VR} {i j k:Nat} {u v w:VR} (hu:L[i]? = some u) (hv:L[j]? = some v) (hw:L[k]? = some w):sd (pX L) (pY L) i j k=(v.x - u.x)*(w.y - u.y) - (v.y - u.y)*(w.x - u.x):=by
  unfold sd
  rw [pX_at hu,pX_at hv,pX_at hw,pY_at hu,pY_at hv,pY_at hw]
theorem sgn_le {x:Rat}:decide (Int.sign (Rat.num x)≤0) = !decide (0 < x):=by
  have:=sign_gt (x:=x)
  by_cases h:0 < x
  · rw [decide_eq_true h,decide_eq_false (by have:=this.2 h; omega)]; rfl
  rw [decide_eq_false h,decide_eq_true (by have:=mt this.1 h; omega)]; rfl
theorem sgn_lt {x:Rat}:decide (Int.sign (Rat.num x) < 0)=decide (x < 0):=decide_eq_decide.2 sign_lt
def ckI (L:List VR) (u:VR) (m c i k:Nat):St:=⟨slots 49 0 [(0,.sl 0 0 (m+1) c),(5,.c (.int .i64 (((m+1:Nat):Int)))),(6,.c (.int .i64 (((i:Nat):Int)))),(7,.p 1 0),(8,.c (.int .i64 (((k:Nat):Int)))),(18,.sl 0 0 (m+1) c),(19,.c (.int .i64 (((m+1:Nat):Int)))),(20,.c (.int .i64 (((i:Nat):Int))))],[some ⟨false,vcs L⟩,some ⟨true,vw u⟩]⟩
def ckO (L:List VR) (m c i:Nat):St:=⟨slots 49 0 [(0,.sl 0 0 (m+1) c),(5,.c (.int .i64 (((m+1:Nat):Int)))),(18,.sl 0 0 (m+1) c),(19,.c (.int .i64 (((m+1:Nat):Int)))),(20,.c (.int .i64 (((i:Nat):Int))))],[some ⟨false,vcs L⟩]⟩
def ckB2 (L:List VR) (u:VR):St:=⟨slots 49 0 [(4,.c (.int .i64 3))],[some ⟨false,vcs L⟩,some ⟨true,vw u⟩]⟩
def ckB (L:List VR):St:=⟨slots 49 0 [(4,.c (.int .i64 3))],[some ⟨false,vcs L⟩]⟩
theorem ck_a {L:List VR} {u v w:VR} {m c i k:Nat} (hv:L[(i+1)%(m+1)]? = some v) (hw:L[(i+k)%(m+1)]? = some w) (ou:u.Ok) (ov:v.Ok) (ow:w.Ok) (hi:i < m+1) (hk:k < m+1) (hm:m < 1000000) (e1:(i+1)%(m+1) < m+1) (e2:(i+k)%(m+1) < m+1) (h0:decide ((↑k:Int) < (↑(m+(1:Nat)):Int))=true) (h7:decide (Int.sign (Rat.num ((VR.x v - VR.x u)*(VR.y w - VR.y u) - (VR.y v - VR.y u)*(VR.x w - VR.x u)))≤(0:Int))=false):TSpec Tryd.prog (loopOf Tryd.f58 3) (ckI L u m c i k) (.normal) (ckI L u m c i (k+1)):=by
  have s1:=(vr1_s ou)
  have s2:=(vr2_s ou)
  have s3:=(vr1_s ov)
  have s4:=(vr2_s ov)
  have s5:=(vr1_s ow)
  have s6:=(vr2_s ow)
  exact tspec_dim (mask 49 0 [0,5,6,7,8,18,19,20]) 2 (sc:=[(10,2,.is (.c (.bool true))),(12,3,.is (.c (.int .i64 ((↑(i+(1:Nat)):Int))))),(12,5,.is (.c (.int .i64 ((↑((i+(1:Nat))%(m+(1:Nat))):Int))))),(12,7,.fix (ag [[.bool (VR.n1 v)],[.string (VR.a1 v)],[.string (VR.b1 v)],[.bool (VR.n2 v)],[.string (VR.a2 v)],[.string (VR.b2 v)]])),(12,11,.is (.c (.int .i64 ((↑(i+k):Int))))),(12,13,.is (.c (.int .i64 ((↑((i+k)%(m+(1:Nat))):Int))))),(12,15,.fix (ag [[.bool (VR.n1 w)],[.string (VR.a1 w)],[.string (VR.b1 w)],[.bool (VR.n2 w)],[.string (VR.a2 w)],[.string (VR.b2 w)]])),(12,16,.fix (.int .i64 (Int.sign (Rat.num ((VR.x v - VR.x u)*(VR.y w - VR.y u) - (VR.y v - VR.y u)*(VR.x w - VR.x u)))))),(12,17,.is (.c (.bool false))),(11,1,.is (.c (.int .i64 ((↑(k+(1:Nat)):Int)))))]) (sb:=[]) (by kernel_rfl) (hP (isB h0) (hP (incn (i:=i) hi (by omega)) (hP (show V.c (Value.int .i64 (Int.tmod (↑(i+(1:Nat)):Int) (↑(m+(1:Nat)):Int))) = .c (.int .i64 ((↑((i+(1:Nat))%(m+(1:Nat))):Int))) from (rfl)) (hP (show (0:Int)≤(↑((i+(1:Nat))%(m+(1:Nat))):Int)∧(↑((i+(1:Nat))%(m+(1:Nat))):Int) < (↑(m+(1:Nat)):Int) by omega) (hP (vcs_ld hv) (hP (addn (i:=i) (k:=k) (by omega)) (hP (show V.c (Value.int .i64 (Int.tmod (↑(i+k):Int) (↑(m+(1:Nat)):Int))) = .c (.int .i64 ((↑((i+k)%(m+(1:Nat))):Int))) from (rfl)) (hP (show (0:Int)≤(↑((i+k)%(m+(1:Nat))):Int)∧(↑((i+k)%(m+(1:Nat))):Int) < (↑(m+(1:Nat)):Int) by omega) (hP (vcs_ld hw) (hC (left_k s1 (by decide +kernel) s2 (by decide +kernel) s3 (by decide +kernel) s4 (by decide +kernel) s5 (by decide +kernel) s6 (by decide +kernel)) (hP (isB h7) (hP (incn (i:=k) hk (by omega)) hN)))))))))))) (flk vcs_f (flk flnv trivial))
theorem ck_b {L:List VR} {u v w:VR} {m c i k:Nat} (hv:L[(i+1)%(m+1)]? = some v) (hw:L[(i+k)%(m+1)]? = some w) (ou:u.Ok) (ov:v.Ok) (ow:w.Ok) (hi:i < m+1) (hk:k < m+1) (hm:m < 1000000) (e1:(i+1)%(m+1) < m+1) (e2:(i+k)%(m+1) < m+1) (h0:decide ((↑k:Int) < (↑(m+(1:Nat)):Int))=true) (h7:decide (Int.sign (Rat.num ((VR.x v - VR.x u)*(VR.y w - VR.y u) - (VR.y v - VR.y u)*(VR.x w - VR.x u)))≤(0:Int))=true):TSpec Tryd.prog (loopOf Tryd.f58 3) (ckI L u m c i k) (.ret) (ckB2 L u):=by
  have s1:=(vr1_s ou)
  have s2:=(vr2_s ou)
  have s3:=(vr1_s ov)
  have s4:=(vr2_s ov)
  have s5:=(vr1_s ow)
  have s6:=(vr2_s ow)
  exact tspec_dim (mask 49 0 [4]) 2 (sc:=[(10,2,.is (.c (.bool true))),(12,3,.is (.c (.int .i64 ((↑(i+(1:Nat)):Int))))),(12,5,.is (.c (.int .i64 ((↑((i+(1:Nat))%(m+(1:Nat))):Int))))),(12,7,.fix (ag [[.bool (VR.n1 v)],[.string (VR.a1 v)],[.string (VR.b1 v)],[.bool (VR.n2 v)],[.string (VR.a2 v)],[.string (VR.b2 v)]])),(12,11,.is (.c (.int .i64 ((↑(i+k):Int))))),(12,13,.is (.c (.int .i64 ((↑((i+k)%(m+(1:Nat))):Int))))),(12,15,.fix (ag [[.bool (VR.n1 w)],[.string (VR.a1 w)],[.string (VR.b1 w)],[.bool (VR.n2 w)],[.string (VR.a2 w)],[.string (VR.b2 w)]])),(12,16,.fix (.int .i64 (Int.sign (Rat.num ((VR.x v - VR.x u)*(VR.y w - VR.y u) - (VR.y v - VR.y u)*(VR.x w - VR.x u)))))),(12,17,.is (.c (.bool true)))]) (sb:=[]) (by kernel_rfl) (hP (isB h0) (hP (incn (i:=i) hi (by omega)) (hP (show V.c (Value.int .i64 (Int.tmod (↑(i+(1:Nat)):Int) (↑(m+(1:Nat)):Int))) = .c (.int .i64 ((↑((i+(1:Nat))%(m+(1:Nat))):Int))) from (rfl)) (hP (show (0:Int)≤(↑((i+(1:Nat))%(m+(1:Nat))):Int)∧(↑((i+(1:Nat))%(m+(1:Nat))):Int) < (↑(m+(1:Nat)):Int) by omega) (hP (vcs_ld hv) (hP (addn (i:=i) (k:=k) (by omega)) (hP (show V.c (Value.int .i64 (Int.tmod (↑(i+k):Int) (↑(m+(1:Nat)):Int))) = .c (.int .i64 ((↑((i+k)%(m+(1:Nat))):Int))) from (rfl)) (hP (show (0:Int)≤(↑((i+k)%(m+(1:Nat))):Int)∧(↑((i+k)%(m+(1:Nat))):Int) < (↑(m+(1:Nat)):Int) by omega) (hP (vcs_ld hw) (hC (left_k s1 (by decide +kernel) s2 (by decide +kernel) s3 (by decide +kernel) s4 (by decide +kernel) s5 (by decide +kernel) s6 (by decide +kernel)) (hP (isB h7) hN))))))))))) (flk vcs_f (flk flnv trivial))
theorem ck_c {L:List VR} {u:VR} {m c i k:Nat}  (h0:decide ((↑k:Int) < (↑(m+(1:Nat)):Int))=false):TSpec Tryd.prog (loopOf Tryd.f58 3) (ckI L u m c i k) (.exit 3) (ckI L u m c i k):=by
  exact tspec_dim (mask 49 0 [0,5,6,7,8,18,19,20]) 2 (sc:=[(10,2,.is (.c (.bool false)))]) (sb:=[]) (by kernel_rfl) (hP (isB h0) hN) (flk vcs_f (flk flnv trivial))
theorem ck_d {L:List VR} {u:VR} {m c i:Nat} (hu:L[i]? = some u) (hi:i < m+1) (hm:m < 1000000) (hb:TSpec Tryd.prog (.block 3 (.loop (loopOf Tryd.f58 3))) (ckI L u m c i 2) .normal (ckI L u m c i (m+1))) (h0:decide ((↑i:Int) < (↑(m+(1:Nat)):Int))=true):TSpec Tryd.prog (loopOf Tryd.f58 1) (ckO L m c i) (.normal) (ckO L m c (i+1)):=by
  exact tspec_dim (mask 49 0 [0,5,18,19,20]) 1 (sc:=[(7,0,.is (.c (.bool true))),(8,2,.fix (ag [[.bool (VR.n1 u)],[.string (VR.a1 u)],[.string (VR.b1 u)],[.bool (VR.n2 u)],[.string (VR.a2 u)],[.string (VR.b2 u)]])),(3,99999,.mask (mask 49 0 [0,5,6,7,8,18,19,20])),(14,0,.is (.c (.int .i64 ((↑(i+(1:Nat)):Int)))))]) (sb:=[(3,.normal,ckI L u m c i (m+1))]) (by kernel_rfl) (hP (isB h0) (hP (show (0:Int)≤(↑i:Int)∧(↑i:Int) < (↑(m+(1:Nat)):Int) by omega) (hP (vcs_ld hu) (hP (show Flat [some { own:=false,cells:=vcs L },some ⟨Bool.true,nv [[.bool (VR.n1 u)],[.string (VR.a1 u)],[.string (VR.b1 u)],[.bool (VR.n2 u)],[.string (VR.a2 u)],[.string (VR.b2 u)]]⟩] from (flk vcs_f (flk rfl trivial))) (hP (hb) (hP (incn (i:=i) hi (by omega)) hN)))))) (flk vcs_f trivial)
theorem ck_e {L:List VR} {u:VR} {m c i:Nat} (hu:L[i]? = some u) (hi:i < m+1) (hm:m < 1000000) (hb:TSpec Tryd.prog (.block 3 (.loop (loopOf Tryd.f58 3))) (ckI L u m c i 2) .ret (ckB2 L u)) (h0:decide ((↑i:Int) < (↑(m+(1:Nat)):Int))=true):TSpec Tryd.prog (loopOf Tryd.f58 1) (ckO L m c i) (.ret) (ckB L):=by
  exact tspec_dim (mask 49 0 [4]) 1 (sc:=[(7,0,.is (.c (.bool true))),(8,2,.fix (ag [[.bool (VR.n1 u)],[.string (VR.a1 u)],[.string (VR.b1 u)],[.bool (VR.n2 u)],[.string (VR.a2 u)],[.string (VR.b2 u)]])),(3,99999,.mask (mask 49 0 [0,5,6,7,8,18,19,20]))]) (sb:=[(3,.ret,ckB2 L u)]) (by kernel_rfl) (hP (isB h0) (hP (show (0:Int)≤(↑i:Int)∧(↑i:Int) < (↑(m+(1:Nat)):Int) by omega) (hP (vcs_ld hu) (hP (show Flat [some { own:=false,cells:=vcs L },some ⟨Bool.true,nv [[.bool (VR.n1 u)],[.string (VR.a1 u)],[.string (VR.b1 u)],[.bool (VR.n2 u)],[.string (VR.a2 u)],[.string (VR.b2 u)]]⟩] from (flk vcs_f (flk rfl trivial))) (hP (hb) hN))))) (flk vcs_f trivial)
theorem ck_f {L:List VR} {m c i:Nat}  (h0:decide ((↑i:Int) < (↑(m+(1:Nat)):Int))=false):TSpec Tryd.prog (loopOf Tryd.f58 1) (ckO L m c i) (.exit 1) (ckO L m c i):=by
  exact tspec_dim (mask 49 0 [0,5,18,19,20]) 1 (sc:=[(7,0,.is (.c (.bool false)))]) (sb:=[]) (by kernel_rfl) (hP (isB h0) hN) (flk vcs_f trivial)
def z0:VR:=⟨false,⟨#[]⟩,⟨#[]⟩,false,⟨#[]⟩,⟨#[]⟩⟩
noncomputable def ringN (L:List VR) (t:Int):Int:=if t < (L.length:Int) then 2 else if L.length < 3 then 3 else @ite Int (RingOk (pX L) (pY L) L.length) (Classical.propDecidable _) 0 3
section
variable {L:List VR} {m c:Nat} (hL:L.length=m+1) (ok:∀ v∈L,v.Ok) (hm:m < 1000000)
include hL ok hm
theorem ck_in {u:VR} {i:Nat} (hu:L[i]? = some u) (hi:i < m+1):∀ (d k:Nat),k+d=m+1 →
    ((∀ k',k≤k' → k' < m+1→0 < sd (pX L) (pY L) i ((i+1)%(m+1)) ((i+k')%(m+1)))∧Rounds Tryd.prog (loopOf Tryd.f58 3) 3 (ckI L u m c i k) .normal (ckI L u m c i (m+1))) ∨
    ((∃ k',k≤k' ∧ k' < m+1 ∧ ¬ 0 < sd (pX L) (pY L) i ((i+1)%(m+1)) ((i+k')%(m+1)))∧Rounds Tryd.prog (loopOf Tryd.f58 3) 3 (ckI L u m c i k) .ret (ckB2 L u))
  | 0,k,hk=>by
    obtain rfl:k=m+1:=by omega
    exact .inl ⟨fun k' h1 h2=>by omega,.stop (ck_c (decide_eq_false (by omega)))⟩
  | d+1,k,hk=>by
    have p1:(i+1)%(m+1) < m+1:=Nat.mod_lt _ (by omega)
    have p2:(i+k)%(m+1) < m+1:=Nat.mod_lt _ (by omega)
    have hv:=List.getElem?_eq_getElem (l:=L) (i:=(i+1)%(m+1)) (by omega)
    have hw:=List.getElem?_eq_getElem (l:=L) (i:=(i+k)%(m+1)) (by omega)
    have es:=sgn_sd hu hv hw
    have hlt:decide ((k:Int) < ((m+1:Nat):Int))=true:=decide_eq_true (by omega)
    by_cases h:0 < sd (pX L) (pY L) i ((i+1)%(m+1)) ((i+k)%(m+1))
    · have st:=ck_a (c:=c) hv hw (ok _ (List.mem_of_getElem? hu)) (ok _ (List.mem_of_getElem? hv)) (ok _ (List.mem_of_getElem? hw)) hi (show k < m+1 by omega) hm p1 p2 hlt (by rw [sgn_le,← es,decide_eq_true h]; rfl)
      rcases ck_in hu hi d (k+1) (by omega) with ⟨a,b⟩ | ⟨⟨k',a1,a2,a3⟩,b⟩
      · refine .inl ⟨fun k' h1 h2=>?_,.step st b⟩
        by_cases e:k' = k
        · subst e; exact h
        exact a k' (by omega) h2
      exact .inr ⟨⟨k',by omega,a2,a3⟩,.step st b⟩
    exact .inr ⟨⟨k,Nat.le_refl _,by omega,h⟩,.ret (ck_b (c:=c) hv hw (ok _ (List.mem_of_getElem? hu)) (ok _ (List.mem_of_getElem? hv)) (ok _ (List.mem_of_getElem? hw)) hi (show k < m+1 by omega) hm p1 p2 hlt (by rw [sgn_le,← es,decide_eq_false h]; rfl))⟩
theorem ck_out (hm2:2+(m - 1)=m+1):∀ (d i:Nat),i+d=m+1 →
    ((∀ i' k',i≤i' → i' < m+1→2≤k' → k' < m+1→0 < sd (pX L) (pY L) i' ((i' + 1)%(m+1)) ((i' + k')%(m+1)))∧Rounds Tryd.prog (loopOf Tryd.f58 1) 1 (ckO L m c i) .normal (ckO L m c (m+1))) ∨
    ((∃ i' k',i' < m+1∧2≤k' ∧ k' < m+1 ∧ ¬ 0 < sd (pX L) (pY L) i' ((i' + 1)%(m+1)) ((i' + k')%(m+1)))∧Rounds Tryd.prog (loopOf Tryd.f58 1) 1 (ckO L m c i) .ret (ckB L))
  | 0,i,hi=>by
    obtain rfl:i=m+1:=by omega
    exact .inl ⟨fun i' k' h1 h2=>by omega,.stop (ck_f (decide_eq_false (by omega)))⟩
  | d+1,i,hi=>by
    have hu:=List.getElem?_eq_getElem (l:=L) (i:=i) (by omega)
    have hlt:decide ((i:Int) < ((m+1:Nat):Int))=true:=decide_eq_true (by omega)
    rcases ck_in (c:=c) hL ok hm hu (by omega) (m - 1) 2 hm2 with ⟨a,b⟩ | ⟨⟨k',a1,a2,a3⟩,b⟩
    · have st:=ck_d hu (show i < m+1 by omega) hm b.spec hlt
      rcases ck_out hm2 d (i+1) (by omega) with ⟨p,q⟩ | ⟨p,q⟩
      · refine .inl ⟨fun i' k' h1 h2 h3 h4=>?_,.step st q⟩
        by_cases e:i' = i
        · subst e; exact a k' h3 h4
        exact p i' k' (by omega) h2 h3 h4
      exact .inr ⟨p,.step st q⟩
    exact .inr ⟨⟨i,k',by omega,a1,a2,a3⟩,.ret (ck_e hu (show i < m+1 by omega) hm b.spec hlt)⟩
end
theorem cf_a {L:List VR} {m c:Nat} {t:Int}  (h0:decide (t < (↑(m+(1:Nat)):Int))=true):FSpec Tryd.prog 58 [.sl 0 0 (m+1) c,.c (.int .i64 t)] [some ⟨false,vcs L⟩] (.c (.int .i64 (2:Int))) [some ⟨false,vcs L⟩]:=by
  exact fspec_ok Tryd.func58 (sc:=[(2,2,.is (.c (.bool true)))]) (sb:=[]) (keep:=[]) (by kernel_rfl) (hP (show Flat [some ⟨false,vcs L⟩] from flk vcs_f trivial) (hP (isB h0) hN))
theorem cf_b {L:List VR} {m c:Nat} {t:Int}  (h0:decide (t < (↑(m+(1:Nat)):Int))=false) (h1:decide ((↑(m+(1:Nat)):Int) < (3:Int))=true):FSpec Tryd.prog 58 [.sl 0 0 (m+1) c,.c (.int .i64 t)] [some ⟨false,vcs L⟩] (.c (.int .i64 (3:Int))) [some ⟨false,vcs L⟩]:=by
  exact fspec_ok Tryd.func58 (sc:=[(2,2,.is (.c (.bool false))),(4,1,.is (.c (.bool true)))]) (sb:=[]) (keep:=[]) (by kernel_rfl) (hP (show Flat [some ⟨false,vcs L⟩] from flk vcs_f trivial) (hP (isB h0) (hP (isB h1) hN)))
theorem cf_c {L:List VR} {m c:Nat} {t:Int} (hb:TSpec Tryd.prog (.block 1 (.loop (loopOf Tryd.f58 1))) (ckO L m c 0) .normal (ckO L m c (m+1))) (h0:decide (t < (↑(m+(1:Nat)):Int))=false) (h1:decide ((↑(m+(1:Nat)):Int) < (3:Int))=false):FSpec Tryd.prog 58 [.sl 0 0 (m+1) c,.c (.int .i64 t)] [some ⟨false,vcs L⟩] (.c (.int .i64 (0:Int))) [some ⟨false,vcs L⟩]:=by
  exact fspec_ok Tryd.func58 (sc:=[(2,2,.is (.c (.bool false))),(4,1,.is (.c (.bool false))),(1,99999,.mask (mask 49 0 [0,5,18,19,20]))]) (sb:=[(1,.normal,ckO L m c (m+1))]) (keep:=[]) (by kernel_rfl) (hP (show Flat [some ⟨false,vcs L⟩] from flk vcs_f trivial) (hP (isB h0) (hP (isB h1) (hP (show Flat [some { own:=false,cells:=vcs L }] from (flk vcs_f trivial)) (hP (hb) hN)))))
theorem cf_d {L:List VR} {m c:Nat} {t:Int} (hb:TSpec Tryd.prog (.block 1 (.loop (loopOf Tryd.f58 1))) (ckO L m c 0) .ret (ckB L)) (h0:decide (t < (↑(m+(1:Nat)):Int))=false) (h1:decide ((↑(m+(1:Nat)):Int) < (3:Int))=false):FSpec Tryd.prog 58 [.sl 0 0 (m+1) c,.c (.int .i64 t)] [some ⟨false,vcs L⟩] (.c (.int .i64 (3:Int))) [some ⟨false,vcs L⟩]:=by
  exact fspec_ok Tryd.func58 (sc:=[(2,2,.is (.c (.bool false))),(4,1,.is (.c (.bool false))),(1,99999,.mask (mask 49 0 [0,5,18,19,20]))]) (sb:=[(1,.ret,ckB L)]) (keep:=[]) (by kernel_rfl) (hP (show Flat [some ⟨false,vcs L⟩] from flk vcs_f trivial) (hP (isB h0) (hP (isB h1) (hP (show Flat [some { own:=false,cells:=vcs L }] from (flk vcs_f trivial)) (hP (hb) hN)))))
theorem check_k {L:List VR} {m c:Nat} {t:Int} (hL:L.length=m+1) (ok:∀ v∈L,v.Ok) (ht:t≤100000):FSpec Tryd.prog 58 [.sl 0 0 (m+1) c,.c (.int .i64 t)] [some ⟨false,vcs L⟩] (.c (.int .i64 (ringN L t))) [some ⟨false,vcs L⟩]:=by
  unfold ringN
  rw [hL]
  by_cases h1:t < ((m+1:Nat):Int)
  · rw [if_pos h1]
    exact cf_a (decide_eq_true h1)
  rw [if_neg h1]
  by_cases h2:m+1 < 3
  · rw [if_pos h2]
    exact cf_b (decide_eq_false h1) (decide_eq_true (by omega))
  rw [if_neg h2]
  have hi:=ring_iff (X:=pX L) (Y:=pY L) (n:=m+1) (by omega)
  rcases ck_out (c:=c) hL ok (by omega) (by omega) (m+1) 0 (by omega) with ⟨a,b⟩ | ⟨⟨i',k',a1,a2,a3,a4⟩,b⟩
  · rw [if_pos (hi.1 fun i k h3 h4 h5=>a i k (Nat.zero_le _) h3 h4 h5)]
    exact cf_c b.spec (decide_eq_false h1) (decide_eq_false (by omega))
  rw [if_neg (fun hr=>a4 (hi.2 hr i' k' a1 a2 a3))]
  exact cf_d b.spec (decide_eq_false h1) (decide_eq_false (by omega))
theorem convex_k {L:List VR} {m c:Nat} (hL:L.length=m+1) (ok:∀ v∈L,v.Ok)  : FSpec Tryd.prog 20 [.sl 0 0 (m+1) c] [some ⟨false,vcs L⟩] (.c (.int .i64 (ringN L (64:Int)))) [some ⟨false,vcs L⟩]:=by
  exact fspec_ok Tryd.func20 (sc:=[(1,1,.readf (.int .i64 (ringN L (64:Int))))]) (sb:=[]) (keep:=[]) (by kernel_rfl) (hP (show Flat [some ⟨false,vcs L⟩] from flk vcs_f trivial) (hP (show Flat [some { own:=false,cells:=vcs L }] from (flk vcs_f trivial)) (hF (check_k (c:=c) (t:=(64:Int)) hL ok (by decide +kernel)) hN)))
theorem pcheck_k {L:List VR} {m c:Nat} (hL:L.length=m+1) (ok:∀ v∈L,v.Ok)  : FSpec Tryd.prog 19 [.sl 0 0 (m+1) c] [some ⟨false,vcs L⟩] (.c (.int .i64 (ringN L (8:Int)))) [some ⟨false,vcs L⟩]:=by
  exact fspec_ok Tryd.func19 (sc:=[(1,1,.readf (.int .i64 (ringN L (8:Int))))]) (sb:=[]) (keep:=[]) (by kernel_rfl) (hP (show Flat [some ⟨false,vcs L⟩] from flk vcs_f trivial) (hP (show Flat [some { own:=false,cells:=vcs L }] from (flk vcs_f trivial)) (hF (check_k (c:=c) (t:=(8:Int)) hL ok (by decide +kernel)) hN)))
end Go.Proofs.YtkpeembfagcpcaaDoor.G
end
section
namespace Go.Proofs.YtkpeembfagcpcaaDoor.G
open Go.Proofs.YtkpeembfagcpcaaDoor.U Go.RowKit
theorem rounds_all {P:Program} {body:Code} {id:Nat} {S:Nat→St} {e:St} {Q:Nat→Prop} {n:Nat} (good:∀ i,i < n→Q i→TSpec P body (S i) .normal (S (i+1))) (bad:∀ i,i < n → ¬ Q i→TSpec P body (S i) .ret e) (stop:TSpec P body (S n) (.exit id) (S n)):∀ (d i:Nat),i+d=n →
    ((∀ i',i≤i' → i' < n→Q i')∧Rounds P body id (S i) .normal (S n))∨((∃ i',i≤i' ∧ i' < n ∧ ¬ Q i')∧Rounds P body id (S i) .ret e)
  | 0,i,hi=>by
    obtain rfl:i=n:=by omega
    exact .inl ⟨fun i' h1 h2=>by omega,.stop stop⟩
  | d+1,i,hi=>by
    by_cases h:Q i
    · have st:=good i (by omega) h
      rcases rounds_all good bad stop d (i+1) (by omega) with ⟨a,b⟩ | ⟨⟨k,a1,a2,a3⟩,b⟩
      · refine .inl ⟨fun i' h1 h2=>?_,.step st b⟩
        by_cases e:i' = i
        · subst e; exact h
        exact a i' (by omega) h2
      exact .inr ⟨⟨k,by omega,a2,a3⟩,.step st b⟩
    exact .inr ⟨⟨i,Nat.le_refl _,by omega,h⟩,.ret (bad i (by omega) h)⟩
def rg3 (L:List VR) (m c i k j:Nat):St:=⟨slots 45 0 [(0,.sl 0 0 (m+1) c),(5,.c (.int .i64 (((i:Nat):Int)))),(6,.c (.int .i64 (((k:Nat):Int)))),(16,.c (.int .i64 (((m+1:Nat):Int)))),(17,.c (.int .i64 (((i:Nat):Int)))),(20,.c (.int .i64 (((i:Nat):Int)))),(21,.c (.int .i64 (((k:Nat):Int)))),(24,.c (.int .i64 (((k:Nat):Int)))),(25,.c (.int .i64 (((j:Nat):Int))))],[some ⟨false,vcs L⟩]⟩
def rg2 (L:List VR) (m c i k:Nat):St:=⟨slots 45 0 [(0,.sl 0 0 (m+1) c),(5,.c (.int .i64 (((i:Nat):Int)))),(16,.c (.int .i64 (((m+1:Nat):Int)))),(17,.c (.int .i64 (((i:Nat):Int)))),(20,.c (.int .i64 (((i:Nat):Int)))),(21,.c (.int .i64 (((k:Nat):Int))))],[some ⟨false,vcs L⟩]⟩
def rg1 (L:List VR) (m c i:Nat):St:=⟨slots 45 0 [(0,.sl 0 0 (m+1) c),(16,.c (.int .i64 (((m+1:Nat):Int)))),(17,.c (.int .i64 (((i:Nat):Int))))],[some ⟨false,vcs L⟩]⟩
def rgB (L:List VR):St:=⟨slots 45 0 [(4,.c (.int .i64 3))],[some ⟨false,vcs L⟩]⟩
theorem side_k {n1:Bool} {a1 b1:ByteArray} {x1:Rat} {K1:Nat}{n2:Bool} {a2 b2:ByteArray} {x2:Rat} {K2:Nat}{n3:Bool} {a3 b3:ByteArray} {x3:Rat} {K3:Nat}{n4:Bool} {a4 b4:ByteArray} {x4:Rat} {K4:Nat}{n5:Bool} {a5 b5:ByteArray} {x5:Rat} {K5:Nat}{n6:Bool} {a6 b6:ByteArray} {x6:Rat} {K6:Nat} (h1':IsR n1 a1 b1 x1 K1) (k1:K1≤100000000) (h2':IsR n2 a2 b2 x2 K2) (k2:K2≤100000000) (h3':IsR n3 a3 b3 x3 K3) (k3:K3≤100000000) (h4':IsR n4 a4 b4 x4 K4) (k4:K4≤100000000) (h5':IsR n5 a5 b5 x5 K5) (k5:K5≤100000000) (h6':IsR n6 a6 b6 x6 K6) (k6:K6≤100000000)  : CSpec Tryd.prog 57 #[(ag [rr n1 a1 b1,rr n2 a2 b2]),(ag [rr n3 a3 b3,rr n4 a4 b4]),(ag [rr n5 a5 b5,rr n6 a6 b6])] (.int .i64 (Int.sign (Rat.num ((x3 - x1)*(x6 - x2) - (x4 - x2)*(x5 - x1))))):=by
  have s0:=(sub_s (szr h3') (szr h1'))
  have s1:=(isR_s s0)
  have s2:=(sub_s (szr h4') (szr h2'))
  have s3:=(isR_s s2)
  have s4:=(sub_s (szr h5') (szr h1'))
  have s5:=(isR_s s4)
  have s6:=(sub_s (szr h6') (szr h2'))
  have s7:=(isR_s s6)
  have s8:=(mul_s s0 s6)
  have s9:=(mul_s s2 s4)
  have s10:=(sub_s s8 s9)
  have s11:=(isR_s s10)
  exact fn_ok Tryd.func57 (sc:=[(1,2,.fix (ag [rc (x3 - x1),rc (x4 - x2)])),(1,5,.fix (ag [rc (x5 - x1),rc (x6 - x2)])),(1,6,.fix (Rv ((x3 - x1)*(x6 - x2) - (x4 - x2)*(x5 - x1)))),(1,7,.fix (.int .i64 (Int.sign (Rat.num ((x3 - x1)*(x6 - x2) - (x4 - x2)*(x5 - x1))))))]) (sb:=[]) (by kernel_rfl) (hC (rv_k h1' (by omega) h2' (by omega) h3' (by omega) h4' (by omega)) (hC (rv_k h1' (by omega) h2' (by omega) h5' (by omega) h6' (by omega)) (hC (rcross_k s1 (by omega) s3 (by omega) s5 (by omega) s7 (by omega)) (hC (sign_k s11 (by omega)) hN))))
theorem rg_a {L:List VR} {u v w:VR} {m c i k j:Nat} (hu:L[j]? = some u) (hv:L[k]? = some v) (hw:L[i]? = some w) (ou:u.Ok) (ov:v.Ok) (ow:w.Ok) (hj:j < m+1) (hk:k < m+1) (hi:i < m+1) (hm:m < 1000000) (h0:decide ((↑j:Int) < (↑k:Int))=true) (h7:decide (Int.sign (Rat.num ((VR.x v - VR.x u)*(VR.y w - VR.y u) - (VR.y v - VR.y u)*(VR.x w - VR.x u)))≤(0:Int))=false):TSpec Tryd.prog (loopOf Tryd.f18 4) (rg3 L m c i k j) (.normal) (rg3 L m c i k (j+1)):=by
  have s1:=(vr1_s ou)
  have s2:=(vr2_s ou)
  have s3:=(vr1_s ov)
  have s4:=(vr2_s ov)
  have s5:=(vr1_s ow)
  have s6:=(vr2_s ow)
  exact tspec_dim (mask 45 0 [0,5,6,16,17,20,21,24,25]) 1 (sc:=[(12,0,.is (.c (.bool true))),(14,3,.fix (ag [[.bool (VR.n1 u)],[.string (VR.a1 u)],[.string (VR.b1 u)],[.bool (VR.n2 u)],[.string (VR.a2 u)],[.string (VR.b2 u)]])),(14,7,.fix (ag [[.bool (VR.n1 v)],[.string (VR.a1 v)],[.string (VR.b1 v)],[.bool (VR.n2 v)],[.string (VR.a2 v)],[.string (VR.b2 v)]])),(14,11,.fix (ag [[.bool (VR.n1 w)],[.string (VR.a1 w)],[.string (VR.b1 w)],[.bool (VR.n2 w)],[.string (VR.a2 w)],[.string (VR.b2 w)]])),(14,12,.fix (.int .i64 (Int.sign (Rat.num ((VR.x v - VR.x u)*(VR.y w - VR.y u) - (VR.y v - VR.y u)*(VR.x w - VR.x u)))))),(14,13,.is (.c (.bool false))),(16,0,.is (.c (.int .i64 ((↑(j+(1:Nat)):Int)))))]) (sb:=[]) (by kernel_rfl) (hP (isB h0) (hP (show (0:Int)≤(↑j:Int)∧(↑j:Int) < (↑(m+(1:Nat)):Int) by omega) (hP (vcs_ld hu) (hP (show (0:Int)≤(↑k:Int)∧(↑k:Int) < (↑(m+(1:Nat)):Int) by omega) (hP (vcs_ld hv) (hP (show (0:Int)≤(↑i:Int)∧(↑i:Int) < (↑(m+(1:Nat)):Int) by omega) (hP (vcs_ld hw) (hC (side_k s1 (by decide +kernel) s2 (by decide +kernel) s3 (by decide +kernel) s4 (by decide +kernel) s5 (by decide +kernel) s6 (by decide +kernel)) (hP (isB h7) (hP (incn (i:=j) hj (by omega)) hN)))))))))) (flk vcs_f trivial)
theorem rg_b {L:List VR} {u v w:VR} {m c i k j:Nat} (hu:L[j]? = some u) (hv:L[k]? = some v) (hw:L[i]? = some w) (ou:u.Ok) (ov:v.Ok) (ow:w.Ok) (hj:j < m+1) (hk:k < m+1) (hi:i < m+1) (hm:m < 1000000) (h0:decide ((↑j:Int) < (↑k:Int))=true) (h7:decide (Int.sign (Rat.num ((VR.x v - VR.x u)*(VR.y w - VR.y u) - (VR.y v - VR.y u)*(VR.x w - VR.x u)))≤(0:Int))=true):TSpec Tryd.prog (loopOf Tryd.f18 4) (rg3 L m c i k j) (.ret) (rgB L):=by
  have s1:=(vr1_s ou)
  have s2:=(vr2_s ou)
  have s3:=(vr1_s ov)
  have s4:=(vr2_s ov)
  have s5:=(vr1_s ow)
  have s6:=(vr2_s ow)
  exact tspec_dim (mask 45 0 [4]) 1 (sc:=[(12,0,.is (.c (.bool true))),(14,3,.fix (ag [[.bool (VR.n1 u)],[.string (VR.a1 u)],[.string (VR.b1 u)],[.bool (VR.n2 u)],[.string (VR.a2 u)],[.string (VR.b2 u)]])),(14,7,.fix (ag [[.bool (VR.n1 v)],[.string (VR.a1 v)],[.string (VR.b1 v)],[.bool (VR.n2 v)],[.string (VR.a2 v)],[.string (VR.b2 v)]])),(14,11,.fix (ag [[.bool (VR.n1 w)],[.string (VR.a1 w)],[.string (VR.b1 w)],[.bool (VR.n2 w)],[.string (VR.a2 w)],[.string (VR.b2 w)]])),(14,12,.fix (.int .i64 (Int.sign (Rat.num ((VR.x v - VR.x u)*(VR.y w - VR.y u) - (VR.y v - VR.y u)*(VR.x w - VR.x u)))))),(14,13,.is (.c (.bool true)))]) (sb:=[]) (by kernel_rfl) (hP (isB h0) (hP (show (0:Int)≤(↑j:Int)∧(↑j:Int) < (↑(m+(1:Nat)):Int) by omega) (hP (vcs_ld hu) (hP (show (0:Int)≤(↑k:Int)∧(↑k:Int) < (↑(m+(1:Nat)):Int) by omega) (hP (vcs_ld hv) (hP (show (0:Int)≤(↑i:Int)∧(↑i:Int) < (↑(m+(1:Nat)):Int) by omega) (hP (vcs_ld hw) (hC (side_k s1 (by decide +kernel) s2 (by decide +kernel) s3 (by decide +kernel) s4 (by decide +kernel) s5 (by decide +kernel) s6 (by decide +kernel)) (hP (isB h7) hN))))))))) (flk vcs_f trivial)
theorem rg_c {L:List VR} {m c i k j:Nat}  (h0:decide ((↑j:Int) < (↑k:Int))=false):TSpec Tryd.prog (loopOf Tryd.f18 4) (rg3 L m c i k j) (.exit 4) (rg3 L m c i k j):=by
  exact tspec_dim (mask 45 0 [0,5,6,16,17,20,21,24,25]) 1 (sc:=[(12,0,.is (.c (.bool false)))]) (sb:=[]) (by kernel_rfl) (hP (isB h0) hN) (flk vcs_f trivial)
theorem rg_d {L:List VR} {m c i k:Nat} (hk:k < m+1) (hm:m < 1000000) (hb:TSpec Tryd.prog (.block 4 (.loop (loopOf Tryd.f18 4))) (rg3 L m c i k 0) .normal (rg3 L m c i k k)) (h0:decide ((↑k:Int) < (↑i:Int))=true):TSpec Tryd.prog (loopOf Tryd.f18 2) (rg2 L m c i k) (.normal) (rg2 L m c i (k+1)):=by
  exact tspec_dim (mask 45 0 [0,5,16,17,20,21]) 1 (sc:=[(9,0,.is (.c (.bool true))),(4,99999,.mask (mask 45 0 [0,5,6,16,17,20,21,24,25])),(17,0,.is (.c (.int .i64 ((↑(k+(1:Nat)):Int)))))]) (sb:=[(4,.normal,rg3 L m c i k k)]) (by kernel_rfl) (hP (isB h0) (hP (show Flat [some { own:=false,cells:=vcs L }] from (flk vcs_f trivial)) (hP (hb) (hP (incn (i:=k) hk (by omega)) hN)))) (flk vcs_f trivial)
theorem rg_e {L:List VR} {m c i k:Nat} (hk:k < m+1) (hm:m < 1000000) (hb:TSpec Tryd.prog (.block 4 (.loop (loopOf Tryd.f18 4))) (rg3 L m c i k 0) .ret (rgB L)) (h0:decide ((↑k:Int) < (↑i:Int))=true):TSpec Tryd.prog (loopOf Tryd.f18 2) (rg2 L m c i k) (.ret) (rgB L):=by
  exact tspec_dim (mask 45 0 [4]) 1 (sc:=[(9,0,.is (.c (.bool true))),(4,99999,.mask (mask 45 0 [0,5,6,16,17,20,21,24,25]))]) (sb:=[(4,.ret,rgB L)]) (by kernel_rfl) (hP (isB h0) (hP (show Flat [some { own:=false,cells:=vcs L }] from (flk vcs_f trivial)) (hP (hb) hN))) (flk vcs_f trivial)
theorem rg_f {L:List VR} {m c i k:Nat}  (h0:decide ((↑k:Int) < (↑i:Int))=false):TSpec Tryd.prog (loopOf Tryd.f18 2) (rg2 L m c i k) (.exit 2) (rg2 L m c i k):=by
  exact tspec_dim (mask 45 0 [0,5,16,17,20,21]) 1 (sc:=[(9,0,.is (.c (.bool false)))]) (sb:=[]) (by kernel_rfl) (hP (isB h0) hN) (flk vcs_f trivial)
theorem rg_g {L:List VR} {m c i:Nat} (hi:i < m+1) (hm:m < 1000000) (hb:TSpec Tryd.prog (.block 2 (.loop (loopOf Tryd.f18 2))) (rg2 L m c i 0) .normal (rg2 L m c i i)) (h0:decide ((↑i:Int) < (↑(m+(1:Nat)):Int))=true):TSpec Tryd.prog (loopOf Tryd.f18 0) (rg1 L m c i) (.normal) (rg1 L m c (i+1)):=by
  exact tspec_dim (mask 45 0 [0,16,17]) 1 (sc:=[(6,0,.is (.c (.bool true))),(2,99999,.mask (mask 45 0 [0,5,16,17,20,21])),(18,0,.is (.c (.int .i64 ((↑(i+(1:Nat)):Int)))))]) (sb:=[(2,.normal,rg2 L m c i i)]) (by kernel_rfl) (hP (isB h0) (hP (show Flat [some { own:=false,cells:=vcs L }] from (flk vcs_f trivial)) (hP (hb) (hP (incn (i:=i) hi (by omega)) hN)))) (flk vcs_f trivial)
theorem rg_h {L:List VR} {m c i:Nat} (hi:i < m+1) (hm:m < 1000000) (hb:TSpec Tryd.prog (.block 2 (.loop (loopOf Tryd.f18 2))) (rg2 L m c i 0) .ret (rgB L)) (h0:decide ((↑i:Int) < (↑(m+(1:Nat)):Int))=true):TSpec Tryd.prog (loopOf Tryd.f18 0) (rg1 L m c i) (.ret) (rgB L):=by
  exact tspec_dim (mask 45 0 [4]) 1 (sc:=[(6,0,.is (.c (.bool true))),(2,99999,.mask (mask 45 0 [0,5,16,17,20,21]))]) (sb:=[(2,.ret,rgB L)]) (by kernel_rfl) (hP (isB h0) (hP (show Flat [some { own:=false,cells:=vcs L }] from (flk vcs_f trivial)) (hP (hb) hN))) (flk vcs_f trivial)
theorem rg_i {L:List VR} {m c i:Nat}  (h0:decide ((↑i:Int) < (↑(m+(1:Nat)):Int))=false):TSpec Tryd.prog (loopOf Tryd.f18 0) (rg1 L m c i) (.exit 0) (rg1 L m c i):=by
  exact tspec_dim (mask 45 0 [0,16,17]) 1 (sc:=[(6,0,.is (.c (.bool false)))]) (sb:=[]) (by kernel_rfl) (hP (isB h0) hN) (flk vcs_f trivial)
section
variable {L:List VR} {m c:Nat} (hL:L.length=m+1) (ok:∀ v∈L,v.Ok) (hm:m < 1000000)
include hL ok hm
theorem rg_in {i k:Nat} (hi:i < m+1) (hk:k < i) :
    ((∀ j,0≤j→j < k→0 < sd (pX L) (pY L) j k i)∧Rounds Tryd.prog (loopOf Tryd.f18 4) 4 (rg3 L m c i k 0) .normal (rg3 L m c i k k)) ∨
    ((∃ j,0≤j∧j < k ∧ ¬ 0 < sd (pX L) (pY L) j k i)∧Rounds Tryd.prog (loopOf Tryd.f18 4) 4 (rg3 L m c i k 0) .ret (rgB L)):=by
  have hv:=List.getElem?_eq_getElem (l:=L) (i:=k) (by omega)
  have hw:=List.getElem?_eq_getElem (l:=L) (i:=i) (by omega)
  refine rounds_all (S:=fun j=>rg3 L m c i k j) (fun j hj h=>?_) (fun j hj h=>?_) (rg_c (decide_eq_false (by omega))) k 0 (by omega)
  · have hu:=List.getElem?_eq_getElem (l:=L) (i:=j) (by omega)
    exact rg_a hu hv hw (ok _ (List.mem_of_getElem? hu)) (ok _ (List.mem_of_getElem? hv)) (ok _ (List.mem_of_getElem? hw)) (by omega) (by omega) hi hm (decide_eq_true (by omega)) (by rw [sgn_le,← sgn_sd hu hv hw,decide_eq_true h]; rfl)
  have hu:=List.getElem?_eq_getElem (l:=L) (i:=j) (by omega)
  exact rg_b hu hv hw (ok _ (List.mem_of_getElem? hu)) (ok _ (List.mem_of_getElem? hv)) (ok _ (List.mem_of_getElem? hw)) (by omega) (by omega) hi hm (decide_eq_true (by omega)) (by rw [sgn_le,← sgn_sd hu hv hw,decide_eq_false h]; rfl)
open Classical in
theorem rg_mid {i:Nat} (hi:i < m+1) :
    ((∀ k,0≤k→k < i → ∀ j,0≤j→j < k→0 < sd (pX L) (pY L) j k i)∧Rounds Tryd.prog (loopOf Tryd.f18 2) 2 (rg2 L m c i 0) .normal (rg2 L m c i i)) ∨
    ((∃ k,0≤k∧k < i ∧ ¬ ∀ j,0≤j→j < k→0 < sd (pX L) (pY L) j k i)∧Rounds Tryd.prog (loopOf Tryd.f18 2) 2 (rg2 L m c i 0) .ret (rgB L)):=by
  refine rounds_all (S:=fun k=>rg2 L m c i k) (fun k hk h=>?_) (fun k hk h=>?_) (rg_f (decide_eq_false (by omega))) i 0 (by omega)
  · rcases rg_in (c:=c) hL ok hm hi hk with ⟨a,b⟩ | ⟨⟨j,a1,a2,a3⟩,b⟩
    · exact rg_d (by omega) hm b.spec (decide_eq_true (by omega))
    exact absurd (h j a1 a2) a3
  rcases rg_in (c:=c) hL ok hm hi hk with ⟨a,b⟩ | ⟨_,b⟩
  · exact absurd a h
  exact rg_e (by omega) hm b.spec (decide_eq_true (by omega))
theorem rg_out :
    ((∀ i,0≤i→i < m+1 → ∀ k,0≤k→k < i → ∀ j,0≤j→j < k→0 < sd (pX L) (pY L) j k i)∧Rounds Tryd.prog (loopOf Tryd.f18 0) 0 (rg1 L m c 0) .normal (rg1 L m c (m+1))) ∨
    ((∃ i,0≤i∧i < m+1 ∧ ¬ ∀ k,0≤k→k < i → ∀ j,0≤j→j < k→0 < sd (pX L) (pY L) j k i)∧Rounds Tryd.prog (loopOf Tryd.f18 0) 0 (rg1 L m c 0) .ret (rgB L)):=by
  refine rounds_all (S:=fun i=>rg1 L m c i) (fun i hi h=>?_) (fun i hi h=>?_) (rg_i (decide_eq_false (by omega))) (m+1) 0 (by omega)
  · rcases rg_mid (c:=c) hL ok hm hi with ⟨a,b⟩ | ⟨⟨k,a1,a2,a3⟩,b⟩
    · exact rg_g hi hm b.spec (decide_eq_true (by omega))
    exact absurd (h k a1 a2) a3
  rcases rg_mid (c:=c) hL ok hm hi with ⟨a,b⟩ | ⟨_,b⟩
  · exact absurd a h
  exact rg_h hi hm b.spec (decide_eq_true (by omega))
end
theorem rf_a {L:List VR} {m c:Nat} {t:Int}  (h0:decide (t < (↑(m+(1:Nat)):Int))=true):FSpec Tryd.prog 18 [.sl 0 0 (m+1) c,.c (.int .i64 t)] [some ⟨false,vcs L⟩] (.c (.int .i64 (2:Int))) [some ⟨false,vcs L⟩]:=by
  exact fspec_ok Tryd.func18 (sc:=[(1,3,.is (.c (.bool true)))]) (sb:=[]) (keep:=[]) (by kernel_rfl) (hP (show Flat [some ⟨false,vcs L⟩] from flk vcs_f trivial) (hP (isB h0) hN))
theorem rf_b {L:List VR} {m c:Nat} {t:Int}  (h0:decide (t < (↑(m+(1:Nat)):Int))=false) (h1:decide ((↑(m+(1:Nat)):Int) < (3:Int))=true):FSpec Tryd.prog 18 [.sl 0 0 (m+1) c,.c (.int .i64 t)] [some ⟨false,vcs L⟩] (.c (.int .i64 (3:Int))) [some ⟨false,vcs L⟩]:=by
  exact fspec_ok Tryd.func18 (sc:=[(1,3,.is (.c (.bool false))),(3,2,.is (.c (.bool true)))]) (sb:=[]) (keep:=[]) (by kernel_rfl) (hP (show Flat [some ⟨false,vcs L⟩] from flk vcs_f trivial) (hP (isB h0) (hP (isB h1) hN)))
theorem rf_c {L:List VR} {m c:Nat} {t:Int} (hb:TSpec Tryd.prog (.block 0 (.loop (loopOf Tryd.f18 0))) (rg1 L m c 0) .normal (rg1 L m c (m+1))) (h0:decide (t < (↑(m+(1:Nat)):Int))=false) (h1:decide ((↑(m+(1:Nat)):Int) < (3:Int))=false):FSpec Tryd.prog 18 [.sl 0 0 (m+1) c,.c (.int .i64 t)] [some ⟨false,vcs L⟩] (.c (.int .i64 (0:Int))) [some ⟨false,vcs L⟩]:=by
  exact fspec_ok Tryd.func18 (sc:=[(1,3,.is (.c (.bool false))),(3,2,.is (.c (.bool false))),(0,99999,.mask (mask 45 0 [0,16,17]))]) (sb:=[(0,.normal,rg1 L m c (m+1))]) (keep:=[]) (by kernel_rfl) (hP (show Flat [some ⟨false,vcs L⟩] from flk vcs_f trivial) (hP (isB h0) (hP (isB h1) (hP (show Flat [some { own:=false,cells:=vcs L }] from (flk vcs_f trivial)) (hP (hb) hN)))))
theorem rf_d {L:List VR} {m c:Nat} {t:Int} (hb:TSpec Tryd.prog (.block 0 (.loop (loopOf Tryd.f18 0))) (rg1 L m c 0) .ret (rgB L)) (h0:decide (t < (↑(m+(1:Nat)):Int))=false) (h1:decide ((↑(m+(1:Nat)):Int) < (3:Int))=false):FSpec Tryd.prog 18 [.sl 0 0 (m+1) c,.c (.int .i64 t)] [some ⟨false,vcs L⟩] (.c (.int .i64 (3:Int))) [some ⟨false,vcs L⟩]:=by
  exact fspec_ok Tryd.func18 (sc:=[(1,3,.is (.c (.bool false))),(3,2,.is (.c (.bool false))),(0,99999,.mask (mask 45 0 [0,16,17]))]) (sb:=[(0,.ret,rgB L)]) (keep:=[]) (by kernel_rfl) (hP (show Flat [some ⟨false,vcs L⟩] from flk vcs_f trivial) (hP (isB h0) (hP (isB h1) (hP (show Flat [some { own:=false,cells:=vcs L }] from (flk vcs_f trivial)) (hP (hb) hN)))))
theorem ring_k {L:List VR} {m c:Nat} {t:Int} (hL:L.length=m+1) (ok:∀ v∈L,v.Ok) (ht:t≤100000):FSpec Tryd.prog 18 [.sl 0 0 (m+1) c,.c (.int .i64 t)] [some ⟨false,vcs L⟩] (.c (.int .i64 (ringN L t))) [some ⟨false,vcs L⟩]:=by
  unfold ringN
  rw [hL]
  by_cases h1:t < ((m+1:Nat):Int)
  · rw [if_pos h1]
    exact rf_a (decide_eq_true h1)
  rw [if_neg h1]
  by_cases h2:m+1 < 3
  · rw [if_pos h2]
    exact rf_b (decide_eq_false h1) (decide_eq_true (by omega))
  rw [if_neg h2]
  rcases rg_out (c:=c) hL ok (by omega) with ⟨a,b⟩ | ⟨⟨i,a1,a2,a3⟩,b⟩
  · have hr:RingOk (pX L) (pY L) (m+1):=fun i k j h3 h4 h5=>a i (Nat.zero_le _) h3 k (Nat.zero_le _) h4 j (Nat.zero_le _) h5
    rw [if_pos hr]
    exact rf_c b.spec (decide_eq_false h1) (decide_eq_false (by omega))
  have hr:¬ RingOk (pX L) (pY L) (m+1):=fun hr=>a3 fun k _ h4 j _ h5=>hr i k j a2 h4 h5
  rw [if_neg hr]
  exact rf_d b.spec (decide_eq_false h1) (decide_eq_false (by omega))
end Go.Proofs.YtkpeembfagcpcaaDoor.G
end
section
namespace Go.Proofs.YtkpeembfagcpcaaDoor.G
open Go.Proofs.YtkpeembfagcpcaaDoor.U Go.RowKit
theorem sgn_sp {L:List VR} {i j:Nat} {u v:VR} {x y:Rat} (hu:L[i]? = some u) (hv:L[j]? = some v):sp (pX L) (pY L) i j x y=(v.x - u.x)*(y - u.y) - (v.y - u.y)*(x - u.x):=by
  unfold sp
  rw [pX_at hu,pX_at hv,pY_at hu,pY_at hv]
theorem sgn_ge {x:Rat}:decide (0≤Int.sign (Rat.num x))=decide (0≤x):=by
  refine decide_eq_decide.2 ?_
  have:=sign_lt (x:=x)
  rw [← Rat.not_lt,← this]
  omega
theorem subn {i:Nat} (h:i < 1000000):V.c (.int .i64 (IntKind.wrap .i64 (((i+2:Nat):Int) - 1))) = .c (.int .i64 ((i+1:Nat):Int)):=by
  congr 2
  rw [IntKind.wrap_i64]
  push_cast
  omega
noncomputable def insB (L:List VR) (x y:Rat):Bool:=@decide (EdgeIn (pX L) (pY L) L.length x y) (Classical.propDecidable _)
noncomputable def fanB (L:List VR) (x y:Rat):Bool:=@decide (FanIn (pX L) (pY L) L.length x y) (Classical.propDecidable _)
def MustBad (L:List VR):Prop:=ringN L 64≠0
def MustPoly (L:List VR):Prop:=ringN L 64=0
def haS (L:List VR) (P:List V) (m c i:Nat):St:=⟨slots 30 0 [(0,.sl 0 0 (m+1) c),(3,.p 1 0),(10,.sl 0 0 (m+1) c),(11,.c (.int .i64 (((m+1:Nat):Int)))),(12,.c (.int .i64 (((i:Nat):Int))))],[some ⟨false,vcs L⟩,some ⟨true,P⟩]⟩
def haB (L:List VR) (P:List V):St:=⟨slots 30 0 [(4,.c (.bool false))],[some ⟨false,vcs L⟩,some ⟨true,P⟩]⟩
def inS (L:List VR) (P:List V) (m c k:Nat):St:=⟨slots 49 0 [(0,.sl 0 0 (m+1) c),(3,.p 1 0),(5,.c (.int .i64 (((k+2:Nat):Int))))],[some ⟨false,vcs L⟩,some ⟨true,P⟩]⟩
def inB (L:List VR) (P:List V):St:=⟨slots 49 0 [(4,.c (.bool true))],[some ⟨false,vcs L⟩,some ⟨true,P⟩]⟩
theorem ha_a {L:List VR} {u v:VR} {m c i:Nat} {n1:Bool} {a1 b1:ByteArray} {n2:Bool} {a2 b2:ByteArray} {x1 x2:Rat}  (h1':IsR n1 a1 b1 x1 1048576) (h2':IsR n2 a2 b2 x2 1048576) (hu:L[i]? = some u) (hv:L[(i+1)%(m+1)]? = some v) (ou:u.Ok) (ov:v.Ok) (hi:i < m+1) (hm:m < 1000000) (e1:(i+1)%(m+1) < m+1) (h0:decide ((↑i:Int) < (↑(m+(1:Nat)):Int))=true) (h5:decide (Int.sign (Rat.num ((VR.x v - VR.x u)*(x2 - VR.y u) - (VR.y v - VR.y u)*(x1 - VR.x u))) < (0:Int))=false):TSpec Tryd.prog (loopOf Tryd.f23 0) (haS L (nv [rr n1 a1 b1,rr n2 a2 b2]) m c i) (.normal) (haS L (nv [rr n1 a1 b1,rr n2 a2 b2]) m c (i+1)):=by
  have s1:=(vr1_s ou)
  have s2:=(vr2_s ou)
  have s3:=(vr1_s ov)
  have s4:=(vr2_s ov)
  exact tspec_dim (mask 30 0 [0,3,10,11,12]) 2 (sc:=[(4,0,.is (.c (.bool true))),(5,2,.fix (ag [[.bool (VR.n1 u)],[.string (VR.a1 u)],[.string (VR.b1 u)],[.bool (VR.n2 u)],[.string (VR.a2 u)],[.string (VR.b2 u)]])),(6,3,.is (.c (.int .i64 ((↑(i+(1:Nat)):Int))))),(6,6,.is (.c (.int .i64 ((↑((i+(1:Nat))%(m+(1:Nat))):Int))))),(6,8,.fix (ag [[.bool (VR.n1 v)],[.string (VR.a1 v)],[.string (VR.b1 v)],[.bool (VR.n2 v)],[.string (VR.a2 v)],[.string (VR.b2 v)]])),(6,10,.fix (.int .i64 (Int.sign (Rat.num ((VR.x v - VR.x u)*(x2 - VR.y u) - (VR.y v - VR.y u)*(x1 - VR.x u)))))),(6,11,.is (.c (.bool false))),(8,0,.is (.c (.int .i64 ((↑(i+(1:Nat)):Int)))))]) (sb:=[]) (by kernel_rfl) (hP (isB h0) (hP (show (0:Int)≤(↑i:Int)∧(↑i:Int) < (↑(m+(1:Nat)):Int) by omega) (hP (vcs_ld hu) (hP (incn (i:=i) hi (by omega)) (hP (show V.c (Value.int .i64 (Int.tmod (↑(i+(1:Nat)):Int) (↑(m+(1:Nat)):Int))) = .c (.int .i64 ((↑((i+(1:Nat))%(m+(1:Nat))):Int))) from (rfl)) (hP (show (0:Int)≤(↑((i+(1:Nat))%(m+(1:Nat))):Int)∧(↑((i+(1:Nat))%(m+(1:Nat))):Int) < (↑(m+(1:Nat)):Int) by omega) (hP (vcs_ld hv) (hC (left_k s1 (by decide +kernel) s2 (by decide +kernel) s3 (by decide +kernel) s4 (by decide +kernel) h1' (by decide +kernel) h2' (by decide +kernel)) (hP (isB h5) (hP (incn (i:=i) hi (by omega)) hN)))))))))) (flk vcs_f (flk flnv trivial))
theorem ha_b {L:List VR} {u v:VR} {m c i:Nat} {n1:Bool} {a1 b1:ByteArray} {n2:Bool} {a2 b2:ByteArray} {x1 x2:Rat}  (h1':IsR n1 a1 b1 x1 1048576) (h2':IsR n2 a2 b2 x2 1048576) (hu:L[i]? = some u) (hv:L[(i+1)%(m+1)]? = some v) (ou:u.Ok) (ov:v.Ok) (hi:i < m+1) (hm:m < 1000000) (e1:(i+1)%(m+1) < m+1) (h0:decide ((↑i:Int) < (↑(m+(1:Nat)):Int))=true) (h5:decide (Int.sign (Rat.num ((VR.x v - VR.x u)*(x2 - VR.y u) - (VR.y v - VR.y u)*(x1 - VR.x u))) < (0:Int))=true):TSpec Tryd.prog (loopOf Tryd.f23 0) (haS L (nv [rr n1 a1 b1,rr n2 a2 b2]) m c i) (.ret) (haB L (nv [rr n1 a1 b1,rr n2 a2 b2])):=by
  have s1:=(vr1_s ou)
  have s2:=(vr2_s ou)
  have s3:=(vr1_s ov)
  have s4:=(vr2_s ov)
  exact tspec_dim (mask 30 0 [4]) 2 (sc:=[(4,0,.is (.c (.bool true))),(5,2,.fix (ag [[.bool (VR.n1 u)],[.string (VR.a1 u)],[.string (VR.b1 u)],[.bool (VR.n2 u)],[.string (VR.a2 u)],[.string (VR.b2 u)]])),(6,3,.is (.c (.int .i64 ((↑(i+(1:Nat)):Int))))),(6,6,.is (.c (.int .i64 ((↑((i+(1:Nat))%(m+(1:Nat))):Int))))),(6,8,.fix (ag [[.bool (VR.n1 v)],[.string (VR.a1 v)],[.string (VR.b1 v)],[.bool (VR.n2 v)],[.string (VR.a2 v)],[.string (VR.b2 v)]])),(6,10,.fix (.int .i64 (Int.sign (Rat.num ((VR.x v - VR.x u)*(x2 - VR.y u) - (VR.y v - VR.y u)*(x1 - VR.x u)))))),(6,11,.is (.c (.bool true)))]) (sb:=[]) (by kernel_rfl) (hP (isB h0) (hP (show (0:Int)≤(↑i:Int)∧(↑i:Int) < (↑(m+(1:Nat)):Int) by omega) (hP (vcs_ld hu) (hP (incn (i:=i) hi (by omega)) (hP (show V.c (Value.int .i64 (Int.tmod (↑(i+(1:Nat)):Int) (↑(m+(1:Nat)):Int))) = .c (.int .i64 ((↑((i+(1:Nat))%(m+(1:Nat))):Int))) from (rfl)) (hP (show (0:Int)≤(↑((i+(1:Nat))%(m+(1:Nat))):Int)∧(↑((i+(1:Nat))%(m+(1:Nat))):Int) < (↑(m+(1:Nat)):Int) by omega) (hP (vcs_ld hv) (hC (left_k s1 (by decide +kernel) s2 (by decide +kernel) s3 (by decide +kernel) s4 (by decide +kernel) h1' (by decide +kernel) h2' (by decide +kernel)) (hP (isB h5) hN))))))))) (flk vcs_f (flk flnv trivial))
theorem ha_c {L:List VR} {m c i:Nat} {n1:Bool} {a1 b1:ByteArray} {n2:Bool} {a2 b2:ByteArray}  (h0:decide ((↑i:Int) < (↑(m+(1:Nat)):Int))=false):TSpec Tryd.prog (loopOf Tryd.f23 0) (haS L (nv [rr n1 a1 b1,rr n2 a2 b2]) m c i) (.exit 0) (haS L (nv [rr n1 a1 b1,rr n2 a2 b2]) m c i):=by
  exact tspec_dim (mask 30 0 [0,3,10,11,12]) 2 (sc:=[(4,0,.is (.c (.bool false)))]) (sb:=[]) (by kernel_rfl) (hP (isB h0) hN) (flk vcs_f (flk flnv trivial))
theorem in_a {L:List VR} {u v w:VR} {m c k:Nat} {n1:Bool} {a1 b1:ByteArray} {n2:Bool} {a2 b2:ByteArray} {x1 x2:Rat}  (h1':IsR n1 a1 b1 x1 1048576) (h2':IsR n2 a2 b2 x2 1048576) (hu:L[0]? = some u) (hv:L[k+1]? = some v) (hw:L[k+2]? = some w) (ou:u.Ok) (ov:v.Ok) (ow:w.Ok) (hk:k+2 < m+1) (hm:m < 100000) (h0:decide ((↑(k+(2:Nat)):Int) < (↑(m+(1:Nat)):Int))=true) (h5:decide ((0:Int)≤Int.sign (Rat.num ((VR.x v - VR.x u)*(x2 - VR.y u) - (VR.y v - VR.y u)*(x1 - VR.x u))))=true) (h8:decide ((0:Int)≤Int.sign (Rat.num ((VR.x w - VR.x v)*(x2 - VR.y v) - (VR.y w - VR.y v)*(x1 - VR.x v))))=true) (h9:decide ((0:Int)≤Int.sign (Rat.num ((VR.x u - VR.x w)*(x2 - VR.y w) - (VR.y u - VR.y w)*(x1 - VR.x w))))=true):TSpec Tryd.prog (loopOf Tryd.f29 0) (inS L (nv [rr n1 a1 b1,rr n2 a2 b2]) m c k) (.ret) (inB L (nv [rr n1 a1 b1,rr n2 a2 b2])):=by
  have s1:=(vr1_s ou)
  have s2:=(vr2_s ou)
  have s3:=(vr1_s ov)
  have s4:=(vr2_s ov)
  have s6:=(vr1_s ow)
  have s7:=(vr2_s ow)
  exact tspec_dim (mask 49 0 [4]) 2 (sc:=[(2,3,.is (.c (.bool true))),(4,2,.fix (ag [[.bool (VR.n1 u)],[.string (VR.a1 u)],[.string (VR.b1 u)],[.bool (VR.n2 u)],[.string (VR.a2 u)],[.string (VR.b2 u)]])),(4,5,.is (.c (.int .i64 ((↑(k+(1:Nat)):Int))))),(4,7,.fix (ag [[.bool (VR.n1 v)],[.string (VR.a1 v)],[.string (VR.b1 v)],[.bool (VR.n2 v)],[.string (VR.a2 v)],[.string (VR.b2 v)]])),(4,9,.fix (.int .i64 (Int.sign (Rat.num ((VR.x v - VR.x u)*(x2 - VR.y u) - (VR.y v - VR.y u)*(x1 - VR.x u)))))),(4,10,.is (.c (.bool true))),(4,14,.is (.c (.int .i64 ((↑(k+(1:Nat)):Int))))),(4,16,.fix (ag [[.bool (VR.n1 v)],[.string (VR.a1 v)],[.string (VR.b1 v)],[.bool (VR.n2 v)],[.string (VR.a2 v)],[.string (VR.b2 v)]])),(4,20,.fix (ag [[.bool (VR.n1 w)],[.string (VR.a1 w)],[.string (VR.b1 w)],[.bool (VR.n2 w)],[.string (VR.a2 w)],[.string (VR.b2 w)]])),(4,22,.fix (.int .i64 (Int.sign (Rat.num ((VR.x w - VR.x v)*(x2 - VR.y v) - (VR.y w - VR.y v)*(x1 - VR.x v)))))),(4,23,.is (.c (.bool true))),(4,29,.fix (ag [[.bool (VR.n1 w)],[.string (VR.a1 w)],[.string (VR.b1 w)],[.bool (VR.n2 w)],[.string (VR.a2 w)],[.string (VR.b2 w)]])),(4,32,.fix (ag [[.bool (VR.n1 u)],[.string (VR.a1 u)],[.string (VR.b1 u)],[.bool (VR.n2 u)],[.string (VR.a2 u)],[.string (VR.b2 u)]])),(4,34,.fix (.int .i64 (Int.sign (Rat.num ((VR.x u - VR.x w)*(x2 - VR.y w) - (VR.y u - VR.y w)*(x1 - VR.x w)))))),(4,35,.is (.c (.bool true)))]) (sb:=[]) (by kernel_rfl) (hP (isB h0) (hP (show (0:Int)≤(0:Int)∧(0:Int) < (↑(m+(1:Nat)):Int) by omega) (hP (vcs_l0 hu) (hP (subn (i:=k) (by omega)) (hP (show (0:Int)≤(↑(k+(1:Nat)):Int)∧(↑(k+(1:Nat)):Int) < (↑(m+(1:Nat)):Int) by omega) (hP (vcs_ld hv) (hC (side_k s1 (by decide +kernel) s2 (by decide +kernel) s3 (by decide +kernel) s4 (by decide +kernel) h1' (by decide +kernel) h2' (by decide +kernel)) (hP (isB h5) (hP (subn (i:=k) (by omega)) (hP (show (0:Int)≤(↑(k+(1:Nat)):Int)∧(↑(k+(1:Nat)):Int) < (↑(m+(1:Nat)):Int) by omega) (hP (vcs_ld hv) (hP (show (0:Int)≤(↑(k+(2:Nat)):Int)∧(↑(k+(2:Nat)):Int) < (↑(m+(1:Nat)):Int) by omega) (hP (vcs_ld hw) (hC (side_k s3 (by decide +kernel) s4 (by decide +kernel) s6 (by decide +kernel) s7 (by decide +kernel) h1' (by decide +kernel) h2' (by decide +kernel)) (hP (isB h8) (hP (show (0:Int)≤(↑(k+(2:Nat)):Int)∧(↑(k+(2:Nat)):Int) < (↑(m+(1:Nat)):Int) by omega) (hP (vcs_ld hw) (hP (show (0:Int)≤(0:Int)∧(0:Int) < (↑(m+(1:Nat)):Int) by omega) (hP (vcs_l0 hu) (hC (side_k s6 (by decide +kernel) s7 (by decide +kernel) s1 (by decide +kernel) s2 (by decide +kernel) h1' (by decide +kernel) h2' (by decide +kernel)) (hP (isB h9) hN))))))))))))))))))))) (flk vcs_f (flk flnv trivial))
theorem in_b {L:List VR} {u v w:VR} {m c k:Nat} {n1:Bool} {a1 b1:ByteArray} {n2:Bool} {a2 b2:ByteArray} {x1 x2:Rat}  (h1':IsR n1 a1 b1 x1 1048576) (h2':IsR n2 a2 b2 x2 1048576) (hu:L[0]? = some u) (hv:L[k+1]? = some v) (hw:L[k+2]? = some w) (ou:u.Ok) (ov:v.Ok) (ow:w.Ok) (hk:k+2 < m+1) (hm:m < 100000) (h0:decide ((↑(k+(2:Nat)):Int) < (↑(m+(1:Nat)):Int))=true) (h5:decide ((0:Int)≤Int.sign (Rat.num ((VR.x v - VR.x u)*(x2 - VR.y u) - (VR.y v - VR.y u)*(x1 - VR.x u))))=false):TSpec Tryd.prog (loopOf Tryd.f29 0) (inS L (nv [rr n1 a1 b1,rr n2 a2 b2]) m c k) (.normal) (inS L (nv [rr n1 a1 b1,rr n2 a2 b2]) m c (k+1)):=by
  have s1:=(vr1_s ou)
  have s2:=(vr2_s ou)
  have s3:=(vr1_s ov)
  have s4:=(vr2_s ov)
  exact tspec_dim (mask 49 0 [0,3,5]) 2 (sc:=[(2,3,.is (.c (.bool true))),(4,2,.fix (ag [[.bool (VR.n1 u)],[.string (VR.a1 u)],[.string (VR.b1 u)],[.bool (VR.n2 u)],[.string (VR.a2 u)],[.string (VR.b2 u)]])),(4,5,.is (.c (.int .i64 ((↑(k+(1:Nat)):Int))))),(4,7,.fix (ag [[.bool (VR.n1 v)],[.string (VR.a1 v)],[.string (VR.b1 v)],[.bool (VR.n2 v)],[.string (VR.a2 v)],[.string (VR.b2 v)]])),(4,9,.fix (.int .i64 (Int.sign (Rat.num ((VR.x v - VR.x u)*(x2 - VR.y u) - (VR.y v - VR.y u)*(x1 - VR.x u)))))),(4,10,.is (.c (.bool false))),(3,1,.is (.c (.int .i64 ((↑(k+(1:Nat)+(2:Nat)):Int)))))]) (sb:=[]) (by kernel_rfl) (hP (isB h0) (hP (show (0:Int)≤(0:Int)∧(0:Int) < (↑(m+(1:Nat)):Int) by omega) (hP (vcs_l0 hu) (hP (subn (i:=k) (by omega)) (hP (show (0:Int)≤(↑(k+(1:Nat)):Int)∧(↑(k+(1:Nat)):Int) < (↑(m+(1:Nat)):Int) by omega) (hP (vcs_ld hv) (hC (side_k s1 (by decide +kernel) s2 (by decide +kernel) s3 (by decide +kernel) s4 (by decide +kernel) h1' (by decide +kernel) h2' (by decide +kernel)) (hP (isB h5) (hP (incn (i:=k+2) hk (by omega)) hN))))))))) (flk vcs_f (flk flnv trivial))
theorem in_c {L:List VR} {u v w:VR} {m c k:Nat} {n1:Bool} {a1 b1:ByteArray} {n2:Bool} {a2 b2:ByteArray} {x1 x2:Rat}  (h1':IsR n1 a1 b1 x1 1048576) (h2':IsR n2 a2 b2 x2 1048576) (hu:L[0]? = some u) (hv:L[k+1]? = some v) (hw:L[k+2]? = some w) (ou:u.Ok) (ov:v.Ok) (ow:w.Ok) (hk:k+2 < m+1) (hm:m < 100000) (h0:decide ((↑(k+(2:Nat)):Int) < (↑(m+(1:Nat)):Int))=true) (h5:decide ((0:Int)≤Int.sign (Rat.num ((VR.x v - VR.x u)*(x2 - VR.y u) - (VR.y v - VR.y u)*(x1 - VR.x u))))=true) (h8:decide ((0:Int)≤Int.sign (Rat.num ((VR.x w - VR.x v)*(x2 - VR.y v) - (VR.y w - VR.y v)*(x1 - VR.x v))))=false):TSpec Tryd.prog (loopOf Tryd.f29 0) (inS L (nv [rr n1 a1 b1,rr n2 a2 b2]) m c k) (.normal) (inS L (nv [rr n1 a1 b1,rr n2 a2 b2]) m c (k+1)):=by
  have s1:=(vr1_s ou)
  have s2:=(vr2_s ou)
  have s3:=(vr1_s ov)
  have s4:=(vr2_s ov)
  have s6:=(vr1_s ow)
  have s7:=(vr2_s ow)
  exact tspec_dim (mask 49 0 [0,3,5]) 2 (sc:=[(2,3,.is (.c (.bool true))),(4,2,.fix (ag [[.bool (VR.n1 u)],[.string (VR.a1 u)],[.string (VR.b1 u)],[.bool (VR.n2 u)],[.string (VR.a2 u)],[.string (VR.b2 u)]])),(4,5,.is (.c (.int .i64 ((↑(k+(1:Nat)):Int))))),(4,7,.fix (ag [[.bool (VR.n1 v)],[.string (VR.a1 v)],[.string (VR.b1 v)],[.bool (VR.n2 v)],[.string (VR.a2 v)],[.string (VR.b2 v)]])),(4,9,.fix (.int .i64 (Int.sign (Rat.num ((VR.x v - VR.x u)*(x2 - VR.y u) - (VR.y v - VR.y u)*(x1 - VR.x u)))))),(4,10,.is (.c (.bool true))),(4,14,.is (.c (.int .i64 ((↑(k+(1:Nat)):Int))))),(4,16,.fix (ag [[.bool (VR.n1 v)],[.string (VR.a1 v)],[.string (VR.b1 v)],[.bool (VR.n2 v)],[.string (VR.a2 v)],[.string (VR.b2 v)]])),(4,20,.fix (ag [[.bool (VR.n1 w)],[.string (VR.a1 w)],[.string (VR.b1 w)],[.bool (VR.n2 w)],[.string (VR.a2 w)],[.string (VR.b2 w)]])),(4,22,.fix (.int .i64 (Int.sign (Rat.num ((VR.x w - VR.x v)*(x2 - VR.y v) - (VR.y w - VR.y v)*(x1 - VR.x v)))))),(4,23,.is (.c (.bool false))),(3,1,.is (.c (.int .i64 ((↑(k+(1:Nat)+(2:Nat)):Int)))))]) (sb:=[]) (by kernel_rfl) (hP (isB h0) (hP (show (0:Int)≤(0:Int)∧(0:Int) < (↑(m+(1:Nat)):Int) by omega) (hP (vcs_l0 hu) (hP (subn (i:=k) (by omega)) (hP (show (0:Int)≤(↑(k+(1:Nat)):Int)∧(↑(k+(1:Nat)):Int) < (↑(m+(1:Nat)):Int) by omega) (hP (vcs_ld hv) (hC (side_k s1 (by decide +kernel) s2 (by decide +kernel) s3 (by decide +kernel) s4 (by decide +kernel) h1' (by decide +kernel) h2' (by decide +kernel)) (hP (isB h5) (hP (subn (i:=k) (by omega)) (hP (show (0:Int)≤(↑(k+(1:Nat)):Int)∧(↑(k+(1:Nat)):Int) < (↑(m+(1:Nat)):Int) by omega) (hP (vcs_ld hv) (hP (show (0:Int)≤(↑(k+(2:Nat)):Int)∧(↑(k+(2:Nat)):Int) < (↑(m+(1:Nat)):Int) by omega) (hP (vcs_ld hw) (hC (side_k s3 (by decide +kernel) s4 (by decide +kernel) s6 (by decide +kernel) s7 (by decide +kernel) h1' (by decide +kernel) h2' (by decide +kernel)) (hP (isB h8) (hP (incn (i:=k+2) hk (by omega)) hN)))))))))))))))) (flk vcs_f (flk flnv trivial))
theorem in_d {L:List VR} {u v w:VR} {m c k:Nat} {n1:Bool} {a1 b1:ByteArray} {n2:Bool} {a2 b2:ByteArray} {x1 x2:Rat}  (h1':IsR n1 a1 b1 x1 1048576) (h2':IsR n2 a2 b2 x2 1048576) (hu:L[0]? = some u) (hv:L[k+1]? = some v) (hw:L[k+2]? = some w) (ou:u.Ok) (ov:v.Ok) (ow:w.Ok) (hk:k+2 < m+1) (hm:m < 100000) (h0:decide ((↑(k+(2:Nat)):Int) < (↑(m+(1:Nat)):Int))=true) (h5:decide ((0:Int)≤Int.sign (Rat.num ((VR.x v - VR.x u)*(x2 - VR.y u) - (VR.y v - VR.y u)*(x1 - VR.x u))))=true) (h8:decide ((0:Int)≤Int.sign (Rat.num ((VR.x w - VR.x v)*(x2 - VR.y v) - (VR.y w - VR.y v)*(x1 - VR.x v))))=true) (h9:decide ((0:Int)≤Int.sign (Rat.num ((VR.x u - VR.x w)*(x2 - VR.y w) - (VR.y u - VR.y w)*(x1 - VR.x w))))=false):TSpec Tryd.prog (loopOf Tryd.f29 0) (inS L (nv [rr n1 a1 b1,rr n2 a2 b2]) m c k) (.normal) (inS L (nv [rr n1 a1 b1,rr n2 a2 b2]) m c (k+1)):=by
  have s1:=(vr1_s ou)
  have s2:=(vr2_s ou)
  have s3:=(vr1_s ov)
  have s4:=(vr2_s ov)
  have s6:=(vr1_s ow)
  have s7:=(vr2_s ow)
  exact tspec_dim (mask 49 0 [0,3,5]) 2 (sc:=[(2,3,.is (.c (.bool true))),(4,2,.fix (ag [[.bool (VR.n1 u)],[.string (VR.a1 u)],[.string (VR.b1 u)],[.bool (VR.n2 u)],[.string (VR.a2 u)],[.string (VR.b2 u)]])),(4,5,.is (.c (.int .i64 ((↑(k+(1:Nat)):Int))))),(4,7,.fix (ag [[.bool (VR.n1 v)],[.string (VR.a1 v)],[.string (VR.b1 v)],[.bool (VR.n2 v)],[.string (VR.a2 v)],[.string (VR.b2 v)]])),(4,9,.fix (.int .i64 (Int.sign (Rat.num ((VR.x v - VR.x u)*(x2 - VR.y u) - (VR.y v - VR.y u)*(x1 - VR.x u)))))),(4,10,.is (.c (.bool true))),(4,14,.is (.c (.int .i64 ((↑(k+(1:Nat)):Int))))),(4,16,.fix (ag [[.bool (VR.n1 v)],[.string (VR.a1 v)],[.string (VR.b1 v)],[.bool (VR.n2 v)],[.string (VR.a2 v)],[.string (VR.b2 v)]])),(4,20,.fix (ag [[.bool (VR.n1 w)],[.string (VR.a1 w)],[.string (VR.b1 w)],[.bool (VR.n2 w)],[.string (VR.a2 w)],[.string (VR.b2 w)]])),(4,22,.fix (.int .i64 (Int.sign (Rat.num ((VR.x w - VR.x v)*(x2 - VR.y v) - (VR.y w - VR.y v)*(x1 - VR.x v)))))),(4,23,.is (.c (.bool true))),(4,29,.fix (ag [[.bool (VR.n1 w)],[.string (VR.a1 w)],[.string (VR.b1 w)],[.bool (VR.n2 w)],[.string (VR.a2 w)],[.string (VR.b2 w)]])),(4,32,.fix (ag [[.bool (VR.n1 u)],[.string (VR.a1 u)],[.string (VR.b1 u)],[.bool (VR.n2 u)],[.string (VR.a2 u)],[.string (VR.b2 u)]])),(4,34,.fix (.int .i64 (Int.sign (Rat.num ((VR.x u - VR.x w)*(x2 - VR.y w) - (VR.y u - VR.y w)*(x1 - VR.x w)))))),(4,35,.is (.c (.bool false))),(3,1,.is (.c (.int .i64 ((↑(k+(1:Nat)+(2:Nat)):Int)))))]) (sb:=[]) (by kernel_rfl) (hP (isB h0) (hP (show (0:Int)≤(0:Int)∧(0:Int) < (↑(m+(1:Nat)):Int) by omega) (hP (vcs_l0 hu) (hP (subn (i:=k) (by omega)) (hP (show (0:Int)≤(↑(k+(1:Nat)):Int)∧(↑(k+(1:Nat)):Int) < (↑(m+(1:Nat)):Int) by omega) (hP (vcs_ld hv) (hC (side_k s1 (by decide +kernel) s2 (by decide +kernel) s3 (by decide +kernel) s4 (by decide +kernel) h1' (by decide +kernel) h2' (by decide +kernel)) (hP (isB h5) (hP (subn (i:=k) (by omega)) (hP (show (0:Int)≤(↑(k+(1:Nat)):Int)∧(↑(k+(1:Nat)):Int) < (↑(m+(1:Nat)):Int) by omega) (hP (vcs_ld hv) (hP (show (0:Int)≤(↑(k+(2:Nat)):Int)∧(↑(k+(2:Nat)):Int) < (↑(m+(1:Nat)):Int) by omega) (hP (vcs_ld hw) (hC (side_k s3 (by decide +kernel) s4 (by decide +kernel) s6 (by decide +kernel) s7 (by decide +kernel) h1' (by decide +kernel) h2' (by decide +kernel)) (hP (isB h8) (hP (show (0:Int)≤(↑(k+(2:Nat)):Int)∧(↑(k+(2:Nat)):Int) < (↑(m+(1:Nat)):Int) by omega) (hP (vcs_ld hw) (hP (show (0:Int)≤(0:Int)∧(0:Int) < (↑(m+(1:Nat)):Int) by omega) (hP (vcs_l0 hu) (hC (side_k s6 (by decide +kernel) s7 (by decide +kernel) s1 (by decide +kernel) s2 (by decide +kernel) h1' (by decide +kernel) h2' (by decide +kernel)) (hP (isB h9) (hP (incn (i:=k+2) hk (by omega)) hN)))))))))))))))))))))) (flk vcs_f (flk flnv trivial))
theorem in_e {L:List VR} {m c k:Nat} {n1:Bool} {a1 b1:ByteArray} {n2:Bool} {a2 b2:ByteArray}  (h0:decide ((↑(k+(2:Nat)):Int) < (↑(m+(1:Nat)):Int))=false):TSpec Tryd.prog (loopOf Tryd.f29 0) (inS L (nv [rr n1 a1 b1,rr n2 a2 b2]) m c k) (.exit 0) (inS L (nv [rr n1 a1 b1,rr n2 a2 b2]) m c k):=by
  exact tspec_dim (mask 49 0 [0,3,5]) 2 (sc:=[(2,3,.is (.c (.bool false)))]) (sb:=[]) (by kernel_rfl) (hP (isB h0) hN) (flk vcs_f (flk flnv trivial))
section
variable {L:List VR} {m c:Nat} {n1:Bool} {a1 b1:ByteArray} {n2:Bool} {a2 b2:ByteArray} {x1 x2:Rat}  (hL:L.length=m+1) (ok:∀ v∈L,v.Ok) (hm:m < 100000) (h1':IsR n1 a1 b1 x1 1048576) (h2':IsR n2 a2 b2 x2 1048576)
include hL ok hm h1' h2'
theorem phas_loop:((∀ i,0≤i→i < m+1→0≤sp (pX L) (pY L) i ((i+1)%(m+1)) x1 x2)∧Rounds Tryd.prog (loopOf Tryd.f23 0) 0 (haS L (nv [rr n1 a1 b1,rr n2 a2 b2]) m c 0) .normal (haS L (nv [rr n1 a1 b1,rr n2 a2 b2]) m c (m+1))) ∨
    ((∃ i,0≤i∧i < m+1 ∧ ¬ 0≤sp (pX L) (pY L) i ((i+1)%(m+1)) x1 x2)∧Rounds Tryd.prog (loopOf Tryd.f23 0) 0 (haS L (nv [rr n1 a1 b1,rr n2 a2 b2]) m c 0) .ret (haB L (nv [rr n1 a1 b1,rr n2 a2 b2]))):=by
  refine rounds_all (S:=fun i=>haS L (nv [rr n1 a1 b1,rr n2 a2 b2]) m c i) (fun i hi h=>?_) (fun i hi h=>?_) (ha_c (decide_eq_false (by omega))) (m+1) 0 (by omega)
  all_goals
    have p1:(i+1)%(m+1) < m+1:=Nat.mod_lt _ (by omega)
    have hu:=List.getElem?_eq_getElem (l:=L) (i:=i) (by omega)
    have hv:=List.getElem?_eq_getElem (l:=L) (i:=(i+1)%(m+1)) (by omega)
    have es:=sgn_sp (x:=x1) (y:=x2) hu hv
  · exact ha_a h1' h2' hu hv (ok _ (List.mem_of_getElem? hu)) (ok _ (List.mem_of_getElem? hv)) hi (by omega) p1 (decide_eq_true (by omega)) (by rw [sgn_lt,← es]; exact decide_eq_false (Rat.not_lt.2 h))
  exact ha_b h1' h2' hu hv (ok _ (List.mem_of_getElem? hu)) (ok _ (List.mem_of_getElem? hv)) hi (by omega) p1 (decide_eq_true (by omega)) (by rw [sgn_lt,← es]; exact decide_eq_true (Rat.not_le.1 h))
def InF (L:List VR) (x y:Rat) (k:Nat):Prop:=0≤sp (pX L) (pY L) 0 (k+1) x y∧0≤sp (pX L) (pY L) (k+1) (k+2) x y∧0≤sp (pX L) (pY L) (k+2) 0 x y
open Classical in
theorem pinn_loop:((∀ k,0≤k→k < m - 1 → ¬ InF L x1 x2 k)∧Rounds Tryd.prog (loopOf Tryd.f29 0) 0 (inS L (nv [rr n1 a1 b1,rr n2 a2 b2]) m c 0) .normal (inS L (nv [rr n1 a1 b1,rr n2 a2 b2]) m c (m - 1))) ∨
    ((∃ k,0≤k∧k < m - 1 ∧ ¬ ¬ InF L x1 x2 k)∧Rounds Tryd.prog (loopOf Tryd.f29 0) 0 (inS L (nv [rr n1 a1 b1,rr n2 a2 b2]) m c 0) .ret (inB L (nv [rr n1 a1 b1,rr n2 a2 b2]))):=by
  refine rounds_all (S:=fun k=>inS L (nv [rr n1 a1 b1,rr n2 a2 b2]) m c k) (fun k hk h=>?_) (fun k hk h=>?_) (in_e (decide_eq_false (by omega))) (m - 1) 0 (by omega)
  all_goals
    have hu:=List.getElem?_eq_getElem (l:=L) (i:=0) (by omega)
    have hv:=List.getElem?_eq_getElem (l:=L) (i:=k+1) (by omega)
    have hw:=List.getElem?_eq_getElem (l:=L) (i:=k+2) (by omega)
    have q1:=sgn_sp (x:=x1) (y:=x2) hu hv
    have q2:=sgn_sp (x:=x1) (y:=x2) hv hw
    have q3:=sgn_sp (x:=x1) (y:=x2) hw hu
    have ou:=ok _ (List.mem_of_getElem? hu)
    have ov:=ok _ (List.mem_of_getElem? hv)
    have ow:=ok _ (List.mem_of_getElem? hw)
    have hlt:decide (((k+2:Nat):Int) < ((m+1:Nat):Int))=true:=decide_eq_true (by omega)
  · unfold InF at h
    by_cases c1:0≤sp (pX L) (pY L) 0 (k+1) x1 x2
    · by_cases c2:0≤sp (pX L) (pY L) (k+1) (k+2) x1 x2
      · have c3:¬ 0≤sp (pX L) (pY L) (k+2) 0 x1 x2:=fun c3=>h ⟨c1,c2,c3⟩
        exact in_d h1' h2' hu hv hw ou ov ow (by omega) hm hlt (by rw [sgn_ge,← q1]; exact decide_eq_true c1) (by rw [sgn_ge,← q2]; exact decide_eq_true c2) (by rw [sgn_ge,← q3]; exact decide_eq_false c3)
      exact in_c h1' h2' hu hv hw ou ov ow (by omega) hm hlt (by rw [sgn_ge,← q1]; exact decide_eq_true c1) (by rw [sgn_ge,← q2]; exact decide_eq_false c2)
    exact in_b h1' h2' hu hv hw ou ov ow (by omega) hm hlt (by rw [sgn_ge,← q1]; exact decide_eq_false c1)
  obtain ⟨c1,c2,c3⟩:=Classical.not_not.1 h
  exact in_a h1' h2' hu hv hw ou ov ow (by omega) hm hlt (by rw [sgn_ge,← q1]; exact decide_eq_true c1) (by rw [sgn_ge,← q2]; exact decide_eq_true c2) (by rw [sgn_ge,← q3]; exact decide_eq_true c3)
end
theorem hasN0 {L:List VR} {m c:Nat} {n1:Bool} {a1 b1:ByteArray} {n2:Bool} {a2 b2:ByteArray} {x1 x2:Rat}  (hL:L.length=m+1) (ok:∀ v∈L,v.Ok) (h1':IsR n1 a1 b1 x1 1048576) (h2':IsR n2 a2 b2 x2 1048576)  (h0:(!decide (ringN L (64:Int)=(0:Int)))=true):FSpec Tryd.prog 23 [.sl 0 0 (m+1) c,.c (ag [rr n1 a1 b1,rr n2 a2 b2])] [some ⟨false,vcs L⟩] (.c (.bool false)) [some ⟨false,vcs L⟩]:=by
  exact fspec_ok Tryd.func23 (sc:=[(1,1,.readf (.int .i64 (ringN L (64:Int)))),(1,2,.is (.c (.bool true)))]) (sb:=[]) (keep:=[]) (by kernel_rfl) (hP (show Flat [some ⟨false,vcs L⟩] from flk vcs_f trivial) (hP (show Flat [some { own:=false,cells:=vcs L }] from (flk vcs_f trivial)) (hF (convex_k (c:=c) hL ok) (hP (isB h0) hN))))
theorem hasA0 {L:List VR} {m c:Nat} {n1:Bool} {a1 b1:ByteArray} {n2:Bool} {a2 b2:ByteArray} {x1 x2:Rat}  (hL:L.length=m+1) (ok:∀ v∈L,v.Ok) (h1':IsR n1 a1 b1 x1 1048576) (h2':IsR n2 a2 b2 x2 1048576) (hb:TSpec Tryd.prog (.block 0 (.loop (loopOf Tryd.f23 0))) (haS L (nv [rr n1 a1 b1,rr n2 a2 b2]) m c 0) .normal (haS L (nv [rr n1 a1 b1,rr n2 a2 b2]) m c (m+1))) (h0:(!decide (ringN L (64:Int)=(0:Int)))=false):FSpec Tryd.prog 23 [.sl 0 0 (m+1) c,.c (ag [rr n1 a1 b1,rr n2 a2 b2])] [some ⟨false,vcs L⟩] (.c (.bool true)) [some ⟨false,vcs L⟩]:=by
  exact fspec_ok Tryd.func23 (sc:=[(1,1,.readf (.int .i64 (ringN L (64:Int)))),(1,2,.is (.c (.bool false))),(0,99999,.mask (mask 30 0 [0,3,10,11,12]))]) (sb:=[(0,.normal,haS L (nv [rr n1 a1 b1,rr n2 a2 b2]) m c (m+1))]) (keep:=[]) (by kernel_rfl) (hP (show Flat [some ⟨false,vcs L⟩] from flk vcs_f trivial) (hP (show Flat [some { own:=false,cells:=vcs L }] from (flk vcs_f trivial)) (hF (convex_k (c:=c) hL ok) (hP (isB h0) (hP (show Flat [some { own:=false,cells:=vcs L },some ⟨Bool.true,nv [[.bool n1],[.string a1],[.string b1],[.bool n2],[.string a2],[.string b2]]⟩] from (flk vcs_f (flk rfl trivial))) (hP (hb) hN))))))
theorem hasB0 {L:List VR} {m c:Nat} {n1:Bool} {a1 b1:ByteArray} {n2:Bool} {a2 b2:ByteArray} {x1 x2:Rat}  (hL:L.length=m+1) (ok:∀ v∈L,v.Ok) (h1':IsR n1 a1 b1 x1 1048576) (h2':IsR n2 a2 b2 x2 1048576) (hb:TSpec Tryd.prog (.block 0 (.loop (loopOf Tryd.f23 0))) (haS L (nv [rr n1 a1 b1,rr n2 a2 b2]) m c 0) .ret (haB L (nv [rr n1 a1 b1,rr n2 a2 b2]))) (h0:(!decide (ringN L (64:Int)=(0:Int)))=false):FSpec Tryd.prog 23 [.sl 0 0 (m+1) c,.c (ag [rr n1 a1 b1,rr n2 a2 b2])] [some ⟨false,vcs L⟩] (.c (.bool false)) [some ⟨false,vcs L⟩]:=by
  exact fspec_ok Tryd.func23 (sc:=[(1,1,.readf (.int .i64 (ringN L (64:Int)))),(1,2,.is (.c (.bool false))),(0,99999,.mask (mask 30 0 [0,3,10,11,12]))]) (sb:=[(0,.ret,haB L (nv [rr n1 a1 b1,rr n2 a2 b2]))]) (keep:=[]) (by kernel_rfl) (hP (show Flat [some ⟨false,vcs L⟩] from flk vcs_f trivial) (hP (show Flat [some { own:=false,cells:=vcs L }] from (flk vcs_f trivial)) (hF (convex_k (c:=c) hL ok) (hP (isB h0) (hP (show Flat [some { own:=false,cells:=vcs L },some ⟨Bool.true,nv [[.bool n1],[.string a1],[.string b1],[.bool n2],[.string a2],[.string b2]]⟩] from (flk vcs_f (flk rfl trivial))) (hP (hb) hN))))))
theorem innA0 {L:List VR} {m c:Nat} {n1:Bool} {a1 b1:ByteArray} {n2:Bool} {a2 b2:ByteArray} {x1 x2:Rat}  (hL:L.length=m+1) (ok:∀ v∈L,v.Ok) (h1':IsR n1 a1 b1 x1 1048576) (h2':IsR n2 a2 b2 x2 1048576) (hb:TSpec Tryd.prog (.block 0 (.loop (loopOf Tryd.f29 0))) (inS L (nv [rr n1 a1 b1,rr n2 a2 b2]) m c 0) .normal (inS L (nv [rr n1 a1 b1,rr n2 a2 b2]) m c (m - 1)))  : FSpec Tryd.prog 29 [.sl 0 0 (m+1) c,.c (ag [rr n1 a1 b1,rr n2 a2 b2])] [some ⟨false,vcs L⟩] (.c (.bool false)) [some ⟨false,vcs L⟩]:=by
  exact fspec_ok Tryd.func29 (sc:=[(0,99999,.mask (mask 49 0 [0,3,5]))]) (sb:=[(0,.normal,inS L (nv [rr n1 a1 b1,rr n2 a2 b2]) m c (m - 1))]) (keep:=[]) (by kernel_rfl) (hP (show Flat [some ⟨false,vcs L⟩] from flk vcs_f trivial) (hP (show Flat [some { own:=false,cells:=vcs L },some ⟨Bool.true,nv [[.bool n1],[.string a1],[.string b1],[.bool n2],[.string a2],[.string b2]]⟩] from (flk vcs_f (flk rfl trivial))) (hP (hb) hN)))
theorem innB0 {L:List VR} {m c:Nat} {n1:Bool} {a1 b1:ByteArray} {n2:Bool} {a2 b2:ByteArray} {x1 x2:Rat}  (hL:L.length=m+1) (ok:∀ v∈L,v.Ok) (h1':IsR n1 a1 b1 x1 1048576) (h2':IsR n2 a2 b2 x2 1048576) (hb:TSpec Tryd.prog (.block 0 (.loop (loopOf Tryd.f29 0))) (inS L (nv [rr n1 a1 b1,rr n2 a2 b2]) m c 0) .ret (inB L (nv [rr n1 a1 b1,rr n2 a2 b2])))  : FSpec Tryd.prog 29 [.sl 0 0 (m+1) c,.c (ag [rr n1 a1 b1,rr n2 a2 b2])] [some ⟨false,vcs L⟩] (.c (.bool true)) [some ⟨false,vcs L⟩]:=by
  exact fspec_ok Tryd.func29 (sc:=[(0,99999,.mask (mask 49 0 [0,3,5]))]) (sb:=[(0,.ret,inB L (nv [rr n1 a1 b1,rr n2 a2 b2]))]) (keep:=[]) (by kernel_rfl) (hP (show Flat [some ⟨false,vcs L⟩] from flk vcs_f trivial) (hP (show Flat [some { own:=false,cells:=vcs L },some ⟨Bool.true,nv [[.bool n1],[.string a1],[.string b1],[.bool n2],[.string a2],[.string b2]]⟩] from (flk vcs_f (flk rfl trivial))) (hP (hb) hN)))
section
open Classical
variable {L:List VR} {m c:Nat} {n1:Bool} {a1 b1:ByteArray} {n2:Bool} {a2 b2:ByteArray} {x1 x2:Rat}
theorem hasBad_k (hL:L.length=m+1) (ok:∀ v∈L,v.Ok) (h1':IsR n1 a1 b1 x1 1048576) (h2':IsR n2 a2 b2 x2 1048576)  (hq:MustBad L):FSpec Tryd.prog 23 [.sl 0 0 (m+1) c,.c (ag [rr n1 a1 b1,rr n2 a2 b2])] [some ⟨false,vcs L⟩] (.c (.bool false)) [some ⟨false,vcs L⟩] :=
  hasN0 hL ok h1' h2' (by rw [decide_eq_false (show ¬ ringN L 64=0 from hq)]; rfl)
theorem hasOk_k (hL:L.length=m+1) (ok:∀ v∈L,v.Ok) (h1':IsR n1 a1 b1 x1 1048576) (h2':IsR n2 a2 b2 x2 1048576)  (hm:m < 100000) (hq:MustPoly L):FSpec Tryd.prog 23 [.sl 0 0 (m+1) c,.c (ag [rr n1 a1 b1,rr n2 a2 b2])] [some ⟨false,vcs L⟩] (.c (.bool (insB L x1 x2))) [some ⟨false,vcs L⟩]:=by
  have hq':(!decide (ringN L 64=0))=false:=by rw [decide_eq_true (show ringN L 64=0 from hq)]; rfl
  unfold insB
  rw [hL]
  rcases phas_loop (c:=c) hL ok hm h1' h2' with ⟨a,b⟩ | ⟨⟨i,a1,a2,a3⟩,b⟩
  · have he:EdgeIn (pX L) (pY L) (m+1) x1 x2:=fun i hi=>a i (Nat.zero_le _) hi
    rw [decide_eq_true he]
    exact hasA0 hL ok h1' h2' b.spec hq'
  have he:¬ EdgeIn (pX L) (pY L) (m+1) x1 x2:=fun he=>a3 (he i a2)
  rw [decide_eq_false he]
  exact hasB0 hL ok h1' h2' b.spec hq'
theorem inner_k (hL:L.length=m+1) (ok:∀ v∈L,v.Ok) (h1':IsR n1 a1 b1 x1 1048576) (h2':IsR n2 a2 b2 x2 1048576)  (hm:m < 100000):FSpec Tryd.prog 29 [.sl 0 0 (m+1) c,.c (ag [rr n1 a1 b1,rr n2 a2 b2])] [some ⟨false,vcs L⟩] (.c (.bool (fanB L x1 x2))) [some ⟨false,vcs L⟩]:=by
  unfold fanB
  rw [hL]
  rcases pinn_loop (c:=c) hL ok hm h1' h2' with ⟨a,b⟩ | ⟨⟨k,a1,a2,a3⟩,b⟩
  · have he : ¬ FanIn (pX L) (pY L) (m + 1) x1 x2 := by
      rintro ⟨i,hi2,hi,f1,f2,f3⟩
      refine a (i - 2) (Nat.zero_le _) (by omega) ?_
      unfold InF
      rw [show i - 2+1=i - 1 by omega,show i - 2+2=i by omega]
      exact ⟨f1,f2,f3⟩
    rw [decide_eq_false he]
    exact innA0 hL ok h1' h2' b.spec
  have he:FanIn (pX L) (pY L) (m+1) x1 x2:=by
    obtain ⟨f1,f2,f3⟩:=Classical.not_not.1 a3
    exact ⟨k+2,by omega,by omega,f1,f2,f3⟩
  rw [decide_eq_true he]
  exact innB0 hL ok h1' h2' b.spec
end
open Classical in
theorem ins_fan {L:List VR} (hq:MustPoly L) (x y:Rat):insB L x y=fanB L x y:=by
  have h3:¬ L.length < 3∧RingOk (pX L) (pY L) L.length:=by
    have h:=hq
    unfold MustPoly ringN at h
    by_cases h1:(64:Int) < (L.length:Int)
    · rw [if_pos h1] at h; cases h
    rw [if_neg h1] at h
    by_cases h2:L.length < 3
    · rw [if_pos h2] at h; cases h
    rw [if_neg h2] at h
    refine ⟨h2,Classical.byContradiction fun hn=>?_⟩
    rw [if_neg hn] at h
    cases h
  have:=inner_iff (x:=x) (y:=y) (show 3≤L.length by omega) h3.2
  unfold insB fanB
  by_cases h:EdgeIn (pX L) (pY L) L.length x y
  · rw [decide_eq_true h,decide_eq_true (this.1 h)]
  rw [decide_eq_false h,decide_eq_false (fun g=>h (this.2 g))]
end Go.Proofs.YtkpeembfagcpcaaDoor.G
end
section
namespace Go.Proofs.YtkpeembfagcpcaaDoor.G
open Go.Proofs.YtkpeembfagcpcaaDoor.U Go.RowKit
def arA (L:List VR) (s:Rat) (m c i:Nat):St:=⟨slots 40 0 [(0,.sl 0 0 (m+1) c),(2,.p 1 0),(3,.p 2 0),(13,.sl 0 0 (m+1) c),(14,.c (.int .i64 (((m+1:Nat):Int)))),(15,.c (.int .i64 (((i:Nat):Int))))],[some ⟨false,vcs L⟩,some ⟨true,nv [[.bool false],[.string ⟨#[]⟩],[.string ⟨#[]⟩]]⟩,some ⟨true,nv [rc s]⟩]⟩
def arB (L:List VR) (s:Rat) (m c k:Nat):St:=⟨slots 41 0 [(0,.sl 0 0 (m+1) c),(2,.p 1 0),(3,.p 2 0),(4,.c (.int .i64 (((k+2:Nat):Int))))],[some ⟨false,vcs L⟩,some ⟨true,nv [[.bool false],[.string ⟨#[]⟩],[.string ⟨#[]⟩]]⟩,some ⟨true,nv [rc s]⟩]⟩
def suS (L:List VR) (P:List V) (m c i b:Nat):St:=⟨slots 32 0 [(0,.sl 0 0 (m+1) c),(3,.p 1 0),(5,.c (.int .i64 (((b:Nat):Int)))),(11,.sl 0 0 (m+1) c),(12,.c (.int .i64 (((m+1:Nat):Int)))),(13,.c (.int .i64 (((i:Nat):Int))))],[some ⟨false,vcs L⟩,some ⟨true,P⟩]⟩
theorem aa_a {L:List VR} {u v:VR} {s:Rat} {K m c i:Nat} (hs:Sz s K) (kK:K≤1000000000) (hu:L[i]? = some u) (hv:L[(i+1)%(m+1)]? = some v) (ou:u.Ok) (ov:v.Ok) (hi:i < m+1) (hm:m < 1000000) (e1:(i+1)%(m+1) < m+1) (h0:decide ((↑i:Int) < (↑(m+(1:Nat)):Int))=true):TSpec Tryd.prog (loopOf Tryd.f24 0) (arA L s m c i) (.normal) (arA L (s+(u.x*v.y - u.y*v.x)) m c (i+1)):=by
  have s1:=(vr1_s ou)
  have s2:=(vr2_s ou)
  have s3:=(vr1_s ov)
  have s4:=(vr2_s ov)
  have s5:=(isR_s hs)
  have s6:=(mul_s (szr s1) (szr s4))
  have s7:=(mul_s (szr s2) (szr s3))
  have s8:=(sub_s s6 s7)
  have s9:=(isR_s s8)
  exact tspec_dim (mask 40 0 [0,2,3,13,14,15]) 3 (sc:=[(5,0,.is (.c (.bool true))),(6,2,.fix (ag [[.bool (VR.n1 u)],[.string (VR.a1 u)],[.string (VR.b1 u)],[.bool (VR.n2 u)],[.string (VR.a2 u)],[.string (VR.b2 u)]])),(7,4,.is (.c (.int .i64 ((↑(i+(1:Nat)):Int))))),(7,7,.is (.c (.int .i64 ((↑((i+(1:Nat))%(m+(1:Nat))):Int))))),(7,9,.fix (ag [[.bool (VR.n1 v)],[.string (VR.a1 v)],[.string (VR.b1 v)],[.bool (VR.n2 v)],[.string (VR.a2 v)],[.string (VR.b2 v)]])),(7,10,.fix (Rv (VR.x u*VR.y v - VR.y u*VR.x v))),(7,11,.fix (Rv (s+(VR.x u*VR.y v - VR.y u*VR.x v)))),(8,0,.is (.c (.int .i64 ((↑(i+(1:Nat)):Int)))))]) (sb:=[]) (by kernel_rfl) (hP (isB h0) (hP (show (0:Int)≤(↑i:Int)∧(↑i:Int) < (↑(m+(1:Nat)):Int) by omega) (hP (vcs_ld hu) (hP (incn (i:=i) hi (by omega)) (hP (show V.c (Value.int .i64 (Int.tmod (↑(i+(1:Nat)):Int) (↑(m+(1:Nat)):Int))) = .c (.int .i64 ((↑((i+(1:Nat))%(m+(1:Nat))):Int))) from (rfl)) (hP (show (0:Int)≤(↑((i+(1:Nat))%(m+(1:Nat))):Int)∧(↑((i+(1:Nat))%(m+(1:Nat))):Int) < (↑(m+(1:Nat)):Int) by omega) (hP (vcs_ld hv) (hC (vcross_k s1 (by decide +kernel) s2 (by decide +kernel) s3 (by decide +kernel) s4 (by decide +kernel)) (hC (add_k s5 s9 (by omega)) (hP (incn (i:=i) hi (by omega)) hN)))))))))) (flk vcs_f (flk flnv (flk flnv trivial)))
theorem aa_b {L:List VR} {s:Rat} {m c i:Nat}  (h0:decide ((↑i:Int) < (↑(m+(1:Nat)):Int))=false):TSpec Tryd.prog (loopOf Tryd.f24 0) (arA L s m c i) (.exit 0) (arA L s m c i):=by
  exact tspec_dim (mask 40 0 [0,2,3,13,14,15]) 3 (sc:=[(5,0,.is (.c (.bool false)))]) (sb:=[]) (by kernel_rfl) (hP (isB h0) hN) (flk vcs_f (flk flnv (flk flnv trivial)))
theorem ab_a {L:List VR} {u v w:VR} {s:Rat} {K m c k:Nat} (hs:Sz s K) (kK:K≤1000000000) (hu:L[0]? = some u) (hv:L[k+1]? = some v) (hw:L[k+2]? = some w) (ou:u.Ok) (ov:v.Ok) (ow:w.Ok) (hk:k+2 < m+1) (hm:m < 100000) (h0:decide ((↑(k+(2:Nat)):Int) < (↑(m+(1:Nat)):Int))=true):TSpec Tryd.prog (loopOf Tryd.f30 0) (arB L s m c k) (.normal) (arB L (s+((v.x - u.x)*(w.y - u.y) - (v.y - u.y)*(w.x - u.x))) m c (k+1)):=by
  have s1:=(vr1_s ou)
  have s2:=(vr2_s ou)
  have s3:=(vr1_s ov)
  have s4:=(vr2_s ov)
  have s5:=(vr1_s ow)
  have s6:=(vr2_s ow)
  have s7:=(sub_s (szr s3) (szr s1))
  have s8:=(isR_s s7)
  have s9:=(sub_s (szr s4) (szr s2))
  have s10:=(isR_s s9)
  have s11:=(sub_s (szr s5) (szr s1))
  have s12:=(isR_s s11)
  have s13:=(sub_s (szr s6) (szr s2))
  have s14:=(isR_s s13)
  have s15:=(isR_s hs)
  have s16:=(mul_s s7 s13)
  have s17:=(mul_s s9 s11)
  have s18:=(sub_s s16 s17)
  have s19:=(isR_s s18)
  exact tspec_dim (mask 41 0 [0,2,3,4]) 3 (sc:=[(3,3,.is (.c (.bool true))),(5,3,.fix (ag [[.bool (VR.n1 u)],[.string (VR.a1 u)],[.string (VR.b1 u)],[.bool (VR.n2 u)],[.string (VR.a2 u)],[.string (VR.b2 u)]])),(5,6,.is (.c (.int .i64 ((↑(k+(1:Nat)):Int))))),(5,8,.fix (ag [[.bool (VR.n1 v)],[.string (VR.a1 v)],[.string (VR.b1 v)],[.bool (VR.n2 v)],[.string (VR.a2 v)],[.string (VR.b2 v)]])),(5,9,.fix (ag [rc (VR.x v - VR.x u),rc (VR.y v - VR.y u)])),(5,12,.fix (ag [[.bool (VR.n1 u)],[.string (VR.a1 u)],[.string (VR.b1 u)],[.bool (VR.n2 u)],[.string (VR.a2 u)],[.string (VR.b2 u)]])),(5,16,.fix (ag [[.bool (VR.n1 w)],[.string (VR.a1 w)],[.string (VR.b1 w)],[.bool (VR.n2 w)],[.string (VR.a2 w)],[.string (VR.b2 w)]])),(5,17,.fix (ag [rc (VR.x w - VR.x u),rc (VR.y w - VR.y u)])),(5,18,.fix (Rv ((VR.x v - VR.x u)*(VR.y w - VR.y u) - (VR.y v - VR.y u)*(VR.x w - VR.x u)))),(5,19,.fix (Rv (s+((VR.x v - VR.x u)*(VR.y w - VR.y u) - (VR.y v - VR.y u)*(VR.x w - VR.x u))))),(4,1,.is (.c (.int .i64 ((↑(k+(1:Nat)+(2:Nat)):Int)))))]) (sb:=[]) (by kernel_rfl) (hP (isB h0) (hP (show (0:Int)≤(0:Int)∧(0:Int) < (↑(m+(1:Nat)):Int) by omega) (hP (vcs_l0 hu) (hP (subn (i:=k) (by omega)) (hP (show (0:Int)≤(↑(k+(1:Nat)):Int)∧(↑(k+(1:Nat)):Int) < (↑(m+(1:Nat)):Int) by omega) (hP (vcs_ld hv) (hC (rv_k s1 (by decide +kernel) s2 (by decide +kernel) s3 (by decide +kernel) s4 (by decide +kernel)) (hP (show (0:Int)≤(0:Int)∧(0:Int) < (↑(m+(1:Nat)):Int) by omega) (hP (vcs_l0 hu) (hP (show (0:Int)≤(↑(k+(2:Nat)):Int)∧(↑(k+(2:Nat)):Int) < (↑(m+(1:Nat)):Int) by omega) (hP (vcs_ld hw) (hC (rv_k s1 (by decide +kernel) s2 (by decide +kernel) s5 (by decide +kernel) s6 (by decide +kernel)) (hC (rcross_k s8 (by decide +kernel) s10 (by decide +kernel) s12 (by decide +kernel) s14 (by decide +kernel)) (hC (add_k s15 s19 (by omega)) (hP (incn (i:=k+2) hk (by omega)) hN))))))))))))))) (flk vcs_f (flk flnv (flk flnv trivial)))
theorem ab_b {L:List VR} {s:Rat} {m c k:Nat}  (h0:decide ((↑(k+(2:Nat)):Int) < (↑(m+(1:Nat)):Int))=false):TSpec Tryd.prog (loopOf Tryd.f30 0) (arB L s m c k) (.exit 0) (arB L s m c k):=by
  exact tspec_dim (mask 41 0 [0,2,3,4]) 3 (sc:=[(3,3,.is (.c (.bool false)))]) (sb:=[]) (by kernel_rfl) (hP (isB h0) hN) (flk vcs_f (flk flnv (flk flnv trivial)))
theorem su_a {L:List VR} {u w:VR} {m c i b:Nat} {n1:Bool} {a1 b1:ByteArray} {n2:Bool} {a2 b2:ByteArray} {x1 x2:Rat}  (h1':IsR n1 a1 b1 x1 1048576) (h2':IsR n2 a2 b2 x2 1048576) (hu:L[i]? = some u) (hw:L[b]? = some w) (ou:u.Ok) (ow:w.Ok) (hi:i < m+1) (hb:b < m+1) (hm:m < 1000000) (h0:decide ((↑i:Int) < (↑(m+(1:Nat)):Int))=true) (h13:decide ((0:Int) < cmpR (VR.x u*x1+VR.y u*x2) (VR.x w*x1+VR.y w*x2))=true):TSpec Tryd.prog (loopOf Tryd.f26 0) (suS L (nv [rr n1 a1 b1,rr n2 a2 b2]) m c i b) (.normal) (suS L (nv [rr n1 a1 b1,rr n2 a2 b2]) m c (i+1) i):=by
  have s1:=(vr1_s ou)
  have s2:=(vr2_s ou)
  have s3:=(vr1_s ow)
  have s4:=(vr2_s ow)
  have s5:=(mul_s (szr s1) (szr h1'))
  have s6:=(mul_s (szr s2) (szr h2'))
  have s7:=(add_s s5 s6)
  have s8:=(isR_s s7)
  have s9:=(mul_s (szr s3) (szr h1'))
  have s10:=(mul_s (szr s4) (szr h2'))
  have s11:=(add_s s9 s10)
  have s12:=(isR_s s11)
  exact tspec_dim (mask 32 0 [0,3,5,11,12,13]) 2 (sc:=[(5,0,.is (.c (.bool true))),(6,2,.fix (ag [[.bool (VR.n1 u)],[.string (VR.a1 u)],[.string (VR.b1 u)],[.bool (VR.n2 u)],[.string (VR.a2 u)],[.string (VR.b2 u)]])),(7,2,.fix (Rv (VR.x u*x1+VR.y u*x2))),(7,6,.fix (ag [[.bool (VR.n1 w)],[.string (VR.a1 w)],[.string (VR.b1 w)],[.bool (VR.n2 w)],[.string (VR.a2 w)],[.string (VR.b2 w)]])),(7,8,.fix (Rv (VR.x w*x1+VR.y w*x2))),(7,9,.fix (.int .i64 (cmpR (VR.x u*x1+VR.y u*x2) (VR.x w*x1+VR.y w*x2)))),(7,10,.is (.c (.bool true))),(9,0,.is (.c (.int .i64 ((↑(i+(1:Nat)):Int)))))]) (sb:=[]) (by kernel_rfl) (hP (isB h0) (hP (show (0:Int)≤(↑i:Int)∧(↑i:Int) < (↑(m+(1:Nat)):Int) by omega) (hP (vcs_ld hu) (hC (vdot_k s1 (by decide +kernel) s2 (by decide +kernel) h1' (by decide +kernel) h2' (by decide +kernel)) (hP (show (0:Int)≤(↑b:Int)∧(↑b:Int) < (↑(m+(1:Nat)):Int) by omega) (hP (vcs_ld hw) (hC (vdot_k s3 (by decide +kernel) s4 (by decide +kernel) h1' (by decide +kernel) h2' (by decide +kernel)) (hC (cmp_k s8 s12 (by decide +kernel)) (hP (isB h13) (hP (incn (i:=i) hi (by omega)) hN)))))))))) (flk vcs_f (flk flnv trivial))
theorem su_b {L:List VR} {u w:VR} {m c i b:Nat} {n1:Bool} {a1 b1:ByteArray} {n2:Bool} {a2 b2:ByteArray} {x1 x2:Rat}  (h1':IsR n1 a1 b1 x1 1048576) (h2':IsR n2 a2 b2 x2 1048576) (hu:L[i]? = some u) (hw:L[b]? = some w) (ou:u.Ok) (ow:w.Ok) (hi:i < m+1) (hb:b < m+1) (hm:m < 1000000) (h0:decide ((↑i:Int) < (↑(m+(1:Nat)):Int))=true) (h13:decide ((0:Int) < cmpR (VR.x u*x1+VR.y u*x2) (VR.x w*x1+VR.y w*x2))=false):TSpec Tryd.prog (loopOf Tryd.f26 0) (suS L (nv [rr n1 a1 b1,rr n2 a2 b2]) m c i b) (.normal) (suS L (nv [rr n1 a1 b1,rr n2 a2 b2]) m c (i+1) b):=by
  have s1:=(vr1_s ou)
  have s2:=(vr2_s ou)
  have s3:=(vr1_s ow)
  have s4:=(vr2_s ow)
  have s5:=(mul_s (szr s1) (szr h1'))
  have s6:=(mul_s (szr s2) (szr h2'))
  have s7:=(add_s s5 s6)
  have s8:=(isR_s s7)
  have s9:=(mul_s (szr s3) (szr h1'))
  have s10:=(mul_s (szr s4) (szr h2'))
  have s11:=(add_s s9 s10)
  have s12:=(isR_s s11)
  exact tspec_dim (mask 32 0 [0,3,5,11,12,13]) 2 (sc:=[(5,0,.is (.c (.bool true))),(6,2,.fix (ag [[.bool (VR.n1 u)],[.string (VR.a1 u)],[.string (VR.b1 u)],[.bool (VR.n2 u)],[.string (VR.a2 u)],[.string (VR.b2 u)]])),(7,2,.fix (Rv (VR.x u*x1+VR.y u*x2))),(7,6,.fix (ag [[.bool (VR.n1 w)],[.string (VR.a1 w)],[.string (VR.b1 w)],[.bool (VR.n2 w)],[.string (VR.a2 w)],[.string (VR.b2 w)]])),(7,8,.fix (Rv (VR.x w*x1+VR.y w*x2))),(7,9,.fix (.int .i64 (cmpR (VR.x u*x1+VR.y u*x2) (VR.x w*x1+VR.y w*x2)))),(7,10,.is (.c (.bool false))),(9,0,.is (.c (.int .i64 ((↑(i+(1:Nat)):Int)))))]) (sb:=[]) (by kernel_rfl) (hP (isB h0) (hP (show (0:Int)≤(↑i:Int)∧(↑i:Int) < (↑(m+(1:Nat)):Int) by omega) (hP (vcs_ld hu) (hC (vdot_k s1 (by decide +kernel) s2 (by decide +kernel) h1' (by decide +kernel) h2' (by decide +kernel)) (hP (show (0:Int)≤(↑b:Int)∧(↑b:Int) < (↑(m+(1:Nat)):Int) by omega) (hP (vcs_ld hw) (hC (vdot_k s3 (by decide +kernel) s4 (by decide +kernel) h1' (by decide +kernel) h2' (by decide +kernel)) (hC (cmp_k s8 s12 (by decide +kernel)) (hP (isB h13) (hP (incn (i:=i) hi (by omega)) hN)))))))))) (flk vcs_f (flk flnv trivial))
theorem su_c {L:List VR} {m c i b:Nat} {n1:Bool} {a1 b1:ByteArray} {n2:Bool} {a2 b2:ByteArray}  (h0:decide ((↑i:Int) < (↑(m+(1:Nat)):Int))=false):TSpec Tryd.prog (loopOf Tryd.f26 0) (suS L (nv [rr n1 a1 b1,rr n2 a2 b2]) m c i b) (.exit 0) (suS L (nv [rr n1 a1 b1,rr n2 a2 b2]) m c i b):=by
  exact tspec_dim (mask 32 0 [0,3,5,11,12,13]) 2 (sc:=[(5,0,.is (.c (.bool false)))]) (sb:=[]) (by kernel_rfl) (hP (isB h0) hN) (flk vcs_f (flk flnv trivial))
theorem cx_sz {L:List VR} (ok:∀ v∈L,v.Ok) (i j:Nat):Sz (pX L i) 1048576∧Sz (pY L i) 1048576:=by
  unfold pX pY
  cases h:L[i]? with
  | none=>exact ⟨sz0_s.mono (by decide),sz0_s.mono (by decide)⟩
  | some v=>exact ⟨(ok _ (List.mem_of_getElem? h)).r1.sz,(ok _ (List.mem_of_getElem? h)).r2.sz⟩
theorem arP_sz {L:List VR} (ok:∀ v∈L,v.Ok) (n:Nat):∀ i,Sz (arP (pX L) (pY L) n i) (i*5000000+1)
  | 0=>sz0_s
  | i+1=>by
    have h:=arP_sz ok n i
    obtain ⟨a1,a2⟩:=cx_sz ok i 0
    obtain ⟨b1,b2⟩:=cx_sz ok ((i+1)%n) 0
    show Sz (arP (pX L) (pY L) n i+cx (pX L) (pY L) i ((i+1)%n)) _
    unfold cx
    rw [Rat.sub_eq_add_neg]
    exact (h.add ((a1.mul b2).add (a2.mul b1).neg)).mono (by omega)
theorem arR_sz {L:List VR} (ok:∀ v∈L,v.Ok):∀ i,Sz (arR (pX L) (pY L) i) (i*9000000+1)
  | 0=>sz0_s
  | i+1=>by
    have h:=arR_sz ok i
    obtain ⟨a1,a2⟩:=cx_sz ok 0 0
    obtain ⟨b1,b2⟩:=cx_sz ok (i+1) 0
    obtain ⟨c1,c2⟩:=cx_sz ok (i+2) 0
    show Sz (arR (pX L) (pY L) i+sd (pX L) (pY L) 0 (i+1) (i+2)) _
    unfold sd
    simp only [Rat.sub_eq_add_neg]
    exact (h.add (((b1.add a1.neg).mul (c2.add a2.neg)).add ((b2.add a2.neg).mul (c1.add a1.neg)).neg)).mono (by omega)
section
variable {L:List VR} {m c:Nat} (hL:L.length=m+1) (ok:∀ v∈L,v.Ok) (hm:m < 64)
include hL ok hm
theorem aa_loop:∀ (d i:Nat),i+d=m+1→Rounds Tryd.prog (loopOf Tryd.f24 0) 0 (arA L (arP (pX L) (pY L) (m+1) i) m c i) .normal (arA L (arP (pX L) (pY L) (m+1) (m+1)) m c (m+1))
  | 0,i,hi=>by
    obtain rfl:i=m+1:=by omega
    exact .stop (aa_b (decide_eq_false (by omega)))
  | d+1,i,hi=>by
    have p1:(i+1)%(m+1) < m+1:=Nat.mod_lt _ (by omega)
    have hu:=List.getElem?_eq_getElem (l:=L) (i:=i) (by omega)
    have hv:=List.getElem?_eq_getElem (l:=L) (i:=(i+1)%(m+1)) (by omega)
    have st:=aa_a (c:=c) (arP_sz ok (m+1) i) (by omega) hu hv (ok _ (List.mem_of_getElem? hu)) (ok _ (List.mem_of_getElem? hv)) (by omega) (by omega) p1 (decide_eq_true (by omega))
    rw [← pX_at hu,← pX_at hv,← pY_at hu,← pY_at hv] at st
    exact .step st (aa_loop d (i+1) (by omega))
theorem ab_loop:∀ (d k:Nat),k+d=m - 1→Rounds Tryd.prog (loopOf Tryd.f30 0) 0 (arB L (arR (pX L) (pY L) k) m c k) .normal (arB L (arR (pX L) (pY L) (m - 1)) m c (m - 1))
  | 0,k,hk=>by
    obtain rfl:k=m - 1:=by omega
    exact .stop (ab_b (decide_eq_false (by omega)))
  | d+1,k,hk=>by
    have hu:=List.getElem?_eq_getElem (l:=L) (i:=0) (by omega)
    have hv:=List.getElem?_eq_getElem (l:=L) (i:=k+1) (by omega)
    have hw:=List.getElem?_eq_getElem (l:=L) (i:=k+2) (by omega)
    have st:=ab_a (m:=m) (c:=c) (arR_sz ok k) (by omega) hu hv hw (ok _ (List.mem_of_getElem? hu)) (ok _ (List.mem_of_getElem? hv)) (ok _ (List.mem_of_getElem? hw)) (by omega) (by omega) (decide_eq_true (by omega))
    rw [← sgn_sd hu hv hw] at st
    exact .step st (ab_loop d (k+1) (by omega))
end
noncomputable def dD (L:List VR) (x y:Rat) (i:Nat):Rat:=pX L i*x+pY L i*y
section
variable {L:List VR} {m c:Nat} {n1:Bool} {a1 b1:ByteArray} {n2:Bool} {a2 b2:ByteArray} {x1 x2:Rat}  (hL:L.length=m+1) (ok:∀ v∈L,v.Ok) (hm:m < 64) (h1':IsR n1 a1 b1 x1 1048576) (h2':IsR n2 a2 b2 x2 1048576)
include hL ok hm h1' h2'
theorem su_loop:∀ (d i:Nat),i+d=m+1→Rounds Tryd.prog (loopOf Tryd.f26 0) 0 (suS L (nv [rr n1 a1 b1,rr n2 a2 b2]) m c i (bsP (dD L x1 x2) i)) .normal (suS L (nv [rr n1 a1 b1,rr n2 a2 b2]) m c (m+1) (bsP (dD L x1 x2) (m+1)))
  | 0,i,hi=>by
    obtain rfl:i=m+1:=by omega
    exact .stop (su_c (decide_eq_false (by omega)))
  | d+1,i,hi=>by
    have hb:bsP (dD L x1 x2) i < m+1:=by
      rcases (bsP_spec (D:=dD L x1 x2) i).2.1 with h | h<;>omega
    have hu:=List.getElem?_eq_getElem (l:=L) (i:=i) (by omega)
    have hw:=List.getElem?_eq_getElem (l:=L) (i:=bsP (dD L x1 x2) i) (by omega)
    have e1:dD L x1 x2 i=L[i].x*x1+L[i].y*x2:=by unfold dD; rw [pX_at hu,pY_at hu]
    have e2:dD L x1 x2 (bsP (dD L x1 x2) i)=L[bsP (dD L x1 x2) i].x*x1+L[bsP (dD L x1 x2) i].y*x2:=by
      have:=pX_at hw
      have h2:=pY_at hw
      unfold dD at *
      rw [this,h2]
    refine .step ?_ (su_loop d (i+1) (by omega))
    by_cases h:dD L x1 x2 (bsP (dD L x1 x2) i) < dD L x1 x2 i
    · rw [show bsP (dD L x1 x2) (i+1)=i from if_pos h]
      exact su_a h1' h2' hu hw (ok _ (List.mem_of_getElem? hu)) (ok _ (List.mem_of_getElem? hw)) (by omega) hb (by omega) (decide_eq_true (by omega)) (decide_eq_true (cmpR_gt.2 (by rw [← e1,← e2]; exact h)))
    rw [show bsP (dD L x1 x2) (i+1)=bsP (dD L x1 x2) i from if_neg h]
    exact su_b h1' h2' hu hw (ok _ (List.mem_of_getElem? hu)) (ok _ (List.mem_of_getElem? hw)) (by omega) hb (by omega) (decide_eq_true (by omega)) (decide_eq_false (fun g=>h (by rw [e1,e2]; exact cmpR_gt.1 g)))
end
theorem area0 {L:List VR} {m c:Nat}  (hL:L.length=m+1) (ok:∀ v∈L,v.Ok)  (h0:(!decide (ringN L (64:Int)=(0:Int)))=true):FSpec Tryd.prog 24 [.sl 0 0 (m+1) c] [some ⟨false,vcs L⟩] (.c (Rv (0:Rat))) [some ⟨false,vcs L⟩]:=by
  exact fspec_ok Tryd.func24 (sc:=[(1,0,.fix (Rv (0:Rat))),(2,1,.readf (.int .i64 (ringN L (64:Int)))),(2,2,.is (.c (.bool true)))]) (sb:=[]) (keep:=[]) (by kernel_rfl) (hP (show Flat [some ⟨false,vcs L⟩] from flk vcs_f trivial) (hC of0_k (hP (show Flat [some { own:=false,cells:=vcs L }] from (flk vcs_f trivial)) (hF (convex_k (c:=c) hL ok) (hP (isB h0) hN)))))
theorem area1 {L:List VR} {s:Rat} {K m c:Nat}  (hL:L.length=m+1) (ok:∀ v∈L,v.Ok) (hs:Sz s K) (kK:K≤2000000000) (hb:TSpec Tryd.prog (.block 0 (.loop (loopOf Tryd.f24 0))) (arA L 0 m c 0) .normal (arA L s m c (m+1))) (h0:(!decide (ringN L (64:Int)=(0:Int)))=false):FSpec Tryd.prog 24 [.sl 0 0 (m+1) c] [some ⟨false,vcs L⟩] (.c (Rv ((↑(1:Int):Rat)/(↑(2:Int):Rat)*s))) [some ⟨false,vcs L⟩]:=by
  have s1:=(int_s (n:=(1:Int)) (by decide +kernel))
  have s2:=(int_s (n:=(2:Int)) (by decide +kernel))
  have s3:=(div_s s1 s2)
  have s4:=(isR_s s3)
  have s5:=(isR_s hs)
  exact fspec_ok Tryd.func24 (sc:=[(1,0,.fix (Rv (0:Rat))),(2,1,.readf (.int .i64 (ringN L (64:Int)))),(2,2,.is (.c (.bool false))),(0,99999,.mask (mask 40 0 [0,2,3,13,14,15])),(9,0,.fix (.tuple #[Rv ((↑(1:Int):Rat)/(↑(2:Int):Rat)),.int .i64 (0:Int)])),(10,2,.fix (Rv ((↑(1:Int):Rat)/(↑(2:Int):Rat)*s)))]) (sb:=[(0,.normal,arA L s m c (m+1))]) (keep:=[]) (by kernel_rfl) (hP (show Flat [some ⟨false,vcs L⟩] from flk vcs_f trivial) (hC of0_k (hP (show Flat [some { own:=false,cells:=vcs L }] from (flk vcs_f trivial)) (hF (convex_k (c:=c) hL ok) (hP (isB h0) (hP (show Flat [some { own:=false,cells:=vcs L },some ⟨Bool.true,nv [[.bool false],[.string ({ data:=#[] })],[.string ({ data:=#[] })]]⟩,some ⟨Bool.true,nv [rc ((0:Rat))]⟩] from (flk vcs_f (flk rfl (flk rfl trivial)))) (hP (hb) (hC (make_k (n:=(1:Int)) (m:=(2:Int)) (by decide +kernel) (by decide +kernel) (by decide +kernel) (by decide +kernel) (by decide +kernel)) (hC (mul_k s4 s5 (by omega)) hN)))))))))
theorem rarea1 {L:List VR} {s:Rat} {K m c:Nat}  (hL:L.length=m+1) (ok:∀ v∈L,v.Ok) (hs:Sz s K) (kK:K≤2000000000) (hb:TSpec Tryd.prog (.block 0 (.loop (loopOf Tryd.f30 0))) (arB L 0 m c 0) .normal (arB L s m c (m - 1)))  : FSpec Tryd.prog 30 [.sl 0 0 (m+1) c] [some ⟨false,vcs L⟩] (.c (Rv (s/(2:Rat)))) [some ⟨false,vcs L⟩]:=by
  have s0:=(isR_s hs)
  have s1:=sz2_s
  have s2:=(isR_s s1)
  exact fspec_ok Tryd.func30 (sc:=[(1,0,.fix (Rv (0:Rat))),(0,99999,.mask (mask 41 0 [0,2,3,4])),(6,1,.fix (Rv (2:Rat))),(6,2,.fix (.tuple #[Rv (s/(2:Rat)),.int .i64 (0:Int)]))]) (sb:=[(0,.normal,arB L s m c (m - 1))]) (keep:=[]) (by kernel_rfl) (hP (show Flat [some ⟨false,vcs L⟩] from flk vcs_f trivial) (hC ri0_k (hP (show Flat [some { own:=false,cells:=vcs L },some ⟨Bool.true,nv [[.bool false],[.string ({ data:=#[] })],[.string ({ data:=#[] })]]⟩,some ⟨Bool.true,nv [rc ((0:Rat))]⟩] from (flk vcs_f (flk rfl (flk rfl trivial)))) (hP (hb) (hC ri2_k (hC (div_k s0 s2 (by omega) (by decide +kernel)) hN))))))
theorem sup0 {L:List VR} {m c:Nat} {n1:Bool} {a1 b1:ByteArray} {n2:Bool} {a2 b2:ByteArray} {x1 x2:Rat}  (hL:L.length=m+1) (ok:∀ v∈L,v.Ok) (h1':IsR n1 a1 b1 x1 1048576) (h2':IsR n2 a2 b2 x2 1048576)  (h0:(!decide (ringN L (64:Int)=(0:Int)))=true):FSpec Tryd.prog 26 [.sl 0 0 (m+1) c,.c (ag [rr n1 a1 b1,rr n2 a2 b2])] [some ⟨false,vcs L⟩] (.c (.int .i64 (-1:Int))) [some ⟨false,vcs L⟩]:=by
  exact fspec_ok Tryd.func26 (sc:=[(1,1,.readf (.int .i64 (ringN L (64:Int)))),(1,2,.is (.c (.bool true)))]) (sb:=[]) (keep:=[]) (by kernel_rfl) (hP (show Flat [some ⟨false,vcs L⟩] from flk vcs_f trivial) (hP (show Flat [some { own:=false,cells:=vcs L }] from (flk vcs_f trivial)) (hF (convex_k (c:=c) hL ok) (hP (isB h0) hN))))
theorem sup1 {L:List VR} {m c b:Nat} {n1:Bool} {a1 b1:ByteArray} {n2:Bool} {a2 b2:ByteArray} {x1 x2:Rat}  (hL:L.length=m+1) (ok:∀ v∈L,v.Ok) (h1':IsR n1 a1 b1 x1 1048576) (h2':IsR n2 a2 b2 x2 1048576) (hb:TSpec Tryd.prog (.block 0 (.loop (loopOf Tryd.f26 0))) (suS L (nv [rr n1 a1 b1,rr n2 a2 b2]) m c 0 0) .normal (suS L (nv [rr n1 a1 b1,rr n2 a2 b2]) m c (m+1) b)) (h0:(!decide (ringN L (64:Int)=(0:Int)))=false):FSpec Tryd.prog 26 [.sl 0 0 (m+1) c,.c (ag [rr n1 a1 b1,rr n2 a2 b2])] [some ⟨false,vcs L⟩] (.c (.int .i64 (↑b:Int))) [some ⟨false,vcs L⟩]:=by
  exact fspec_ok Tryd.func26 (sc:=[(1,1,.readf (.int .i64 (ringN L (64:Int)))),(1,2,.is (.c (.bool false))),(0,99999,.mask (mask 32 0 [0,3,5,11,12,13]))]) (sb:=[(0,.normal,suS L (nv [rr n1 a1 b1,rr n2 a2 b2]) m c (m+1) b)]) (keep:=[]) (by kernel_rfl) (hP (show Flat [some ⟨false,vcs L⟩] from flk vcs_f trivial) (hP (show Flat [some { own:=false,cells:=vcs L }] from (flk vcs_f trivial)) (hF (convex_k (c:=c) hL ok) (hP (isB h0) (hP (show Flat [some { own:=false,cells:=vcs L },some ⟨Bool.true,nv [[.bool n1],[.string a1],[.string b1],[.bool n2],[.string a2],[.string b2]]⟩] from (flk vcs_f (flk rfl trivial))) (hP (hb) hN))))))
theorem ring_of {L:List VR} (hq:MustPoly L):L.length≤64∧3≤L.length∧RingOk (pX L) (pY L) L.length:=by
  have h:=hq
  unfold MustPoly ringN at h
  by_cases h1:(64:Int) < (L.length:Int)
  · rw [if_pos h1] at h; cases h
  rw [if_neg h1] at h
  by_cases h2:L.length < 3
  · rw [if_pos h2] at h; cases h
  rw [if_neg h2] at h
  refine ⟨by omega,by omega,Classical.byContradiction fun hn=>?_⟩
  rw [if_neg hn] at h
  cases h
section
variable {L:List VR} {m c:Nat} {n1:Bool} {a1 b1:ByteArray} {n2:Bool} {a2 b2:ByteArray} {x1 x2:Rat}  (hL:L.length=m+1) (ok:∀ v∈L,v.Ok)
include hL ok
theorem areaBad_k (hq:MustBad L):FSpec Tryd.prog 24 [.sl 0 0 (m+1) c] [some ⟨false,vcs L⟩] (.c (Rv 0)) [some ⟨false,vcs L⟩]:=area0 hL ok (by rw [decide_eq_false (show ¬ ringN L 64=0 from hq)]; rfl)
theorem areaOk_k (hq:MustPoly L):FSpec Tryd.prog 24 [.sl 0 0 (m+1) c] [some ⟨false,vcs L⟩] (.c (Rv (((1:Int):Rat)/((2:Int):Rat)*arP (pX L) (pY L) (m+1) (m+1)))) [some ⟨false,vcs L⟩]:=by
  have hm:=(ring_of hq).1
  exact area1 hL ok (arP_sz ok (m+1) (m+1)) (by omega) (aa_loop (c:=c) hL ok (by omega) (m+1) 0 (by omega)).spec (by rw [decide_eq_true (show ringN L 64=0 from hq)]; rfl)
theorem rarea_k (hq:MustPoly L):FSpec Tryd.prog 30 [.sl 0 0 (m+1) c] [some ⟨false,vcs L⟩] (.c (Rv (arR (pX L) (pY L) (m - 1)/2))) [some ⟨false,vcs L⟩]:=by
  have hm:=(ring_of hq).1
  exact rarea1 hL ok (arR_sz ok (m - 1)) (by omega) (ab_loop (c:=c) hL ok (by omega) (m - 1) 0 (by omega)).spec
theorem supBad_k (h1':IsR n1 a1 b1 x1 1048576) (h2':IsR n2 a2 b2 x2 1048576)  (hq:MustBad L):FSpec Tryd.prog 26 [.sl 0 0 (m+1) c,.c (ag [rr n1 a1 b1,rr n2 a2 b2])] [some ⟨false,vcs L⟩] (.c (.int .i64 (-1))) [some ⟨false,vcs L⟩]:=sup0 hL ok h1' h2' (by rw [decide_eq_false (show ¬ ringN L 64=0 from hq)]; rfl)
theorem supOk_k (h1':IsR n1 a1 b1 x1 1048576) (h2':IsR n2 a2 b2 x2 1048576)  (hq:MustPoly L):FSpec Tryd.prog 26 [.sl 0 0 (m+1) c,.c (ag [rr n1 a1 b1,rr n2 a2 b2])] [some ⟨false,vcs L⟩] (.c (.int .i64 ((bsP (dD L x1 x2) (m+1):Nat):Int))) [some ⟨false,vcs L⟩]:=by
  have hm:=(ring_of hq).1
  exact sup1 hL ok h1' h2' (su_loop (c:=c) hL ok (by omega) h1' h2' (m+1) 0 (by omega)).spec (by rw [decide_eq_true (show ringN L 64=0 from hq)]; rfl)
end
theorem area_same {L:List VR} {m:Nat} (hL:L.length=m+1) (hq:MustPoly L):((1:Int):Rat)/((2:Int):Rat)*arP (pX L) (pY L) (m+1) (m+1)=arR (pX L) (pY L) (m - 1)/2:=by
  have h:=ring_of hq
  have:=area_eq (X:=pX L) (Y:=pY L) (n:=m+1) (by omega)
  rw [show m+1 - 2=m - 1 by omega] at this
  rw [this,show ((1:Int):Rat)=1 from rfl,show ((2:Int):Rat)=2 from rfl]
  grind
end Go.Proofs.YtkpeembfagcpcaaDoor.G
end
section
namespace Go.Proofs.YtkpeembfagcpcaaDoor.G
open Go.Proofs.YtkpeembfagcpcaaDoor.U Go.RowKit
theorem numC_f {l:List Rat}:(numC l).all V.isC=true:=flnv
theorem vcs_l6 {L:List VR} {o i:Nat} {v:VR} (ho:o=6) (h:L[i+1]? = some v):((vcs L).drop (o+Int.toNat (i:Int)*6)).take 6=v.c.map V.c∧v.c.toArray.size=6:=by
  subst ho
  have:=vcs_ld h
  rw [Int.toNat_natCast] at *
  rw [show 6+i*6=0+(i+1)*6 by omega]
  exact this
theorem numC_ap {l:List Rat} {x:Rat}:appB (numC l) [.c (.bool (decide (x.num < 0))),.c (.string (M.B x.num.natAbs)),.c (.string (M.B x.den))] l.length 1 3=true:=by
  simp only [appB,numC_len,numC_f]
  simp [V.isC,one,Nat.mul_comm]
theorem numC_snoc {l:List Rat} {x:Rat}:numC l++[.c (.bool (decide (x.num < 0))),.c (.string (M.B x.num.natAbs)),.c (.string (M.B x.den))]=numC (l++[x]):=by
  simp [numC,nv,rc]
def bxS (L:List VR) (a b p q:Rat) (o m c i:Nat) (zc fc:List V):St:=⟨slots 62 0 [(2,.p 1 0),(5,.p 4 0),(26,.sl 0 o m c),(27,.c (.int .i64 (((m:Nat):Int)))),(28,.c (.int .i64 (((i:Nat):Int))))],[some ⟨false,vcs L⟩,some ⟨true,nv [[.bool false],[.string ⟨#[]⟩],[.string ⟨#[]⟩],[.bool false],[.string ⟨#[]⟩],[.string ⟨#[]⟩],[.bool false],[.string ⟨#[]⟩],[.string ⟨#[]⟩],[.bool false],[.string ⟨#[]⟩],[.string ⟨#[]⟩]]⟩,some ⟨true,zc⟩,some ⟨true,fc⟩,some ⟨true,nv [rc a,rc b,rc p,rc q]⟩]⟩
def bnN (L:List VR) (m c i:Nat):St:=⟨slots 53 0 [(2,.p 1 0),(4,.c (.slice none 0 0)),(5,.c (.slice none 0 0)),(19,.sl 0 0 (m+1) c),(20,.c (.int .i64 (((m+1:Nat):Int)))),(21,.c (.int .i64 (((i:Nat):Int))))],[some ⟨false,vcs L⟩,some ⟨true,nv [[.bool false],[.string ⟨#[]⟩],[.string ⟨#[]⟩],[.bool false],[.string ⟨#[]⟩],[.string ⟨#[]⟩],[.bool false],[.string ⟨#[]⟩],[.string ⟨#[]⟩],[.bool false],[.string ⟨#[]⟩],[.string ⟨#[]⟩]]⟩]⟩
def bnR (L:List VR) (X Y:List V) (n m c i:Nat):St:=⟨slots 53 0 [(2,.p 1 0),(4,.sd 2 n 3),(5,.sd 3 n 3),(19,.sl 0 0 (m+1) c),(20,.c (.int .i64 (((m+1:Nat):Int)))),(21,.c (.int .i64 (((i:Nat):Int))))],[some ⟨false,vcs L⟩,some ⟨true,nv [[.bool false],[.string ⟨#[]⟩],[.string ⟨#[]⟩],[.bool false],[.string ⟨#[]⟩],[.string ⟨#[]⟩],[.bool false],[.string ⟨#[]⟩],[.string ⟨#[]⟩],[.bool false],[.string ⟨#[]⟩],[.string ⟨#[]⟩]]⟩,some ⟨true,X⟩,some ⟨true,Y⟩]⟩
theorem bx_a {L:List VR} {v:VR} {a b p q:Rat} {o m c i:Nat} {zc fc:List V} (ho:o=6) (hz:zc.all V.isC=true) (hf:fc.all V.isC=true) (sa:Sz a 1048576) (sb:Sz b 1048576) (sc:Sz p 1048576) (sd':Sz q 1048576) (hv:L[i+1]? = some v) (ov:v.Ok) (hi:i < m) (hm:m < 4611686018427387900) (h0:decide ((↑i:Int) < (↑m:Int))=true):TSpec Tryd.prog (loopOf Tryd.f21 0) (bxS L a b p q o m c i zc fc) (.normal) (bxS L (mn a v.x) (mn b v.y) (mx p v.x) (mx q v.y) o m c (i+1) zc fc):=by
  have s1:=(isR_s sa)
  have s2:=(vr1_s ov)
  have s3:=(isR_s sb)
  have s4:=(vr2_s ov)
  have s5:=(isR_s sc)
  have s6:=(isR_s sd')
  exact tspec_dim (mask 62 0 [2,5,26,27,28]) 5 (sc:=[(7,0,.is (.c (.bool true))),(8,1,.fix (ag [[.bool (VR.n1 v)],[.string (VR.a1 v)],[.string (VR.b1 v)],[.bool (VR.n2 v)],[.string (VR.a2 v)],[.string (VR.b2 v)]])),(9,5,.fix (Rv (mn a (VR.x v)))),(9,11,.fix (Rv (mn b (VR.y v)))),(10,5,.fix (Rv (mx p (VR.x v)))),(10,11,.fix (Rv (mx q (VR.y v)))),(11,0,.is (.c (.int .i64 ((↑(i+(1:Nat)):Int)))))]) (sb:=[]) (by kernel_rfl) (hP (isB h0) (hP (show (0:Int)≤(↑i:Int)∧(↑i:Int) < (↑m:Int) by omega) (hP (vcs_l6 ho hv) (hC (min_k s1 s2 (by decide +kernel)) (hC (min_k s3 s4 (by decide +kernel)) (hC (max_k s5 s2 (by decide +kernel)) (hC (max_k s6 s4 (by decide +kernel)) (hP (incn (i:=i) hi (by omega)) hN)))))))) (flk vcs_f (flk flnv (flk hz (flk hf (flk flnv trivial)))))
theorem bx_b {L:List VR} {a b p q:Rat} {o m c i:Nat} {zc fc:List V} (hz:zc.all V.isC=true) (hf:fc.all V.isC=true) (h0:decide ((↑i:Int) < (↑m:Int))=false):TSpec Tryd.prog (loopOf Tryd.f21 0) (bxS L a b p q o m c i zc fc) (.exit 0) (bxS L a b p q o m c i zc fc):=by
  exact tspec_dim (mask 62 0 [2,5,26,27,28]) 5 (sc:=[(7,0,.is (.c (.bool false)))]) (sb:=[]) (by kernel_rfl) (hP (isB h0) hN) (flk vcs_f (flk flnv (flk hz (flk hf (flk flnv trivial)))))
theorem bn_a {L:List VR} {v:VR} {X Y:List Rat} {n m c i:Nat} (hv:L[i]? = some v) (ov:v.Ok) (hi:i < m+1) (hm:m < 4611686018427387900) (h0:decide ((↑i:Int) < (↑(m+(1:Nat)):Int))=true):TSpecN Tryd.prog 2 (loopOf Tryd.f22 0) (bnN L m c i) (.normal) (bnR L (nv [rc (v.x)]) (nv [rc (v.y)]) 1 m c (i+1)):=by
  have s1:=(vr1_s ov)
  have s2:=(vr2_s ov)
  exact tspecN_ren (mask 53 0 [2,4,5,19,20,21]) 2 [4,6] (sc:=[(6,0,.is (.c (.bool true))),(7,1,.fix (ag [[.bool (VR.n1 v)],[.string (VR.a1 v)],[.string (VR.b1 v)],[.bool (VR.n2 v)],[.string (VR.a2 v)],[.string (VR.b2 v)]])),(8,3,.fix (Rv (VR.x v))),(8,5,.app),(8,9,.fix (Rv (VR.y v))),(8,11,.app),(9,0,.is (.c (.int .i64 ((↑(i+(1:Nat)):Int)))))]) (sb:=[]) (by kernel_rfl) (hP (isB h0) (hP (show (0:Int)≤(↑i:Int)∧(↑i:Int) < (↑(m+(1:Nat)):Int) by omega) (hP (vcs_ld hv) (hC (plain_k s1 (by decide +kernel)) (hP (Eq.refl true) (hP (show (1:Nat)≤(9223372036854775807:Nat)∧(40:Nat)≤(140737488355328:Nat) by decide) (hC (plain_k s2 (by decide +kernel)) (hP (Eq.refl true) (hP (show (1:Nat)≤(9223372036854775807:Nat)∧(40:Nat)≤(140737488355328:Nat) by decide) (hP (incn (i:=i) hi (by omega)) hN)))))))))) (flk vcs_f (flk flnv (flk flnv (flk flnv trivial))))
theorem bn_b {L:List VR} {v:VR} {X Y:List Rat} {n m c i:Nat} (hv:L[i]? = some v) (ov:v.Ok) (hi:i < m+1) (hm:m < 4611686018427387900) (hX:Y.length=X.length) (hn:X.length≤1048576) (h0:decide ((↑i:Int) < (↑(m+(1:Nat)):Int))=true):TSpecN Tryd.prog 2 (loopOf Tryd.f22 0) (bnR L (numC X) (numC Y) X.length m c i) (.normal) (bnR L (numC X++[.c (.bool (decide (Rat.num (v.x) < 0))),.c (.string (M.B (Int.natAbs (Rat.num (v.x))))),.c (.string (M.B (Rat.den (v.x))))]) (numC Y++[.c (.bool (decide (Rat.num (v.y) < 0))),.c (.string (M.B (Int.natAbs (Rat.num (v.y))))),.c (.string (M.B (Rat.den (v.y))))]) (X.length+1) m c (i+1)):=by
  have s1:=(vr1_s ov)
  have s2:=(vr2_s ov)
  exact tspecN_ren (mask 53 0 [2,4,5,19,20,21]) 2 [6,8] (sc:=[(6,0,.is (.c (.bool true))),(7,1,.fix (ag [[.bool (VR.n1 v)],[.string (VR.a1 v)],[.string (VR.b1 v)],[.bool (VR.n2 v)],[.string (VR.a2 v)],[.string (VR.b2 v)]])),(8,3,.fix (Rv (VR.x v))),(8,5,.app),(8,9,.fix (Rv (VR.y v))),(8,11,.app),(9,0,.is (.c (.int .i64 ((↑(i+(1:Nat)):Int)))))]) (sb:=[]) (by kernel_rfl) (hP (isB h0) (hP (show (0:Int)≤(↑i:Int)∧(↑i:Int) < (↑(m+(1:Nat)):Int) by omega) (hP (vcs_ld hv) (hC (plain_k s1 (by decide +kernel)) (hP (numC_ap (l:=X) (x:=v.x)) (hP (show List.length X+(1:Nat)≤(9223372036854775807:Nat)∧(List.length X+(1:Nat))*(40:Nat)≤(140737488355328:Nat) by omega) (hC (plain_k s2 (by decide +kernel)) (hP ((by have:=numC_ap (l:=Y) (x:=v.y); rwa [hX] at this)) (hP (show List.length X+(1:Nat)≤(9223372036854775807:Nat)∧(List.length X+(1:Nat))*(40:Nat)≤(140737488355328:Nat) by omega) (hP (incn (i:=i) hi (by omega)) hN)))))))))) (flk vcs_f (flk flnv (flk (flap numC_f rfl) (flk (flap numC_f rfl) trivial))))
theorem bn_c {L:List VR} {X Y:List Rat} {n m c i:Nat}  (h0:decide ((↑i:Int) < (↑(m+(1:Nat)):Int))=false):TSpecN Tryd.prog 2 (loopOf Tryd.f22 0) (bnR L (numC X) (numC Y) n m c i) (.exit 0) (bnR L (numC X) (numC Y) n m c i):=by
  exact tspecN_ren (mask 53 0 [2,4,5,19,20,21]) 2 [2,3] (sc:=[(6,0,.is (.c (.bool false)))]) (sb:=[]) (by kernel_rfl) (hP (isB h0) hN) (flk vcs_f (flk flnv (flk numC_f (flk numC_f trivial))))
section
variable {L:List VR} {m c:Nat} (hL:L.length=m+1) (ok:∀ v∈L,v.Ok) (hm:m < 1048576)
include hL ok hm
theorem bx_loop {o:Nat} {zc fc:List V} (ho:0 < m→o=6) (hz:zc.all V.isC=true) (hf:fc.all V.isC=true):∀ (d i:Nat) (a b p q:Rat),i+d=m→Sz a 1048576→Sz b 1048576→Sz p 1048576→Sz q 1048576 →
    Rounds Tryd.prog (loopOf Tryd.f21 0) 0 (bxS L a b p q o m c i zc fc) .normal (bxS L (((L.map VR.x).drop (i+1)).foldl mn a) (((L.map VR.y).drop (i+1)).foldl mn b) (((L.map VR.x).drop (i+1)).foldl mx p) (((L.map VR.y).drop (i+1)).foldl mx q) o m c m zc fc)
  | 0,i,a,b,p,q,hi,h1,h2,h3,h4=>by
    obtain rfl:i=m:=by omega
    rw [List.drop_of_length_le (by rw [List.length_map]; omega),List.drop_of_length_le (by rw [List.length_map]; omega)]
    exact .stop (bx_b hz hf (decide_eq_false (by omega)))
  | d+1,i,a,b,p,q,hi,h1,h2,h3,h4=>by
    have hv:=List.getElem?_eq_getElem (l:=L) (i:=i+1) (by omega)
    have ov:=ok _ (List.mem_of_getElem? hv)
    have ex:(L.map VR.x).drop (i+1)=L[i+1].x::(L.map VR.x).drop (i+1+1):=by
      rw [List.drop_eq_getElem_cons (by rw [List.length_map]; omega),List.getElem_map]
    have ey:(L.map VR.y).drop (i+1)=L[i+1].y::(L.map VR.y).drop (i+1+1):=by
      rw [List.drop_eq_getElem_cons (by rw [List.length_map]; omega),List.getElem_map]
    rw [ex,ey]
    simp only [List.foldl_cons]
    exact .step (bx_a (ho (by omega)) hz hf h1 h2 h3 h4 hv ov (by omega) (by omega) (decide_eq_true (by omega))) (bx_loop ho hz hf d (i+1) _ _ _ _ (by omega) (mn_sz h1 ov.r1.sz) (mn_sz h2 ov.r2.sz) (mx_sz h3 ov.r1.sz) (mx_sz h4 ov.r2.sz))
theorem bn_loop:∀ (d i:Nat),i+1+d=m+1→RoundsN Tryd.prog 2 (loopOf Tryd.f22 0) 0 (bnR L (numC ((L.map VR.x).take (i+1))) (numC ((L.map VR.y).take (i+1))) (i+1) m c (i+1)) .normal (bnR L (numC (L.map VR.x)) (numC (L.map VR.y)) (m+1) m c (m+1))
  | 0,i,hi=>by
    obtain rfl:i=m:=by omega
    rw [List.take_of_length_le (by rw [List.length_map]; omega),List.take_of_length_le (by rw [List.length_map]; omega)]
    exact .stop (bn_c (decide_eq_false (by omega)))
  | d+1,i,hi=>by
    have hv:=List.getElem?_eq_getElem (l:=L) (i:=i+1) (by omega)
    have ov:=ok _ (List.mem_of_getElem? hv)
    have l1:((L.map VR.x).take (i+1)).length=i+1:=by rw [List.length_take,List.length_map]; omega
    have l2:((L.map VR.y).take (i+1)).length=i+1:=by rw [List.length_take,List.length_map]; omega
    have st:=bn_b (n:=0) (c:=c) (X:=(L.map VR.x).take (i+1)) (Y:=(L.map VR.y).take (i+1)) hv ov (show i+1 < m+1 by omega) (by omega) (by rw [l1,l2]) (by rw [l1]; omega) (decide_eq_true (by omega))
    have ex:(L.map VR.x).take (i+1+1)=(L.map VR.x).take (i+1)++[L[i+1].x]:=by
      rw [List.take_succ_eq_append_getElem (by rw [List.length_map]; omega),List.getElem_map]
    have ey:(L.map VR.y).take (i+1+1)=(L.map VR.y).take (i+1)++[L[i+1].y]:=by
      rw [List.take_succ_eq_append_getElem (by rw [List.length_map]; omega),List.getElem_map]
    rw [numC_snoc,numC_snoc,← ex,← ey,l1] at st
    exact .step st (bn_loop d (i+1) (by omega))
theorem bn_all:RoundsN Tryd.prog 2 (loopOf Tryd.f22 0) 0 (bnN L m c 0) .normal (bnR L (numC (L.map VR.x)) (numC (L.map VR.y)) (m+1) m c (m+1)):=by
  have hv:=List.getElem?_eq_getElem (l:=L) (i:=0) (by omega)
  have ov:=ok _ (List.mem_of_getElem? hv)
  have st:=bn_a (X:=[]) (Y:=[]) (n:=0) (c:=c) hv ov (show 0 < m+1 by omega) (by omega) (decide_eq_true (by omega))
  have h:=bn_loop (c:=c) hL ok hm m 0 (by omega)
  have ex:(L.map VR.x).take 1=[L[0].x]:=by
    rw [List.take_succ_eq_append_getElem (by rw [List.length_map]; omega),List.getElem_map]; rfl
  have ey:(L.map VR.y).take 1=[L[0].y]:=by
    rw [List.take_succ_eq_append_getElem (by rw [List.length_map]; omega),List.getElem_map]; rfl
  rw [show 0+1=1 from rfl,ex,ey] at h
  exact .step st h
end
theorem box0 {L:List VR} {v:VR} {a b p q:Rat} {m c:Nat} (hL:L.length=m+1) (ok:∀ v∈L,v.Ok) (h0:L[0]? = some v) (o0:v.Ok) (hc:m+1≤c) (hb:TSpec Tryd.prog (.block 0 (.loop (loopOf Tryd.f21 0))) (bxS L (v.x+(0+0)) (v.y+(0+0)) (v.x+(0+0)) (v.y+(0+0)) (0+if c=1 then 0 else 6) m (c - 1) 0 (nv [rc (0+0),rc (0+0)]) (nv [rc (v.x+(0+0)),rc (v.y+(0+0))])) .normal (bxS L a b p q (0+if c=1 then 0 else 6) m (c - 1) m (nv [rc (0+0),rc (0+0)]) (nv [rc (v.x+(0+0)),rc (v.y+(0+0))]))) (h1:decide ((↑(m+(1:Nat)):Int)=(0:Int))=false):FSpec Tryd.prog 21 [.sl 0 0 (m+1) c] [some ⟨false,vcs L⟩] (.c (ag [rc a,rc b,rc p,rc q])) [some ⟨false,vcs L⟩]:=by
  have s0:=isR0_s
  have s2:=(vr1_s o0)
  have s3:=(vr2_s o0)
  have s4:=(add_s (szr s0) (szr s0))
  have s5:=(isR_s s4)
  exact fspec_ok Tryd.func21 (sc:=[(1,2,.fix (ag [rc ((0:Rat)+(0:Rat)),rc ((0:Rat)+(0:Rat))])),(2,2,.is (.c (.bool false))),(4,2,.fix (ag [[.bool (VR.n1 v)],[.string (VR.a1 v)],[.string (VR.b1 v)],[.bool (VR.n2 v)],[.string (VR.a2 v)],[.string (VR.b2 v)]])),(4,4,.fix (ag [rc (VR.x v+((0:Rat)+(0:Rat))),rc (VR.y v+((0:Rat)+(0:Rat)))])),(0,99999,.mask (mask 62 0 [2,5,26,27,28]))]) (sb:=[(0,.normal,bxS L a b p q (0+if c=1 then 0 else 6) m (c - 1) m (nv [rc (0+0),rc (0+0)]) (nv [rc (v.x+(0+0)),rc (v.y+(0+0))]))]) (keep:=[]) (by kernel_rfl) (hP (show Flat [some ⟨false,vcs L⟩] from flk vcs_f trivial) (hC (vadd_k s0 (by decide +kernel) s0 (by decide +kernel) s0 (by decide +kernel) s0 (by decide +kernel)) (hP (isB h1) (hP (show (0:Int)≤(0:Int)∧(0:Int) < (↑(m+(1:Nat)):Int) by omega) (hP (vcs_l0 h0) (hC (vadd_k s2 (by decide +kernel) s3 (by decide +kernel) s5 (by decide +kernel) s5 (by decide +kernel)) (hP (show (0:Int)≤(1:Int)∧(1:Int)≤(↑(m+(1:Nat)):Int)∧(↑(m+(1:Nat)):Int)≤(↑c:Int) by omega) (hP (show Flat [some { own:=false,cells:=vcs L },some ⟨Bool.true,nv [[.bool false],[.string ({ data:=#[] })],[.string ({ data:=#[] })],[.bool false],[.string ({ data:=#[] })],[.string ({ data:=#[] })],[.bool false],[.string ({ data:=#[] })],[.string ({ data:=#[] })],[.bool false],[.string ({ data:=#[] })],[.string ({ data:=#[] })]]⟩,some ⟨Bool.true,nv [rc ((0:Rat)+(0:Rat)),rc ((0:Rat)+(0:Rat))]⟩,some ⟨Bool.true,nv [rc (VR.x v+((0:Rat)+(0:Rat))),rc (VR.y v+((0:Rat)+(0:Rat)))]⟩,some ⟨Bool.true,nv [rc (VR.x v+((0:Rat)+(0:Rat))),rc (VR.y v+((0:Rat)+(0:Rat))),rc (VR.x v+((0:Rat)+(0:Rat))),rc (VR.y v+((0:Rat)+(0:Rat)))]⟩] from (flk vcs_f (flk rfl (flk rfl (flk rfl (flk rfl trivial)))))) (hP (hb) hN)))))))))
noncomputable def fMn (X:List Rat):Rat:=(X.drop 1).foldl mn (X.headD 0)
noncomputable def fMx (X:List Rat):Rat:=(X.drop 1).foldl mx (X.headD 0)
theorem aroundL_k {X:List Rat} {m cp:Nat} (hX:X.length=m+1) (hm:m < 2000000) (hs:∀ y∈X,Sz y 1048576):FSpec Tryd.prog 63 [.sl 0 0 (m+1) cp] [some ⟨false,numC X⟩] (.c (ag [rc (fMn X),rc (fMx X)])) [some ⟨false,numC X⟩]:=by
  cases X with
  | nil=>simp at hX
  | cons x r =>
    have hr:r.length=m:=by simpa using hX
    subst hr
    exact rAround_g r (by omega) (hs x List.mem_cons_self) (fun y hy=>hs y (List.mem_cons_of_mem _ hy)) (by decide)
theorem bnd0 {L:List VR} {X Y:List Rat} {m c:Nat} (hX:X.length=m+1) (hm:m < 2000000) (hY:Y.length=m+1) (tX:∀ y∈X,Sz y 1048576) (tY:∀ y∈Y,Sz y 1048576) (hb:TSpecN Tryd.prog 1 (.block 0 (.loop (loopOf Tryd.f22 0))) (bnN L m c 0) .normal (bnR L (numC X) (numC Y) (m+1) m c (m+1))) (h0:decide ((↑(m+(1:Nat)):Int)=(0:Int))=false):FSpec Tryd.prog 22 [.sl 0 0 (m+1) c] [some ⟨false,vcs L⟩] (.c (ag [rc (fMn X),rc (fMn Y),rc (fMx X),rc (fMx Y)])) [some ⟨false,vcs L⟩]:=by
  exact fspec_ok Tryd.func22 (sc:=[(1,2,.is (.c (.bool false))),(0,99999,.maskN (mask 53 0 [2,4,5,19,20,21])),(10,1,.readf (ag [rc (fMn X),rc (fMx X)])),(10,3,.readf (ag [rc (fMn Y),rc (fMx Y)]))]) (sb:=[(0,.normal,bnR L (numC X) (numC Y) (m+1) m c (m+1))]) (keep:=[]) (by kernel_rfl) (hP (show Flat [some ⟨false,vcs L⟩] from flk vcs_f trivial) (hP (isB h0) (hP (show Flat [some { own:=false,cells:=vcs L },some ⟨Bool.true,nv [[.bool false],[.string ({ data:=#[] })],[.string ({ data:=#[] })],[.bool false],[.string ({ data:=#[] })],[.string ({ data:=#[] })],[.bool false],[.string ({ data:=#[] })],[.string ({ data:=#[] })],[.bool false],[.string ({ data:=#[] })],[.string ({ data:=#[] })]]⟩] from (flk vcs_f (flk rfl trivial))) (hP (hb) (hP (show Flat [some { own:=false,cells:=numC X }] from (flk numC_f trivial)) (hP (fun (cp:Nat→Nat→Nat)=>(aroundL_k (cp:=cp (2:Nat) (3:Nat)) hX hm tX)) (hP (show Flat [some { own:=false,cells:=numC Y }] from (flk numC_f trivial)) (hP (fun (cp:Nat→Nat→Nat)=>(aroundL_k (cp:=cp (3:Nat) (3:Nat)) hY hm tY)) hN))))))))
section
variable {L:List VR} {m c:Nat} (hL:L.length=m+1) (ok:∀ v∈L,v.Ok) (hm:m < 1048576)
include hL ok hm
omit hL hm in
theorem map_sz:(∀ y∈L.map VR.x,Sz y 1048576)∧(∀ y∈L.map VR.y,Sz y 1048576):=by
  constructor
  · intro y hy
    obtain ⟨v,hv,rfl⟩:=List.mem_map.1 hy
    exact (ok v hv).r1.sz
  intro y hy
  obtain ⟨v,hv,rfl⟩:=List.mem_map.1 hy
  exact (ok v hv).r2.sz
theorem bound_k:FSpec Tryd.prog 22 [.sl 0 0 (m+1) c] [some ⟨false,vcs L⟩] (.c (ag [rc (fMn (L.map VR.x)),rc (fMn (L.map VR.y)),rc (fMx (L.map VR.x)),rc (fMx (L.map VR.y))])) [some ⟨false,vcs L⟩]:=by
  have hs:=map_sz ok
  have hb:=RoundsN.spec (bn_all (c:=c) hL ok hm)
  exact bnd0 (by rw [List.length_map]; exact hL) (by omega) (by rw [List.length_map]; exact hL) hs.1 hs.2 (fun C w0 β a w hn hok=>hb C w0 β a w (Nat.le_trans hn (by decide)) hok) (decide_eq_false (by omega))
theorem box_k (hc:m+1≤c):FSpec Tryd.prog 21 [.sl 0 0 (m+1) c] [some ⟨false,vcs L⟩] (.c (ag [rc (fMn (L.map VR.x)),rc (fMn (L.map VR.y)),rc (fMx (L.map VR.x)),rc (fMx (L.map VR.y))])) [some ⟨false,vcs L⟩]:=by
  have hv:=List.getElem?_eq_getElem (l:=L) (i:=0) (by omega)
  have ov:=ok _ (List.mem_of_getElem? hv)
  have e1:(L.map VR.x).headD 0=L[0].x+(0+0):=by
    rw [List.headD_eq_head?_getD,List.head?_eq_getElem?,List.getElem?_map,hv]
    show L[0].x=_
    grind
  have e2:(L.map VR.y).headD 0=L[0].y+(0+0):=by
    rw [List.headD_eq_head?_getD,List.head?_eq_getElem?,List.getElem?_map,hv]
    show L[0].y=_
    grind
  have z1:Sz (L[0].x+(0+0)) 1048576:=by
    have e:∀ x:Rat,x+(0+0)=x:=by intro x; grind
    rw [e]; exact ov.r1.sz
  have z2:Sz (L[0].y+(0+0)) 1048576:=by
    have e:∀ x:Rat,x+(0+0)=x:=by intro x; grind
    rw [e]; exact ov.r2.sz
  unfold fMn fMx
  rw [e1,e2]
  exact box0 hL ok hv ov hc (bx_loop (c:=c - 1) hL ok hm (o:=(0+if c=1 then 0 else 6)) (fun h=>by rw [if_neg (by omega)]) (zc:=nv [rc (0+0),rc (0+0)]) (fc:=nv [rc (L[0].x+(0+0)),rc (L[0].y+(0+0))]) flnv flnv m 0 _ _ _ _ (by omega) z1 z2 z1 z2).spec (decide_eq_false (by omega))
end
end Go.Proofs.YtkpeembfagcpcaaDoor.G
end
section
namespace Go.Proofs.YtkpeembfagcpcaaDoor.G
open Go.Proofs.YtkpeembfagcpcaaDoor.U Go.RowKit
def plA (L:List VR) (P D:List V) (m c b:Nat) (j:Nat):St:=⟨slots 114 0 [(0,.sl 0 0 (m+1) c),(4,.p 1 0),(5,.p 2 0),(8,.c (.int .i64 (((b:Nat):Int)))),(9,.c (.int .i64 ((j:Int) - 1)))],[some ⟨false,vcs L⟩,some ⟨true,P⟩,some ⟨true,D⟩]⟩
def plB (L:List VR) (P D:List V) (m c b i:Nat):St:=⟨slots 114 0 [(0,.sl 0 0 (m+1) c),(4,.p 1 0),(5,.p 2 0),(8,.c (.int .i64 (((b:Nat):Int)))),(73,.c (.int .i64 (((b:Nat):Int)))),(74,.c (.int .i64 (((i:Nat):Int))))],[some ⟨false,vcs L⟩,some ⟨true,P⟩,some ⟨true,D⟩]⟩
theorem jm1 {j:Nat}:V.c (.int .i64 (((j+1:Nat):Int) - 1)) = .c (.int .i64 ((j:Nat):Int)):=by
  congr 2
  omega
theorem subj {j:Nat} (h:j < 1000000):V.c (.int .i64 (IntKind.wrap .i64 ((j:Int) - 1))) = .c (.int .i64 ((j:Int) - 1)):=by
  congr 2
  rw [IntKind.wrap_i64]
  omega
theorem pl_a {L:List VR} {u w:VR} {m c b j:Nat} {n1:Bool} {a1 b1:ByteArray} {n2:Bool} {a2 b2:ByteArray} {x1 x2:Rat} {n3:Bool} {a3 b3:ByteArray} {n4:Bool} {a4 b4:ByteArray} {x3 x4:Rat}  (h1':IsR n1 a1 b1 x1 1048576) (h2':IsR n2 a2 b2 x2 1048576) (h3':IsR n3 a3 b3 x3 1048576) (h4':IsR n4 a4 b4 x4 1048576) (hu:L[j]? = some u) (hw:L[b]? = some w) (ou:u.Ok) (ow:w.Ok) (hj:j < m+1) (hb:b < m+1) (hm:m < 1000) (h0:decide ((0:Int)≤(↑j:Int))=true) (h13:decide ((0:Int)≤cmpR (VR.x u*x3+VR.y u*x4) (VR.x w*x3+VR.y w*x4))=true):TSpec Tryd.prog (loopOf Tryd.f5 0) (plA L (nv [rr n1 a1 b1,rr n2 a2 b2]) (nv [rr n3 a3 b3,rr n4 a4 b4]) m c b (j+1)) (.normal) (plA L (nv [rr n1 a1 b1,rr n2 a2 b2]) (nv [rr n3 a3 b3,rr n4 a4 b4]) m c j j):=by
  have s1:=(vr1_s ou)
  have s2:=(vr2_s ou)
  have s3:=(vr1_s ow)
  have s4:=(vr2_s ow)
  have s5:=(mul_s (szr s1) (szr h3'))
  have s6:=(mul_s (szr s2) (szr h4'))
  have s7:=(add_s s5 s6)
  have s8:=(isR_s s7)
  have s9:=(mul_s (szr s3) (szr h3'))
  have s10:=(mul_s (szr s4) (szr h4'))
  have s11:=(add_s s9 s10)
  have s12:=(isR_s s11)
  exact tspec_dim (mask 114 0 [0,4,5,8,9]) 3 (sc:=[(10,0,.is (.c (.int .i64 (↑j:Int)))),(10,1,.is (.c (.bool true))),(12,1,.is (.c (.int .i64 (↑j:Int)))),(12,3,.fix (ag [[.bool (VR.n1 u)],[.string (VR.a1 u)],[.string (VR.b1 u)],[.bool (VR.n2 u)],[.string (VR.a2 u)],[.string (VR.b2 u)]])),(12,5,.fix (Rv (VR.x u*x3+VR.y u*x4))),(12,9,.fix (ag [[.bool (VR.n1 w)],[.string (VR.a1 w)],[.string (VR.b1 w)],[.bool (VR.n2 w)],[.string (VR.a2 w)],[.string (VR.b2 w)]])),(12,11,.fix (Rv (VR.x w*x3+VR.y w*x4))),(12,12,.fix (.int .i64 (cmpR (VR.x u*x3+VR.y u*x4) (VR.x w*x3+VR.y w*x4)))),(12,13,.is (.c (.bool true))),(13,0,.is (.c (.int .i64 (↑j:Int)))),(11,0,.is (.c (.int .i64 (↑j:Int)))),(11,1,.is (.c (.int .i64 ((↑j:Int) - (1:Int)))))]) (sb:=[]) (by kernel_rfl) (hP (jm1 (j:=j)) (hP (isB h0) (hP (jm1 (j:=j)) (hP (show (0:Int)≤(↑j:Int)∧(↑j:Int) < (↑(m+(1:Nat)):Int) by omega) (hP (vcs_ld hu) (hC (rdot_k s1 (by decide +kernel) s2 (by decide +kernel) h3' (by decide +kernel) h4' (by decide +kernel)) (hP (show (0:Int)≤(↑b:Int)∧(↑b:Int) < (↑(m+(1:Nat)):Int) by omega) (hP (vcs_ld hw) (hC (rdot_k s3 (by decide +kernel) s4 (by decide +kernel) h3' (by decide +kernel) h4' (by decide +kernel)) (hC (cmp_k s8 s12 (by decide +kernel)) (hP (isB h13) (hP (jm1 (j:=j)) (hP (jm1 (j:=j)) (hP (subj (j:=j) (by omega)) hN)))))))))))))) (flk vcs_f (flk flnv (flk flnv trivial)))
theorem pl_b {L:List VR} {u w:VR} {m c b j:Nat} {n1:Bool} {a1 b1:ByteArray} {n2:Bool} {a2 b2:ByteArray} {x1 x2:Rat} {n3:Bool} {a3 b3:ByteArray} {n4:Bool} {a4 b4:ByteArray} {x3 x4:Rat}  (h1':IsR n1 a1 b1 x1 1048576) (h2':IsR n2 a2 b2 x2 1048576) (h3':IsR n3 a3 b3 x3 1048576) (h4':IsR n4 a4 b4 x4 1048576) (hu:L[j]? = some u) (hw:L[b]? = some w) (ou:u.Ok) (ow:w.Ok) (hj:j < m+1) (hb:b < m+1) (hm:m < 1000) (h0:decide ((0:Int)≤(↑j:Int))=true) (h13:decide ((0:Int)≤cmpR (VR.x u*x3+VR.y u*x4) (VR.x w*x3+VR.y w*x4))=false):TSpec Tryd.prog (loopOf Tryd.f5 0) (plA L (nv [rr n1 a1 b1,rr n2 a2 b2]) (nv [rr n3 a3 b3,rr n4 a4 b4]) m c b (j+1)) (.normal) (plA L (nv [rr n1 a1 b1,rr n2 a2 b2]) (nv [rr n3 a3 b3,rr n4 a4 b4]) m c b j):=by
  have s1:=(vr1_s ou)
  have s2:=(vr2_s ou)
  have s3:=(vr1_s ow)
  have s4:=(vr2_s ow)
  have s5:=(mul_s (szr s1) (szr h3'))
  have s6:=(mul_s (szr s2) (szr h4'))
  have s7:=(add_s s5 s6)
  have s8:=(isR_s s7)
  have s9:=(mul_s (szr s3) (szr h3'))
  have s10:=(mul_s (szr s4) (szr h4'))
  have s11:=(add_s s9 s10)
  have s12:=(isR_s s11)
  exact tspec_dim (mask 114 0 [0,4,5,8,9]) 3 (sc:=[(10,0,.is (.c (.int .i64 (↑j:Int)))),(10,1,.is (.c (.bool true))),(12,1,.is (.c (.int .i64 (↑j:Int)))),(12,3,.fix (ag [[.bool (VR.n1 u)],[.string (VR.a1 u)],[.string (VR.b1 u)],[.bool (VR.n2 u)],[.string (VR.a2 u)],[.string (VR.b2 u)]])),(12,5,.fix (Rv (VR.x u*x3+VR.y u*x4))),(12,9,.fix (ag [[.bool (VR.n1 w)],[.string (VR.a1 w)],[.string (VR.b1 w)],[.bool (VR.n2 w)],[.string (VR.a2 w)],[.string (VR.b2 w)]])),(12,11,.fix (Rv (VR.x w*x3+VR.y w*x4))),(12,12,.fix (.int .i64 (cmpR (VR.x u*x3+VR.y u*x4) (VR.x w*x3+VR.y w*x4)))),(12,13,.is (.c (.bool false))),(11,0,.is (.c (.int .i64 (↑j:Int)))),(11,1,.is (.c (.int .i64 ((↑j:Int) - (1:Int)))))]) (sb:=[]) (by kernel_rfl) (hP (jm1 (j:=j)) (hP (isB h0) (hP (jm1 (j:=j)) (hP (show (0:Int)≤(↑j:Int)∧(↑j:Int) < (↑(m+(1:Nat)):Int) by omega) (hP (vcs_ld hu) (hC (rdot_k s1 (by decide +kernel) s2 (by decide +kernel) h3' (by decide +kernel) h4' (by decide +kernel)) (hP (show (0:Int)≤(↑b:Int)∧(↑b:Int) < (↑(m+(1:Nat)):Int) by omega) (hP (vcs_ld hw) (hC (rdot_k s3 (by decide +kernel) s4 (by decide +kernel) h3' (by decide +kernel) h4' (by decide +kernel)) (hC (cmp_k s8 s12 (by decide +kernel)) (hP (isB h13) (hP (jm1 (j:=j)) (hP (subj (j:=j) (by omega)) hN))))))))))))) (flk vcs_f (flk flnv (flk flnv trivial)))
theorem pl_c {L:List VR} {m c b:Nat} {n1:Bool} {a1 b1:ByteArray} {n2:Bool} {a2 b2:ByteArray} {x1 x2:Rat} {n3:Bool} {a3 b3:ByteArray} {n4:Bool} {a4 b4:ByteArray} {x3 x4:Rat}    : TSpec Tryd.prog (loopOf Tryd.f5 0) (plA L (nv [rr n1 a1 b1,rr n2 a2 b2]) (nv [rr n3 a3 b3,rr n4 a4 b4]) m c b 0) (.exit 0) (plA L (nv [rr n1 a1 b1,rr n2 a2 b2]) (nv [rr n3 a3 b3,rr n4 a4 b4]) m c b 0):=by
  exact tspec_dim (mask 114 0 [0,4,5,8,9]) 3 (sc:=[]) (sb:=[]) (by kernel_rfl) hN (flk vcs_f (flk flnv (flk flnv trivial)))
theorem pl_d {L:List VR} {u w:VR} {m c b i:Nat} {n1:Bool} {a1 b1:ByteArray} {n2:Bool} {a2 b2:ByteArray} {x1 x2:Rat} {n3:Bool} {a3 b3:ByteArray} {n4:Bool} {a4 b4:ByteArray} {x3 x4:Rat}  (h1':IsR n1 a1 b1 x1 1048576) (h2':IsR n2 a2 b2 x2 1048576) (h3':IsR n3 a3 b3 x3 1048576) (h4':IsR n4 a4 b4 x4 1048576) (hu:L[i]? = some u) (hw:L[b]? = some w) (ou:u.Ok) (ow:w.Ok) (hi:i < m+1) (hb:b < m+1) (hm:m < 1000) (h0:decide ((↑i:Int) < (↑b:Int))=true) (h13:decide (cmpR (VR.x u*x3+VR.y u*x4) (VR.x w*x3+VR.y w*x4)=(0:Int))=false):TSpec Tryd.prog (loopOf Tryd.f5 2) (plB L (nv [rr n1 a1 b1,rr n2 a2 b2]) (nv [rr n3 a3 b3,rr n4 a4 b4]) m c b i) (.normal) (plB L (nv [rr n1 a1 b1,rr n2 a2 b2]) (nv [rr n3 a3 b3,rr n4 a4 b4]) m c b (i+1)):=by
  have s1:=(vr1_s ou)
  have s2:=(vr2_s ou)
  have s3:=(vr1_s ow)
  have s4:=(vr2_s ow)
  have s5:=(mul_s (szr s1) (szr h3'))
  have s6:=(mul_s (szr s2) (szr h4'))
  have s7:=(add_s s5 s6)
  have s8:=(isR_s s7)
  have s9:=(mul_s (szr s3) (szr h3'))
  have s10:=(mul_s (szr s4) (szr h4'))
  have s11:=(add_s s9 s10)
  have s12:=(isR_s s11)
  exact tspec_dim (mask 114 0 [0,4,5,8,73,74]) 3 (sc:=[(15,0,.is (.c (.bool true))),(17,3,.fix (ag [[.bool (VR.n1 u)],[.string (VR.a1 u)],[.string (VR.b1 u)],[.bool (VR.n2 u)],[.string (VR.a2 u)],[.string (VR.b2 u)]])),(17,5,.fix (Rv (VR.x u*x3+VR.y u*x4))),(17,9,.fix (ag [[.bool (VR.n1 w)],[.string (VR.a1 w)],[.string (VR.b1 w)],[.bool (VR.n2 w)],[.string (VR.a2 w)],[.string (VR.b2 w)]])),(17,11,.fix (Rv (VR.x w*x3+VR.y w*x4))),(17,12,.fix (.int .i64 (cmpR (VR.x u*x3+VR.y u*x4) (VR.x w*x3+VR.y w*x4)))),(17,13,.is (.c (.bool false))),(19,0,.is (.c (.int .i64 ((↑(i+(1:Nat)):Int)))))]) (sb:=[]) (by kernel_rfl) (hP (isB h0) (hP (show (0:Int)≤(↑i:Int)∧(↑i:Int) < (↑(m+(1:Nat)):Int) by omega) (hP (vcs_ld hu) (hC (rdot_k s1 (by decide +kernel) s2 (by decide +kernel) h3' (by decide +kernel) h4' (by decide +kernel)) (hP (show (0:Int)≤(↑b:Int)∧(↑b:Int) < (↑(m+(1:Nat)):Int) by omega) (hP (vcs_ld hw) (hC (rdot_k s3 (by decide +kernel) s4 (by decide +kernel) h3' (by decide +kernel) h4' (by decide +kernel)) (hC (cmp_k s8 s12 (by decide +kernel)) (hP (isB h13) (hP (incn (i:=i) hi (by omega)) hN)))))))))) (flk vcs_f (flk flnv (flk flnv trivial)))
theorem pl_e {L:List VR} {m c b i:Nat} {n1:Bool} {a1 b1:ByteArray} {n2:Bool} {a2 b2:ByteArray} {x1 x2:Rat} {n3:Bool} {a3 b3:ByteArray} {n4:Bool} {a4 b4:ByteArray} {x3 x4:Rat}   (h0:decide ((↑i:Int) < (↑b:Int))=false):TSpec Tryd.prog (loopOf Tryd.f5 2) (plB L (nv [rr n1 a1 b1,rr n2 a2 b2]) (nv [rr n3 a3 b3,rr n4 a4 b4]) m c b i) (.exit 2) (plB L (nv [rr n1 a1 b1,rr n2 a2 b2]) (nv [rr n3 a3 b3,rr n4 a4 b4]) m c b i):=by
  exact tspec_dim (mask 114 0 [0,4,5,8,73,74]) 3 (sc:=[(15,0,.is (.c (.bool false)))]) (sb:=[]) (by kernel_rfl) (hP (isB h0) hN) (flk vcs_f (flk flnv (flk flnv trivial)))
section
variable {L:List VR} {m c:Nat} {n1:Bool} {a1 b1:ByteArray} {n2:Bool} {a2 b2:ByteArray} {x1 x2:Rat} {n3:Bool} {a3 b3:ByteArray} {n4:Bool} {a4 b4:ByteArray} {x3 x4:Rat}  (hL:L.length=m+1) (ok:∀ v∈L,v.Ok) (hm:m < 64) (h1':IsR n1 a1 b1 x1 1048576) (h2':IsR n2 a2 b2 x2 1048576) (h3':IsR n3 a3 b3 x3 1048576) (h4':IsR n4 a4 b4 x4 1048576)
include hL ok hm h1' h2' h3' h4'
omit hL ok h1' h2' h3' h4' hm in
theorem dD_at {i:Nat} {u:VR} (hu:L[i]? = some u):dD L x3 x4 i=u.x*x3+u.y*x4:=by
  unfold dD
  rw [pX_at hu,pY_at hu]
theorem pl_loop:∀ (j b:Nat),j≤m+1→b < m+1→Rounds Tryd.prog (loopOf Tryd.f5 0) 0 (plA L (nv [rr n1 a1 b1,rr n2 a2 b2]) (nv [rr n3 a3 b3,rr n4 a4 b4]) m c b j) .normal (plA L (nv [rr n1 a1 b1,rr n2 a2 b2]) (nv [rr n3 a3 b3,rr n4 a4 b4]) m c (bsR (dD L x3 x4) j b) 0)
  | 0,b,hj,hb=>.stop (pl_c (x1:=0) (x2:=0) (x3:=0) (x4:=0))
  | j+1,b,hj,hb=>by
    have hu:=List.getElem?_eq_getElem (l:=L) (i:=j) (by omega)
    have hw:=List.getElem?_eq_getElem (l:=L) (i:=b) (by omega)
    have e1:=dD_at (x3:=x3) (x4:=x4) hu
    have e2:=dD_at (x3:=x3) (x4:=x4) hw
    have g0:decide (0≤((j:Nat):Int))=true:=decide_eq_true (by omega)
    by_cases h:dD L x3 x4 b≤dD L x3 x4 j
    · rw [show bsR (dD L x3 x4) (j+1) b=bsR (dD L x3 x4) j j from by show bsR _ j (if _ then _ else _)=_; rw [if_pos h]]
      refine .step ?_ (pl_loop j j (by omega) (by omega))
      exact pl_a h1' h2' h3' h4' hu hw (ok _ (List.mem_of_getElem? hu)) (ok _ (List.mem_of_getElem? hw)) (by omega) hb (by omega) g0 (decide_eq_true (cmpR_ge.2 (by rw [← e1,← e2]; exact h)))
    rw [show bsR (dD L x3 x4) (j+1) b=bsR (dD L x3 x4) j b from by show bsR _ j (if _ then _ else _)=_; rw [if_neg h]]
    refine .step ?_ (pl_loop j b (by omega) hb)
    exact pl_b h1' h2' h3' h4' hu hw (ok _ (List.mem_of_getElem? hu)) (ok _ (List.mem_of_getElem? hw)) (by omega) hb (by omega) g0 (decide_eq_false (fun g=>h (by rw [e1,e2]; exact cmpR_ge.1 g)))
theorem pl_next {b:Nat} (hb:b < m+1) (hlt:∀ k,k < b→dD L x3 x4 k < dD L x3 x4 b):∀ (d i:Nat),i+d=b→Rounds Tryd.prog (loopOf Tryd.f5 2) 2 (plB L (nv [rr n1 a1 b1,rr n2 a2 b2]) (nv [rr n3 a3 b3,rr n4 a4 b4]) m c b i) .normal (plB L (nv [rr n1 a1 b1,rr n2 a2 b2]) (nv [rr n3 a3 b3,rr n4 a4 b4]) m c b b)
  | 0,i,hi=>by
    obtain rfl:i=b:=by omega
    exact .stop (pl_e (x1:=0) (x2:=0) (x3:=0) (x4:=0) (decide_eq_false (by omega)))
  | d+1,i,hi=>by
    have hu:=List.getElem?_eq_getElem (l:=L) (i:=i) (by omega)
    have hw:=List.getElem?_eq_getElem (l:=L) (i:=b) (by omega)
    have e1:=dD_at (x3:=x3) (x4:=x4) hu
    have e2:=dD_at (x3:=x3) (x4:=x4) hw
    have h:=hlt i (by omega)
    rw [e1,e2] at h
    refine .step ?_ (pl_next hb hlt d (i+1) (by omega))
    exact pl_d h1' h2' h3' h4' hu hw (ok _ (List.mem_of_getElem? hu)) (ok _ (List.mem_of_getElem? hw)) (by omega) hb (by omega) (decide_eq_true (by omega)) (decide_eq_false (fun g=>Rat.ne_of_lt h (cmpR_eq.1 g)))
end
theorem plBad {L:List VR} {m c:Nat} {n1:Bool} {a1 b1:ByteArray} {n2:Bool} {a2 b2:ByteArray} {x1 x2:Rat} {n3:Bool} {a3 b3:ByteArray} {n4:Bool} {a4 b4:ByteArray} {x3 x4:Rat}  (hL:L.length=m+1) (ok:∀ v∈L,v.Ok) (hc:m+1≤c) (h1':IsR n1 a1 b1 x1 1048576) (h2':IsR n2 a2 b2 x2 1048576) (h3':IsR n3 a3 b3 x3 1048576) (h4':IsR n4 a4 b4 x4 1048576) (hq:MustBad L) (hm:m < 1048576) (h0:(!decide (ringN L (8:Int)=ringN L (8:Int)))=false) (h1:(!decide (ringN L (64:Int)=ringN L (64:Int)))=false) (h2:(!decide (ringN L (64:Int)=(0:Int)))=true):FSpec Tryd.prog 5 [.sl 0 0 (m+1) c,.c (ag [rr n1 a1 b1,rr n2 a2 b2]),.c (ag [rr n3 a3 b3,rr n4 a4 b4])] [some ⟨false,vcs L⟩] (.c (.bool true)) [some ⟨false,vcs L⟩]:=by
  exact fspec_ok Tryd.func5 (sc:=[(1,0,.fix (.bool true)),(3,1,.readf (.int .i64 (ringN L (64:Int)))),(4,1,.readf (.int .i64 (ringN L (8:Int)))),(4,3,.readf (.int .i64 (ringN L (8:Int)))),(4,4,.is (.c (.bool false))),(4,7,.readf (.int .i64 (ringN L (64:Int)))),(4,9,.is (.c (.bool false))),(4,13,.readf (ag [rc (fMn (List.map VR.x L)),rc (fMn (List.map VR.y L)),rc (fMx (List.map VR.x L)),rc (fMx (List.map VR.y L))])),(4,15,.readf (ag [rc (fMn (List.map VR.x L)),rc (fMn (List.map VR.y L)),rc (fMx (List.map VR.x L)),rc (fMx (List.map VR.y L))])),(4,16,.eqs),(6,1,.is (.c (.bool true))),(7,2,.readf (.bool false)),(7,6,.readf (Rv (0:Rat))),(7,7,.fix (Rv (0:Rat))),(7,13,.readf (.int .i64 (-1:Int)))]) (sb:=[]) (keep:=[]) (by kernel_rfl) (hP (show Flat [some ⟨false,vcs L⟩] from flk vcs_f trivial) (hC polyBegun_k (hP (show Flat [some { own:=false,cells:=vcs L }] from (flk vcs_f trivial)) (hF (ring_k (c:=c) (t:=(64:Int)) hL ok (by decide +kernel)) (hP (show Flat [some { own:=false,cells:=vcs L }] from (flk vcs_f trivial)) (hF (pcheck_k (c:=c) hL ok) (hP (show Flat [some { own:=false,cells:=vcs L }] from (flk vcs_f trivial)) (hF (ring_k (c:=c) (t:=(8:Int)) hL ok (by decide +kernel)) (hP (isB h0) (hP (show Flat [some { own:=false,cells:=vcs L }] from (flk vcs_f trivial)) (hF (convex_k (c:=c) hL ok) (hP (isB h1) (hP (show Flat [some { own:=false,cells:=vcs L }] from (flk vcs_f trivial)) (hF (box_k hL ok hm hc) (hP (show Flat [some { own:=false,cells:=vcs L }] from (flk vcs_f trivial)) (hF (bound_k (c:=c) hL ok hm) (hP (Eq.refl (ag [rc (fMn (List.map VR.x L)),rc (fMn (List.map VR.y L)),rc (fMx (List.map VR.x L)),rc (fMx (List.map VR.y L))])) (hP (isB h2) (hP (show Flat [some { own:=false,cells:=vcs L }] from (flk vcs_f trivial)) (hF (hasBad_k (c:=c) hL ok h1' h2' hq) (hP (show Flat [some { own:=false,cells:=vcs L }] from (flk vcs_f trivial)) (hF (areaBad_k (c:=c) hL ok hq) (hC ri0_k (hP (show Flat [some { own:=false,cells:=vcs L }] from (flk vcs_f trivial)) (hF (supBad_k (c:=c) hL ok h3' h4' hq) hN)))))))))))))))))))))))))
theorem plOk {L:List VR} {m c b:Nat} {n1:Bool} {a1 b1:ByteArray} {n2:Bool} {a2 b2:ByteArray} {x1 x2:Rat} {n3:Bool} {a3 b3:ByteArray} {n4:Bool} {a4 b4:ByteArray} {x3 x4:Rat}  (hL:L.length=m+1) (ok:∀ v∈L,v.Ok) (hc:m+1≤c) (h1':IsR n1 a1 b1 x1 1048576) (h2':IsR n2 a2 b2 x2 1048576) (h3':IsR n3 a3 b3 x3 1048576) (h4':IsR n4 a4 b4 x4 1048576) (hq:MustPoly L) (hm:m < 100000) (hb1:TSpec Tryd.prog (.block 0 (.loop (loopOf Tryd.f5 0))) (plA L (nv [rr n1 a1 b1,rr n2 a2 b2]) (nv [rr n3 a3 b3,rr n4 a4 b4]) m c 0 (m+1)) .normal (plA L (nv [rr n1 a1 b1,rr n2 a2 b2]) (nv [rr n3 a3 b3,rr n4 a4 b4]) m c b 0)) (hb2:TSpec Tryd.prog (.block 2 (.loop (loopOf Tryd.f5 2))) (plB L (nv [rr n1 a1 b1,rr n2 a2 b2]) (nv [rr n3 a3 b3,rr n4 a4 b4]) m c b 0) .normal (plB L (nv [rr n1 a1 b1,rr n2 a2 b2]) (nv [rr n3 a3 b3,rr n4 a4 b4]) m c b b)) (h0:(!decide (ringN L (8:Int)=ringN L (8:Int)))=false) (h1:(!decide (ringN L (64:Int)=ringN L (64:Int)))=false) (h2:(!decide (ringN L (64:Int)=(0:Int)))=false) (h3:(insB L x1 x2==fanB L x1 x2)=true) (h4:(↑(1:Int):Rat)/(↑(2:Int):Rat)*arP (pX L) (pY L) (m+(1:Nat)) (m+(1:Nat))=(arR (pX L) (pY L) (m - (1:Nat))/(2:Rat):Rat)) (h5:decide ((↑(bsP (dD L x3 x4) (m+(1:Nat))):Int)=(↑b:Int))=true):FSpec Tryd.prog 5 [.sl 0 0 (m+1) c,.c (ag [rr n1 a1 b1,rr n2 a2 b2]),.c (ag [rr n3 a3 b3,rr n4 a4 b4])] [some ⟨false,vcs L⟩] (.c (.bool true)) [some ⟨false,vcs L⟩]:=by
  exact fspec_ok Tryd.func5 (sc:=[(1,0,.fix (.bool true)),(3,1,.readf (.int .i64 (ringN L (64:Int)))),(4,1,.readf (.int .i64 (ringN L (8:Int)))),(4,3,.readf (.int .i64 (ringN L (8:Int)))),(4,4,.is (.c (.bool false))),(4,7,.readf (.int .i64 (ringN L (64:Int)))),(4,9,.is (.c (.bool false))),(4,13,.readf (ag [rc (fMn (List.map VR.x L)),rc (fMn (List.map VR.y L)),rc (fMx (List.map VR.x L)),rc (fMx (List.map VR.y L))])),(4,15,.readf (ag [rc (fMn (List.map VR.x L)),rc (fMn (List.map VR.y L)),rc (fMx (List.map VR.x L)),rc (fMx (List.map VR.y L))])),(4,16,.eqs),(6,1,.is (.c (.bool false))),(9,2,.is (.c (.int .i64 ((↑(m+(1:Nat)):Int) - (1:Int))))),(0,99999,.mask (mask 114 0 [0,4,5,8,9])),(2,99999,.mask (mask 114 0 [0,4,5,8,73,74])),(20,2,.readf (.bool (insB L x1 x2))),(20,5,.readf (.bool (fanB L x1 x2))),(20,6,.is (.c (.bool true))),(20,9,.readf (Rv ((↑(1:Int):Rat)/(↑(2:Int):Rat)*arP (pX L) (pY L) (m+(1:Nat)) (m+(1:Nat))))),(20,11,.readf (Rv (arR (pX L) (pY L) (m - (1:Nat))/(2:Rat)))),(20,12,.eqs),(20,17,.readf (.int .i64 ((↑(bsP (dD L x3 x4) (m+(1:Nat))):Int)))),(20,19,.is (.c (.bool true)))]) (sb:=[(0,.normal,plA L (nv [rr n1 a1 b1,rr n2 a2 b2]) (nv [rr n3 a3 b3,rr n4 a4 b4]) m c b 0),(2,.normal,plB L (nv [rr n1 a1 b1,rr n2 a2 b2]) (nv [rr n3 a3 b3,rr n4 a4 b4]) m c b b)]) (keep:=[]) (by kernel_rfl) (hP (show Flat [some ⟨false,vcs L⟩] from flk vcs_f trivial) (hC polyBegun_k (hP (show Flat [some { own:=false,cells:=vcs L }] from (flk vcs_f trivial)) (hF (ring_k (c:=c) (t:=(64:Int)) hL ok (by decide +kernel)) (hP (show Flat [some { own:=false,cells:=vcs L }] from (flk vcs_f trivial)) (hF (pcheck_k (c:=c) hL ok) (hP (show Flat [some { own:=false,cells:=vcs L }] from (flk vcs_f trivial)) (hF (ring_k (c:=c) (t:=(8:Int)) hL ok (by decide +kernel)) (hP (isB h0) (hP (show Flat [some { own:=false,cells:=vcs L }] from (flk vcs_f trivial)) (hF (convex_k (c:=c) hL ok) (hP (isB h1) (hP (show Flat [some { own:=false,cells:=vcs L }] from (flk vcs_f trivial)) (hF (box_k hL ok (by omega) hc) (hP (show Flat [some { own:=false,cells:=vcs L }] from (flk vcs_f trivial)) (hF (bound_k (c:=c) hL ok (by omega)) (hP (Eq.refl (ag [rc (fMn (List.map VR.x L)),rc (fMn (List.map VR.y L)),rc (fMx (List.map VR.x L)),rc (fMx (List.map VR.y L))])) (hP (isB h2) (hP (show V.c (Value.int .i64 (IntKind.wrap .i64 ((↑(m+(1:Nat)):Int) - (1:Int)))) = .c (.int .i64 ((↑(m+(1:Nat)):Int) - (1:Int))) from (pI (by rw [IntKind.wrap_i64]; omega))) (hP (show Flat [some { own:=false,cells:=vcs L },some ⟨Bool.true,nv [[.bool n1],[.string a1],[.string b1],[.bool n2],[.string a2],[.string b2]]⟩,some ⟨Bool.true,nv [[.bool n3],[.string a3],[.string b3],[.bool n4],[.string a4],[.string b4]]⟩] from (flk vcs_f (flk rfl (flk rfl trivial)))) (hP (hb1) (hP (show Flat [some { own:=false,cells:=vcs L },some ⟨Bool.true,nv [[.bool n1],[.string a1],[.string b1],[.bool n2],[.string a2],[.string b2]]⟩,some ⟨Bool.true,nv [[.bool n3],[.string a3],[.string b3],[.bool n4],[.string a4],[.string b4]]⟩] from (flk vcs_f (flk rfl (flk rfl trivial)))) (hP (hb2) (hP (show Flat [some { own:=false,cells:=vcs L }] from (flk vcs_f trivial)) (hF (hasOk_k (c:=c) hL ok h1' h2' hm hq) (hP (show Flat [some { own:=false,cells:=vcs L }] from (flk vcs_f trivial)) (hF (inner_k (c:=c) hL ok h1' h2' hm) (hP (isB h3) (hP (show Flat [some { own:=false,cells:=vcs L }] from (flk vcs_f trivial)) (hF (areaOk_k (c:=c) hL ok hq) (hP (show Flat [some { own:=false,cells:=vcs L }] from (flk vcs_f trivial)) (hF (rarea_k (c:=c) hL ok hq) (hP (agc (lc (rcc h4) (Eq.refl []))) (hP (show Flat [some { own:=false,cells:=vcs L }] from (flk vcs_f trivial)) (hF (supOk_k (c:=c) hL ok h3' h4' hq) (hP (isB h5) hN))))))))))))))))))))))))))))))))))))
theorem zring64_k {ao:Option Addr} {c:Nat}    : CSpec Tryd.prog 18 #[(.slice ao 0 c),(.int .i64 64)] (.int .i64 (3:Int)):=by
  exact fn_ok Tryd.func18 (sc:=[]) (sb:=[]) (by kernel_rfl) hN
theorem zring8_k {ao:Option Addr} {c:Nat}    : CSpec Tryd.prog 18 #[(.slice ao 0 c),(.int .i64 8)] (.int .i64 (3:Int)):=by
  exact fn_ok Tryd.func18 (sc:=[]) (sb:=[]) (by kernel_rfl) hN
theorem zck64_k {ao:Option Addr} {c:Nat}    : CSpec Tryd.prog 58 #[(.slice ao 0 c),(.int .i64 64)] (.int .i64 (3:Int)):=by
  exact fn_ok Tryd.func58 (sc:=[]) (sb:=[]) (by kernel_rfl) hN
theorem zck8_k {ao:Option Addr} {c:Nat}    : CSpec Tryd.prog 58 #[(.slice ao 0 c),(.int .i64 8)] (.int .i64 (3:Int)):=by
  exact fn_ok Tryd.func58 (sc:=[]) (sb:=[]) (by kernel_rfl) hN
theorem zconv_k {ao:Option Addr} {c:Nat}    : CSpec Tryd.prog 20 #[(.slice ao 0 c)] (.int .i64 (3:Int)):=by
  exact fn_ok Tryd.func20 (sc:=[(1,1,.fix (.int .i64 (3:Int)))]) (sb:=[]) (by kernel_rfl) (hC (zck64_k (ao:=ao) (c:=c)) hN)
theorem zchk_k {ao:Option Addr} {c:Nat}    : CSpec Tryd.prog 19 #[(.slice ao 0 c)] (.int .i64 (3:Int)):=by
  exact fn_ok Tryd.func19 (sc:=[(1,1,.fix (.int .i64 (3:Int)))]) (sb:=[]) (by kernel_rfl) (hC (zck8_k (ao:=ao) (c:=c)) hN)
theorem zbox_k {ao:Option Addr} {c:Nat}    : CSpec Tryd.prog 21 #[(.slice ao 0 c)] (ag [rc ((0:Rat)+(0:Rat)),rc ((0:Rat)+(0:Rat)),rc ((0:Rat)+(0:Rat)),rc ((0:Rat)+(0:Rat))]):=by
  have s0:=isR0_s
  exact fn_ok Tryd.func21 (sc:=[(1,2,.fix (ag [rc ((0:Rat)+(0:Rat)),rc ((0:Rat)+(0:Rat))]))]) (sb:=[]) (by kernel_rfl) (hC (vadd_k s0 (by decide +kernel) s0 (by decide +kernel) s0 (by decide +kernel) s0 (by decide +kernel)) hN)
theorem zbound_k {ao:Option Addr} {c:Nat}    : CSpec Tryd.prog 22 #[(.slice ao 0 c)] (ag [rc (0:Rat),rc (0:Rat),rc (0:Rat),rc (0:Rat)]):=by
  exact fn_ok Tryd.func22 (sc:=[(2,0,.fix (Rv (0:Rat))),(2,1,.fix (Rv (0:Rat)))]) (sb:=[]) (by kernel_rfl) (hC ri0_k (hC ri0_k hN))
theorem zhas_k {ao:Option Addr} {c:Nat} {n1:Bool} {a1 b1:ByteArray} {n2:Bool} {a2 b2:ByteArray} {x1 x2:Rat}  (h1':IsR n1 a1 b1 x1 1048576) (h2':IsR n2 a2 b2 x2 1048576)   : CSpec Tryd.prog 23 #[(.slice ao 0 c),(ag [rr n1 a1 b1,rr n2 a2 b2])] (.bool false):=by
  exact fn_ok Tryd.func23 (sc:=[(1,1,.fix (.int .i64 (3:Int)))]) (sb:=[]) (by kernel_rfl) (hC (zconv_k (ao:=ao) (c:=c)) hN)
theorem zarea_k {ao:Option Addr} {c:Nat}    : CSpec Tryd.prog 24 #[(.slice ao 0 c)] (Rv (0:Rat)):=by
  exact fn_ok Tryd.func24 (sc:=[(1,0,.fix (Rv (0:Rat))),(2,1,.fix (.int .i64 (3:Int)))]) (sb:=[]) (by kernel_rfl) (hC of0_k (hC (zconv_k (ao:=ao) (c:=c)) hN))
theorem zsup_k {ao:Option Addr} {c:Nat} {n1:Bool} {a1 b1:ByteArray} {n2:Bool} {a2 b2:ByteArray} {x1 x2:Rat}  (h1':IsR n1 a1 b1 x1 1048576) (h2':IsR n2 a2 b2 x2 1048576)   : CSpec Tryd.prog 26 #[(.slice ao 0 c),(ag [rr n1 a1 b1,rr n2 a2 b2])] (.int .i64 (-1:Int)):=by
  exact fn_ok Tryd.func26 (sc:=[(1,1,.fix (.int .i64 (3:Int)))]) (sb:=[]) (by kernel_rfl) (hC (zconv_k (ao:=ao) (c:=c)) hN)
theorem plNone {ao:Option Addr} {c:Nat} {n1:Bool} {a1 b1:ByteArray} {n2:Bool} {a2 b2:ByteArray} {x1 x2:Rat} {n3:Bool} {a3 b3:ByteArray} {n4:Bool} {a4 b4:ByteArray} {x3 x4:Rat}  (h1':IsR n1 a1 b1 x1 1048576) (h2':IsR n2 a2 b2 x2 1048576) (h3':IsR n3 a3 b3 x3 1048576) (h4':IsR n4 a4 b4 x4 1048576)   : CSpec Tryd.prog 5 #[(.slice ao 0 c),(ag [rr n1 a1 b1,rr n2 a2 b2]),(ag [rr n3 a3 b3,rr n4 a4 b4])] (.bool true):=by
  exact fn_ok Tryd.func5 (sc:=[(1,0,.fix (.bool true)),(3,1,.fix (.int .i64 (3:Int))),(4,1,.fix (.int .i64 (3:Int))),(4,3,.fix (.int .i64 (3:Int))),(4,7,.fix (.int .i64 (3:Int))),(4,13,.fix (ag [rc ((0:Rat)+(0:Rat)),rc ((0:Rat)+(0:Rat)),rc ((0:Rat)+(0:Rat)),rc ((0:Rat)+(0:Rat))])),(4,15,.fix (ag [rc (0:Rat),rc (0:Rat),rc (0:Rat),rc (0:Rat)])),(7,2,.fix (.bool false)),(7,6,.fix (Rv (0:Rat))),(7,7,.fix (Rv (0:Rat))),(7,13,.fix (.int .i64 (-1:Int)))]) (sb:=[]) (by kernel_rfl) (hC polyBegun_k (hC (zring64_k (ao:=ao) (c:=c)) (hC (zchk_k (ao:=ao) (c:=c)) (hC (zring8_k (ao:=ao) (c:=c)) (hC (zconv_k (ao:=ao) (c:=c)) (hC (zbox_k (ao:=ao) (c:=c)) (hC (zbound_k (ao:=ao) (c:=c)) (hC (zhas_k (ao:=ao) (c:=c) h1' h2') (hC (zarea_k (ao:=ao) (c:=c)) (hC ri0_k (hC (zsup_k (ao:=ao) (c:=c) h3' h4') hN)))))))))))
theorem polyChecks_w {L:List VR} {m c:Nat} {n1:Bool} {a1 b1:ByteArray} {n2:Bool} {a2 b2:ByteArray} {x1 x2:Rat} {n3:Bool} {a3 b3:ByteArray} {n4:Bool} {a4 b4:ByteArray} {x3 x4:Rat}  (hL:L.length=m+1) (ok:∀ v∈L,v.Ok) (hc:m+1≤c) (h1':IsR n1 a1 b1 x1 1048576) (h2':IsR n2 a2 b2 x2 1048576) (h3':IsR n3 a3 b3 x3 1048576) (h4':IsR n4 a4 b4 x4 1048576) (hm:m < 1048576):FSpec Tryd.prog 5 [.sl 0 0 (m+1) c,.c (ag [rr n1 a1 b1,rr n2 a2 b2]),.c (ag [rr n3 a3 b3,rr n4 a4 b4])] [some ⟨false,vcs L⟩] (.c (.bool true)) [some ⟨false,vcs L⟩]:=by
  by_cases hq:ringN L 64=0
  · have hp:MustPoly L:=hq
    obtain ⟨r1,r2,r3⟩:=ring_of hp
    obtain ⟨a1,a2,a3⟩:=bsR_spec (D:=dD L x3 x4) (n:=m+1) (m+1) 0 (Nat.le_refl _) (.inl rfl) (by omega) (fun k hk hkn=>by omega) (.inl rfl)
    have hb1:=(pl_loop (c:=c) hL ok (by omega) h1' h2' h3' h4' (m+1) 0 (Nat.le_refl _) (by omega)).spec
    have hb2:=(pl_next (c:=c) hL ok (by omega) h1' h2' h3' h4' a1 a3 (bsR (dD L x3 x4) (m+1) 0) 0 (by omega)).spec
    have hbe:=best_eq (D:=dD L x3 x4) (n:=m+1) (by omega)
    exact plOk hL ok hc h1' h2' h3' h4' hp (by omega) hb1 hb2 (by simp) (by simp) (by rw [decide_eq_true hq]; rfl) (by rw [ins_fan hp]; exact beq_self_eq_true _) (area_same hL hp) (by rw [hbe]; exact decide_eq_true rfl)
  exact plBad hL ok hc h1' h2' h3' h4' hq (by omega) (by simp) (by simp) (by rw [decide_eq_false hq]; rfl)
theorem calls_read3 {P:Program} {f:FuncId} {x y r:Value} {l:List Value} {n c b o:Nat} {W:World} (h:FSpec P f [.sl 0 0 n c,.c x,.c y] [some ⟨false,l.map V.c⟩] (.c r) [some ⟨false,l.map V.c⟩]) (hl:Laid W) (hb:b < W.heap.size)
    (hc:∀ k v,l[k]? = some v→W.cell? ⟨b,o+k,none⟩=some v):Calls P f #[.slice (some ⟨b,o,none⟩) n c,x,y] W fun e w'=>e = .returned r∧Below W.heap.size W w':=by
  have rows:∀ i ri,row? [some (⟨false,l.map V.c⟩:U.Row)] i=some ri→i=0∧ri=⟨false,l.map V.c⟩:=by
    intro i ri hi
    cases i with
    | zero=>cases hi; exact ⟨rfl,rfl⟩
    | succ i=>simp [row?] at hi
  have hm:Mem (fun _=>⟨b,o,0⟩) [some (⟨false,l.map V.c⟩:U.Row)] W:=by
    refine ⟨fun i r hi=>?_,fun i j ri rj hi hj ho=>?_,fun i r hi v hv=>?_⟩
    · obtain ⟨_,rfl⟩:=rows i r hi
      refine ⟨hb,fun k v hk=>?_,fun ho=>by cases ho⟩
      rw [List.getElem?_map,Option.map_eq_some_iff] at hk
      obtain ⟨u,hu,rfl⟩:=hk
      exact hc k u hu
    · obtain ⟨_,rfl⟩:=rows i ri hi
      cases ho
    obtain ⟨_,rfl⟩:=rows i r hi
    obtain ⟨u,_,rfl⟩:=List.mem_map.1 hv
    exact ⟨fun id hid=>(by cases hid),rfl⟩
  refine (h W (fun _=>⟨b,o,0⟩) hl (fun i ri hi ho=>by obtain ⟨_,rfl⟩:=rows i ri hi; cases ho) hm).mono fun e w' hw=>?_
  obtain ⟨β',_,_,rfl,_,hfr,_⟩:=hw
  refine ⟨rfl,hfr.os,hfr.tape,hfr.output,hfr.size,fun k hk=>hfr.block k hk ?_⟩
  rintro ⟨i,ri,hi,ho,_⟩
  obtain ⟨_,rfl⟩:=rows i ri hi
  cases ho
end Go.Proofs.YtkpeembfagcpcaaDoor.G
end
section
namespace Go.Proofs.YtkpeembfagcpcaaDoor.G
open Go.Proofs.YtkpeembfagcpcaaDoor.U Go.RowKit
theorem vr_of:∀ (C:List (List Value)),(∀ c∈C,O.Fits [.b,.s,.s,.b,.s,.s] c∧O.vsum c≤1048576) → ∃ L:List VR,C=L.map VR.c ∧ ∀ v∈L,v.Ok
  | [],_=>⟨[],rfl,fun v hv=>by cases hv⟩
  | c::C,h=>by
    obtain ⟨L,rfl,ok⟩:=vr_of C fun x hx=>h x (List.mem_cons_of_mem _ hx)
    obtain ⟨hf,hs⟩:=h c List.mem_cons_self
    obtain ⟨n1,c1,rfl,f1⟩:=O.fits_b hf
    obtain ⟨a1,c2,rfl,f2⟩:=O.fits_s f1
    obtain ⟨b1,c3,rfl,f3⟩:=O.fits_s f2
    obtain ⟨n2,c4,rfl,f4⟩:=O.fits_b f3
    obtain ⟨a2,c5,rfl,f5⟩:=O.fits_s f4
    obtain ⟨b2,c6,rfl,f6⟩:=O.fits_s f5
    obtain rfl:=O.fits_nil f6
    simp only [O.vsum,O.vlen] at hs
    refine ⟨⟨n1,a1,b1,n2,a2,b2⟩::L,rfl,fun v hv=>?_⟩
    rcases List.mem_cons.1 hv with rfl | hv
    · exact ⟨by simp only; omega,by simp only; omega,by simp only; omega,by simp only; omega⟩
    exact ok v hv
theorem polyChecks_law (ao:Option Addr) (len cap:Nat) (n1:Bool) (a1 b1:ByteArray) (n2:Bool) (a2 b2:ByteArray) (n3:Bool) (a3 b3:ByteArray) (n4:Bool) (a4 b4:ByteArray) (s1:a1.size≤1048576) (t1:b1.size≤1048576) (s2:a2.size≤1048576) (t2:b2.size≤1048576) (s3:a3.size≤1048576) (t3:b3.size≤1048576) (s4:a4.size≤1048576) (t4:b4.size≤1048576) (W:World) (hl:Laid W)
    (alt:len=0 ∨ ∃ (b o:Nat) (C:List (List Value)),ao=some ⟨b,o,none⟩∧b < W.heap.size∧C.length=len∧len≤1048576∧(∀ c∈C,O.Fits [.b,.s,.s,.b,.s,.s] c∧O.vsum c≤1048576) ∧ ∀ k u,C.flatten[k]? = some u→W.cell? ⟨b,o+k,none⟩=some u) (le:len≤cap) :
    Calls Tryd.prog 5 #[.slice ao len cap,ag [rr n1 a1 b1,rr n2 a2 b2],ag [rr n3 a3 b3,rr n4 a4 b4]] W fun e w'=>e = .returned (.bool true)∧Below W.heap.size W w':=by
  have i1:=IsR.raw n1 a1 b1 s1 t1 (by decide)
  have i2:=IsR.raw n2 a2 b2 s2 t2 (by decide)
  have i3:=IsR.raw n3 a3 b3 s3 t3 (by decide)
  have i4:=IsR.raw n4 a4 b4 s4 t4 (by decide)
  rcases alt with rfl | ⟨b,o,C,rfl,hb,rfl,hlen,hC,hc⟩
  · exact plNone i1 i2 i3 i4 W hl
  obtain ⟨L,rfl,ok⟩:=vr_of C hC
  rw [List.length_map] at hlen le ⊢
  cases L with
  | nil=>exact plNone i1 i2 i3 i4 W hl
  | cons v L=>exact calls_read3 (l:=((v::L).map VR.c).flatten) (polyChecks_w (L:=v::L) (m:=L.length) (c:=cap) rfl ok le i1 i2 i3 i4 (by simp only [List.length_cons] at hlen; omega)) hl hb hc
end Go.Proofs.YtkpeembfagcpcaaDoor.G
end
