import Derived.Test.YtjefpjajkbldpaaDoorYKA
import Derived.Test.YtjefpjajkbldpaaDoorYLA
import Derived.Test.YtjefpjajkbldpaaDoorYAB
import Derived.Test.YtjefpjajkbldpaaDoorYU6
import Derived.KernelRfl
import Derived.Test.YtjefpjajkbldpaaDoorYOQ
set_option maxRecDepth 100000
set_option linter.unusedVariables false
section
namespace Go.Proofs.YtjefpjajkbldpaaDoor.G
def sd (X Y:Nat→Rat) (i j k:Nat):Rat:=(X j - X i)*(Y k - Y i) - (Y j - Y i)*(X k - X i)
def sp (X Y:Nat→Rat) (i j:Nat) (x y:Rat):Rat:=(X j - X i)*(y - Y i) - (Y j - Y i)*(x - X i)
def cx (X Y:Nat→Rat) (i j:Nat):Rat:=X i*Y j - Y i*X j
theorem plk (e1 e2 a1 a2 b1 b2 c1 c2:Rat):(a1*c2 - a2*c1)*(e1*b2 - e2*b1)=(e1*a2 - e2*a1)*(b1*c2 - b2*c1)+(e1*c2 - e2*c1)*(a1*b2 - a2*b1):=by grind
theorem pos_of_mul {x y:Rat} (h:0 < x*y) (hy:0 < y):0 < x:=by
 rcases Rat.le_total (a:=x) (b:=0) with hx | hx
 ·have:=Rat.mul_nonneg (a:=-x) (b:=y) (by grind) (by grind)
  exact absurd h (by grind)
 by_cases h0:x=0
 ·subst h0; grind
 grind
theorem nn_of_mul {x y:Rat} (h:0≤x*y) (hy:0 < y):0≤x:=by
 rcases Rat.le_total (a:=x) (b:=0) with hx | hx
 ·by_cases h0:x=0
  ·subst h0; grind
  have:=Rat.mul_pos (a:=-x) (b:=y) (by grind) hy
  exact absurd h (by grind)
 exact hx
section
variable {X Y:Nat→Rat} {n:Nat}
theorem sd_rot (i j k:Nat):sd X Y i j k=sd X Y k i j:=by unfold sd; grind
theorem sd_deg (i j:Nat):sd X Y i j j=0:=by unfold sd; grind
theorem sd_deg' (i j:Nat):sd X Y i j i=0:=by unfold sd; grind
def RingOk (X Y:Nat→Rat) (n:Nat):Prop:=∀ i k j,i < n→k < i→j < k→0 < sd X Y j k i
def PrgOk (X Y:Nat→Rat) (n:Nat):Prop:=∀ i k,i < n→2≤k→k < n→0 < sd X Y i ((i+1)%n) ((i+k)%n)
theorem prg_of_ring (h3:3≤n) (h:RingOk X Y n):PrgOk X Y n:=by
 intro i k hi hk hkn
 by_cases h1:i+1 < n
 ·rw [Nat.mod_eq_of_lt h1]
  by_cases h2:i+k < n
  ·rw [Nat.mod_eq_of_lt h2]
   exact h (i+k) (i+1) i h2 (by omega) (by omega)
  have e:(i+k)%n=i+k - n:=by rw [Nat.mod_eq_sub_mod (by omega),Nat.mod_eq_of_lt (by omega)]
  rw [e,sd_rot]
  exact h (i+1) i (i+k - n) h1 (by omega) (by omega)
 obtain rfl:n=i+1:=by omega
 have e:(i+k)%(i+1)=k - 1:=by rw [Nat.mod_eq_sub_mod (by omega),Nat.mod_eq_of_lt (by omega)]; omega
 rw [Nat.mod_self,e,sd_rot,sd_rot]
 exact h i (k - 1) 0 (by omega) (by omega) (by omega)
theorem edge_of_prg (h:PrgOk X Y n) {i m:Nat} (hi:i+1 < n) (hm:m < n) (h1:m≠i) (h2:m≠i+1):0 < sd X Y i (i+1) m:=by
 by_cases hlt:i < m
 ·have:=h i (m - i) (by omega) (by omega) (by omega)
  rwa [Nat.mod_eq_of_lt hi,show i+(m - i)=m by omega,Nat.mod_eq_of_lt hm] at this
 have:=h i (m+n - i) (by omega) (by omega) (by omega)
 rwa [Nat.mod_eq_of_lt hi,show i+(m+n - i)=m+n by omega,Nat.add_mod_right,Nat.mod_eq_of_lt hm] at this
theorem ring_of_edge (h:∀ i m,i+1 < n→m < n→m≠i→m≠i+1→0 < sd X Y i (i+1) m):∀ (d i j k:Nat),i < j→j < k→k < n→k=j+d+1→0 < sd X Y i j k
 | 0,i,j,k,hij,hjk,hk,hd=>by
   subst hd
   rw [sd_rot,sd_rot]
   exact h j i hk (by omega) (by omega) (by omega)
 | d+1,i,j,k,hij,hjk,hk,hd=>by
   have ih:=ring_of_edge h d i (j+1) k (by omega) (by omega) hk (by omega)
   have e1:0 < sd X Y i (i+1) (j+1):=h i (j+1) (by omega) (by omega) (by omega) (by omega)
   have e2:0≤sd X Y i (i+1) j:=by
    by_cases hj:j=i+1
    ·subst hj
     rw [sd_deg]
     exact Rat.le_refl
    exact Rat.le_of_lt (h i j (by omega) (by omega) (by omega) hj)
   have e3:0 < sd X Y i (i+1) k:=h i k (by omega) hk (by omega) (by omega)
   have e4:0 < sd X Y i j (j+1):=by
    rw [sd_rot,sd_rot]
    exact h j i (by omega) (by omega) (by omega) (by omega)
   have hp:sd X Y i j k*sd X Y i (i+1) (j+1)=sd X Y i (i+1) j*sd X Y i (j+1) k+sd X Y i (i+1) k*sd X Y i j (j+1):=plk _ _ _ _ _ _ _ _
   have h5:=Rat.mul_nonneg e2 (Rat.le_of_lt ih)
   have h6:=Rat.mul_pos e3 e4
   exact pos_of_mul (by rw [hp]; grind) e1
theorem ring_iff (h3:3≤n):PrgOk X Y n↔RingOk X Y n :=
 ⟨fun h i k j hi hk hj=>ring_of_edge (fun i m hi hm h1 h2=>edge_of_prg h hi hm h1 h2) (i - k - 1) j k i hj hk hi (by omega),prg_of_ring h3⟩
def EdgeIn (X Y:Nat→Rat) (n:Nat) (x y:Rat):Prop:=∀ i,i < n→0≤sp X Y i ((i+1)%n) x y
def FanIn (X Y:Nat→Rat) (n:Nat) (x y:Rat):Prop:=∃ i,2≤i∧i < n∧0≤sp X Y 0 (i - 1) x y∧0≤sp X Y (i - 1) i x y∧0≤sp X Y i 0 x y
theorem bary (a1 a2 b1 b2 c1 c2 m1 m2 k1 k2 x y:Rat):((b1 - a1)*(c2 - a2) - (b2 - a2)*(c1 - a1))*((k1 - m1)*(y - m2) - (k2 - m2)*(x - m1)) =
 ((c1 - b1)*(y - b2) - (c2 - b2)*(x - b1))*((k1 - m1)*(a2 - m2) - (k2 - m2)*(a1 - m1)) +
 ((a1 - c1)*(y - c2) - (a2 - c2)*(x - c1))*((k1 - m1)*(b2 - m2) - (k2 - m2)*(b1 - m1)) +
 ((b1 - a1)*(y - a2) - (b2 - a2)*(x - a1))*((k1 - m1)*(c2 - m2) - (k2 - m2)*(c1 - m1)):=by grind
theorem edge_nn (h3:3≤n) (h:RingOk X Y n) {i m:Nat} (hi:i < n) (hm:m < n):0≤sd X Y i ((i+1)%n) m:=by
 have hp:=prg_of_ring h3 h
 by_cases h1:m=i
 ·subst h1; rw [sd_deg']; exact Rat.le_refl
 by_cases h2:m=(i+1)%n
 ·rw [← h2,sd_deg]; exact Rat.le_refl
 by_cases h4:i+1 < n
 ·rw [Nat.mod_eq_of_lt h4] at *
  exact Rat.le_of_lt (edge_of_prg hp h4 hm h1 h2)
 obtain rfl:n=i+1:=by omega
 rw [Nat.mod_self] at *
 rw [sd_rot,sd_rot]
 exact Rat.le_of_lt (h i m 0 (by omega) (by omega) (by omega))
theorem edge_of_fan (h3:3≤n) (h:RingOk X Y n) {x y:Rat} (hf:FanIn X Y n x y):EdgeIn X Y n x y:=by
 obtain ⟨i,h2,hi,f1,f2,f3⟩:=hf
 intro m hm
 have t:0 < sd X Y 0 (i - 1) i:=h i (i - 1) 0 hi (by omega) (by omega)
 have g1:=edge_nn h3 h hm (show 0 < n by omega)
 have g2:=edge_nn h3 h hm (show i - 1 < n by omega)
 have g3:=edge_nn h3 h hm hi
 have hb:sd X Y 0 (i - 1) i*sp X Y m ((m+1)%n) x y=sp X Y (i - 1) i x y*sd X Y m ((m+1)%n) 0+sp X Y i 0 x y*sd X Y m ((m+1)%n) (i - 1)+sp X Y 0 (i - 1) x y*sd X Y m ((m+1)%n) i:=bary _ _ _ _ _ _ _ _ _ _ _ _
 have a1:=Rat.mul_nonneg f2 g1
 have a2:=Rat.mul_nonneg f3 g2
 have a3:=Rat.mul_nonneg f1 g3
 refine nn_of_mul (y:=sd X Y 0 (i - 1) i) ?_ t
 rw [Rat.mul_comm,hb]
 grind
theorem sp_rev (i j:Nat) (x y:Rat):sp X Y i j x y = - sp X Y j i x y:=by unfold sp; grind
theorem fan_first {x y:Rat} (h1:0≤sp X Y 0 1 x y) (hE:∀ i,i+1 < n→0≤sp X Y i (i+1) x y):∀ (d i:Nat),2≤i→i+d+1=n→0≤sp X Y 0 (i - 1) x y→0≤sp X Y (n - 1) 0 x y→FanIn X Y n x y
 | 0,i,h2,hd,hs,hl=>⟨i,h2,by omega,hs,by have:=hE (i - 1) (by omega); rwa [show i - 1+1=i by omega] at this,by rwa [show n - 1=i by omega] at hl⟩
 | d+1,i,h2,hd,hs,hl=>by
   by_cases h:0≤sp X Y i 0 x y
   ·exact ⟨i,h2,by omega,hs,by have:=hE (i - 1) (by omega); rwa [show i - 1+1=i by omega] at this,h⟩
   refine fan_first h1 hE d (i+1) (by omega) (by omega) ?_ hl
   rw [show i+1 - 1=i by omega,sp_rev]
   grind
theorem inner_iff (h3:3≤n) (h:RingOk X Y n) {x y:Rat}:EdgeIn X Y n x y↔FanIn X Y n x y:=by
 refine ⟨fun hE=>?_,edge_of_fan h3 h⟩
 have e1:∀ i,i+1 < n→0≤sp X Y i (i+1) x y:=fun i hi=>by
  have:=hE i (by omega)
  rwa [Nat.mod_eq_of_lt hi] at this
 have e2:0≤sp X Y (n - 1) 0 x y:=by
  have:=hE (n - 1) (by omega)
  rwa [show n - 1+1=n by omega,Nat.mod_self] at this
 have h1:=e1 0 (by omega)
 exact fan_first h1 e1 (n - 3) 2 (by omega) (by omega) h1 e2
end
end Go.Proofs.YtjefpjajkbldpaaDoor.G
end
section
namespace Go.Proofs.YtjefpjajkbldpaaDoor.G
open Go.Proofs.YtjefpjajkbldpaaDoor.U Go.RowKit
def vcs (L:List VR):List V:=nv (L.map VR.c)
theorem vcs_f {L:List VR}:(vcs L).all V.isC=true:=flnv
theorem vcs_ld {L:List VR} {i:Nat} {v:VR} (h:L[i]? = some v):((vcs L).drop (0+Int.toNat (i:Int)*6)).take 6=v.c.map V.c∧v.c.toArray.size=6:=by
 rw [Int.toNat_natCast,Nat.zero_add]
 refine ⟨nv_at (fun e he=>?_) (by rw [List.getElem?_map,h]; rfl),rfl⟩
 obtain ⟨v,_,rfl⟩:=List.mem_map.1 he
 rfl
theorem vcs_l0 {L:List VR} {v:VR} (h:L[0]? = some v):((vcs L).drop 0).take 6=v.c.map V.c∧v.c.toArray.size=6:=vcs_ld (i:=0) h
theorem vr1_s {v:VR} (h:v.Ok):IsR v.n1 v.a1 v.b1 v.x 1048576:=h.r1
theorem vr2_s {v:VR} (h:v.Ok):IsR v.n2 v.a2 v.b2 v.y 1048576:=h.r2
abbrev vv (v:VR):Value:=ag [[.bool v.n1],[.string v.a1],[.string v.b1],[.bool v.n2],[.string v.a2],[.string v.b2]]
abbrev vw (v:VR):List V:=nv [[.bool v.n1],[.string v.a1],[.string v.b1],[.bool v.n2],[.string v.a2],[.string v.b2]]
noncomputable def pX (L:List VR) (i:Nat):Rat:=((L[i]?).map VR.x).getD 0
noncomputable def pY (L:List VR) (i:Nat):Rat:=((L[i]?).map VR.y).getD 0
theorem pX_at {L:List VR} {i:Nat} {v:VR} (h:L[i]? = some v):pX L i=v.x:=by unfold pX; rw [h]; rfl
theorem pY_at {L:List VR} {i:Nat} {v:VR} (h:L[i]? = some v):pY L i=v.y:=by unfold pY; rw [h]; rfl
theorem incn {i n:Nat} (h:i < n) (hn:n < 4611686018427387904):V.c (.int .i64 (IntKind.wrap .i64 ((i:Int)+1))) = .c (.int .i64 ((i+1:Nat):Int)):=by
 congr 2
 rw [IntKind.wrap_i64]
 push_cast
 omega
theorem addn {i k:Nat} (h:i+k < 4611686018427387904):V.c (.int .i64 (IntKind.wrap .i64 ((i:Int)+(k:Int)))) = .c (.int .i64 ((i+k:Nat):Int)):=by
 congr 2
 rw [IntKind.wrap_i64]
 push_cast
 omega
theorem sgn_sd {L:List VR} {i j k:Nat} {u v w:VR} (hu:L[i]? = some u) (hv:L[j]? = some v) (hw:L[k]? = some w):sd (pX L) (pY L) i j k=(v.x - u.x)*(w.y - u.y) - (v.y - u.y)*(w.x - u.x):=by
 unfold sd
 rw [pX_at hu,pX_at hv,pX_at hw,pY_at hu,pY_at hv,pY_at hw]
theorem sgn_le {x:Rat}:decide (Int.sign (Rat.num x)≤0) = !decide (0 < x):=by
 have:=sign_gt (x:=x)
 by_cases h:0 < x
 ·rw [decide_eq_true h,decide_eq_false (by have:=this.2 h; omega)]; rfl
 rw [decide_eq_false h,decide_eq_true (by have:=mt this.1 h; omega)]; rfl
theorem sgn_lt {x:Rat}:decide (Int.sign (Rat.num x) < 0)=decide (x < 0):=decide_eq_decide.2 sign_lt
def ckI (L:List VR) (u:VR) (m c i k:Nat):St:=⟨slots 49 0 [(0,.sl 0 0 (m+1) c),(5,.c (.int .i64 (((m+1:Nat):Int)))),(6,.c (.int .i64 (((i:Nat):Int)))),(7,.p 1 0),(8,.c (.int .i64 (((k:Nat):Int)))),(18,.sl 0 0 (m+1) c),(19,.c (.int .i64 (((m+1:Nat):Int)))),(20,.c (.int .i64 (((i:Nat):Int))))],[some ⟨false,vcs L⟩,some ⟨true,vw u⟩]⟩
def ckO (L:List VR) (m c i:Nat):St:=⟨slots 49 0 [(0,.sl 0 0 (m+1) c),(5,.c (.int .i64 (((m+1:Nat):Int)))),(18,.sl 0 0 (m+1) c),(19,.c (.int .i64 (((m+1:Nat):Int)))),(20,.c (.int .i64 (((i:Nat):Int))))],[some ⟨false,vcs L⟩]⟩
def ckB2 (L:List VR) (u:VR):St:=⟨slots 49 0 [(4,.c (.int .i64 3))],[some ⟨false,vcs L⟩,some ⟨true,vw u⟩]⟩
def ckB (L:List VR):St:=⟨slots 49 0 [(4,.c (.int .i64 3))],[some ⟨false,vcs L⟩]⟩
theorem ck_a {L:List VR} {u v w:VR} {m c i k:Nat} (hv:L[(i+1)%(m+1)]? = some v) (hw:L[(i+k)%(m+1)]? = some w) (ou:u.Ok) (ov:v.Ok) (ow:w.Ok) (hi:i < m+1) (hk:k < m+1) (hm:m < 1000000) (e1:(i+1)%(m+1) < m+1) (e2:(i+k)%(m+1) < m+1) (h0:decide ((↑k:Int) < (↑(m+(1:Nat)):Int))=true) (h7:decide (Int.sign (Rat.num ((VR.x v - VR.x u)*(VR.y w - VR.y u) - (VR.y v - VR.y u)*(VR.x w - VR.x u)))≤(0:Int))=false):TSpec Tryd.prog (loopOf Tryd.f60 3) (ckI L u m c i k) (.normal) (ckI L u m c i (k+1)):=by
 have s1:=(vr1_s ou)
 have s2:=(vr2_s ou)
 have s3:=(vr1_s ov)
 have s4:=(vr2_s ov)
 have s5:=(vr1_s ow)
 have s6:=(vr2_s ow)
 exact tspec_dim (mask 49 0 [0,5,6,7,8,18,19,20]) 2 (sc:=[(10,2,.is (.c (.bool true))),(12,3,.is (.c (.int .i64 ((↑(i+(1:Nat)):Int))))),(12,5,.is (.c (.int .i64 ((↑((i+(1:Nat))%(m+(1:Nat))):Int))))),(12,7,.fix (ag [[.bool (VR.n1 v)],[.string (VR.a1 v)],[.string (VR.b1 v)],[.bool (VR.n2 v)],[.string (VR.a2 v)],[.string (VR.b2 v)]])),(12,11,.is (.c (.int .i64 ((↑(i+k):Int))))),(12,13,.is (.c (.int .i64 ((↑((i+k)%(m+(1:Nat))):Int))))),(12,15,.fix (ag [[.bool (VR.n1 w)],[.string (VR.a1 w)],[.string (VR.b1 w)],[.bool (VR.n2 w)],[.string (VR.a2 w)],[.string (VR.b2 w)]])),(12,16,.fix (.int .i64 (Int.sign (Rat.num ((VR.x v - VR.x u)*(VR.y w - VR.y u) - (VR.y v - VR.y u)*(VR.x w - VR.x u)))))),(12,17,.is (.c (.bool false))),(11,1,.is (.c (.int .i64 ((↑(k+(1:Nat)):Int)))))]) (sb:=[]) (by kernel_rfl) (hP (isB h0) (hP (incn (i:=i) hi (by omega)) (hP (show V.c (Value.int .i64 (Int.tmod (↑(i+(1:Nat)):Int) (↑(m+(1:Nat)):Int))) = .c (.int .i64 ((↑((i+(1:Nat))%(m+(1:Nat))):Int))) from (rfl)) (hP (show (0:Int)≤(↑((i+(1:Nat))%(m+(1:Nat))):Int)∧(↑((i+(1:Nat))%(m+(1:Nat))):Int) < (↑(m+(1:Nat)):Int) by omega) (hP (vcs_ld hv) (hP (addn (i:=i) (k:=k) (by omega)) (hP (show V.c (Value.int .i64 (Int.tmod (↑(i+k):Int) (↑(m+(1:Nat)):Int))) = .c (.int .i64 ((↑((i+k)%(m+(1:Nat))):Int))) from (rfl)) (hP (show (0:Int)≤(↑((i+k)%(m+(1:Nat))):Int)∧(↑((i+k)%(m+(1:Nat))):Int) < (↑(m+(1:Nat)):Int) by omega) (hP (vcs_ld hw) (hC (left_k s1 (by decide +kernel) s2 (by decide +kernel) s3 (by decide +kernel) s4 (by decide +kernel) s5 (by decide +kernel) s6 (by decide +kernel)) (hP (isB h7) (hP (incn (i:=k) hk (by omega)) hN)))))))))))) (flk vcs_f (flk flnv trivial))
theorem ck_b {L:List VR} {u v w:VR} {m c i k:Nat} (hv:L[(i+1)%(m+1)]? = some v) (hw:L[(i+k)%(m+1)]? = some w) (ou:u.Ok) (ov:v.Ok) (ow:w.Ok) (hi:i < m+1) (hk:k < m+1) (hm:m < 1000000) (e1:(i+1)%(m+1) < m+1) (e2:(i+k)%(m+1) < m+1) (h0:decide ((↑k:Int) < (↑(m+(1:Nat)):Int))=true) (h7:decide (Int.sign (Rat.num ((VR.x v - VR.x u)*(VR.y w - VR.y u) - (VR.y v - VR.y u)*(VR.x w - VR.x u)))≤(0:Int))=true):TSpec Tryd.prog (loopOf Tryd.f60 3) (ckI L u m c i k) (.ret) (ckB2 L u):=by
 have s1:=(vr1_s ou)
 have s2:=(vr2_s ou)
 have s3:=(vr1_s ov)
 have s4:=(vr2_s ov)
 have s5:=(vr1_s ow)
 have s6:=(vr2_s ow)
 exact tspec_dim (mask 49 0 [4]) 2 (sc:=[(10,2,.is (.c (.bool true))),(12,3,.is (.c (.int .i64 ((↑(i+(1:Nat)):Int))))),(12,5,.is (.c (.int .i64 ((↑((i+(1:Nat))%(m+(1:Nat))):Int))))),(12,7,.fix (ag [[.bool (VR.n1 v)],[.string (VR.a1 v)],[.string (VR.b1 v)],[.bool (VR.n2 v)],[.string (VR.a2 v)],[.string (VR.b2 v)]])),(12,11,.is (.c (.int .i64 ((↑(i+k):Int))))),(12,13,.is (.c (.int .i64 ((↑((i+k)%(m+(1:Nat))):Int))))),(12,15,.fix (ag [[.bool (VR.n1 w)],[.string (VR.a1 w)],[.string (VR.b1 w)],[.bool (VR.n2 w)],[.string (VR.a2 w)],[.string (VR.b2 w)]])),(12,16,.fix (.int .i64 (Int.sign (Rat.num ((VR.x v - VR.x u)*(VR.y w - VR.y u) - (VR.y v - VR.y u)*(VR.x w - VR.x u)))))),(12,17,.is (.c (.bool true)))]) (sb:=[]) (by kernel_rfl) (hP (isB h0) (hP (incn (i:=i) hi (by omega)) (hP (show V.c (Value.int .i64 (Int.tmod (↑(i+(1:Nat)):Int) (↑(m+(1:Nat)):Int))) = .c (.int .i64 ((↑((i+(1:Nat))%(m+(1:Nat))):Int))) from (rfl)) (hP (show (0:Int)≤(↑((i+(1:Nat))%(m+(1:Nat))):Int)∧(↑((i+(1:Nat))%(m+(1:Nat))):Int) < (↑(m+(1:Nat)):Int) by omega) (hP (vcs_ld hv) (hP (addn (i:=i) (k:=k) (by omega)) (hP (show V.c (Value.int .i64 (Int.tmod (↑(i+k):Int) (↑(m+(1:Nat)):Int))) = .c (.int .i64 ((↑((i+k)%(m+(1:Nat))):Int))) from (rfl)) (hP (show (0:Int)≤(↑((i+k)%(m+(1:Nat))):Int)∧(↑((i+k)%(m+(1:Nat))):Int) < (↑(m+(1:Nat)):Int) by omega) (hP (vcs_ld hw) (hC (left_k s1 (by decide +kernel) s2 (by decide +kernel) s3 (by decide +kernel) s4 (by decide +kernel) s5 (by decide +kernel) s6 (by decide +kernel)) (hP (isB h7) hN))))))))))) (flk vcs_f (flk flnv trivial))
theorem ck_c {L:List VR} {u:VR} {m c i k:Nat}  (h0:decide ((↑k:Int) < (↑(m+(1:Nat)):Int))=false):TSpec Tryd.prog (loopOf Tryd.f60 3) (ckI L u m c i k) (.exit 3) (ckI L u m c i k):=by
 exact tspec_dim (mask 49 0 [0,5,6,7,8,18,19,20]) 2 (sc:=[(10,2,.is (.c (.bool false)))]) (sb:=[]) (by kernel_rfl) (hP (isB h0) hN) (flk vcs_f (flk flnv trivial))
theorem ck_d {L:List VR} {u:VR} {m c i:Nat} (hu:L[i]? = some u) (hi:i < m+1) (hm:m < 1000000) (hb:TSpec Tryd.prog (.block 3 (.loop (loopOf Tryd.f60 3))) (ckI L u m c i 2) .normal (ckI L u m c i (m+1))) (h0:decide ((↑i:Int) < (↑(m+(1:Nat)):Int))=true):TSpec Tryd.prog (loopOf Tryd.f60 1) (ckO L m c i) (.normal) (ckO L m c (i+1)):=by
 exact tspec_dim (mask 49 0 [0,5,18,19,20]) 1 (sc:=[(7,0,.is (.c (.bool true))),(8,2,.fix (ag [[.bool (VR.n1 u)],[.string (VR.a1 u)],[.string (VR.b1 u)],[.bool (VR.n2 u)],[.string (VR.a2 u)],[.string (VR.b2 u)]])),(3,99999,.mask (mask 49 0 [0,5,6,7,8,18,19,20])),(14,0,.is (.c (.int .i64 ((↑(i+(1:Nat)):Int)))))]) (sb:=[(3,.normal,ckI L u m c i (m+1))]) (by kernel_rfl) (hP (isB h0) (hP (show (0:Int)≤(↑i:Int)∧(↑i:Int) < (↑(m+(1:Nat)):Int) by omega) (hP (vcs_ld hu) (hP (show Flat [some { own:=false,cells:=vcs L },some ⟨Bool.true,nv [[.bool (VR.n1 u)],[.string (VR.a1 u)],[.string (VR.b1 u)],[.bool (VR.n2 u)],[.string (VR.a2 u)],[.string (VR.b2 u)]]⟩] from (flk vcs_f (flk rfl trivial))) (hP (hb) (hP (incn (i:=i) hi (by omega)) hN)))))) (flk vcs_f trivial)
theorem ck_e {L:List VR} {u:VR} {m c i:Nat} (hu:L[i]? = some u) (hi:i < m+1) (hm:m < 1000000) (hb:TSpec Tryd.prog (.block 3 (.loop (loopOf Tryd.f60 3))) (ckI L u m c i 2) .ret (ckB2 L u)) (h0:decide ((↑i:Int) < (↑(m+(1:Nat)):Int))=true):TSpec Tryd.prog (loopOf Tryd.f60 1) (ckO L m c i) (.ret) (ckB L):=by
 exact tspec_dim (mask 49 0 [4]) 1 (sc:=[(7,0,.is (.c (.bool true))),(8,2,.fix (ag [[.bool (VR.n1 u)],[.string (VR.a1 u)],[.string (VR.b1 u)],[.bool (VR.n2 u)],[.string (VR.a2 u)],[.string (VR.b2 u)]])),(3,99999,.mask (mask 49 0 [0,5,6,7,8,18,19,20]))]) (sb:=[(3,.ret,ckB2 L u)]) (by kernel_rfl) (hP (isB h0) (hP (show (0:Int)≤(↑i:Int)∧(↑i:Int) < (↑(m+(1:Nat)):Int) by omega) (hP (vcs_ld hu) (hP (show Flat [some { own:=false,cells:=vcs L },some ⟨Bool.true,nv [[.bool (VR.n1 u)],[.string (VR.a1 u)],[.string (VR.b1 u)],[.bool (VR.n2 u)],[.string (VR.a2 u)],[.string (VR.b2 u)]]⟩] from (flk vcs_f (flk rfl trivial))) (hP (hb) hN))))) (flk vcs_f trivial)
theorem ck_f {L:List VR} {m c i:Nat}  (h0:decide ((↑i:Int) < (↑(m+(1:Nat)):Int))=false):TSpec Tryd.prog (loopOf Tryd.f60 1) (ckO L m c i) (.exit 1) (ckO L m c i):=by
 exact tspec_dim (mask 49 0 [0,5,18,19,20]) 1 (sc:=[(7,0,.is (.c (.bool false)))]) (sb:=[]) (by kernel_rfl) (hP (isB h0) hN) (flk vcs_f trivial)
def z0:VR:=⟨false,⟨#[]⟩,⟨#[]⟩,false,⟨#[]⟩,⟨#[]⟩⟩
noncomputable def ringN (L:List VR) (t:Int):Int:=if t < (L.length:Int) then 2 else if L.length < 3 then 3 else @ite Int (RingOk (pX L) (pY L) L.length) (Classical.propDecidable _) 0 3
section
variable {L:List VR} {m c:Nat} (hL:L.length=m+1) (ok:∀ v∈L,v.Ok) (hm:m < 1000000)
include hL ok hm
theorem ck_in {u:VR} {i:Nat} (hu:L[i]? = some u) (hi:i < m+1):∀ (d k:Nat),k+d=m+1 →
 ((∀ k',k≤k' → k' < m+1→0 < sd (pX L) (pY L) i ((i+1)%(m+1)) ((i+k')%(m+1)))∧Rounds Tryd.prog (loopOf Tryd.f60 3) 3 (ckI L u m c i k) .normal (ckI L u m c i (m+1))) ∨
 ((∃ k',k≤k' ∧ k' < m+1 ∧ ¬ 0 < sd (pX L) (pY L) i ((i+1)%(m+1)) ((i+k')%(m+1)))∧Rounds Tryd.prog (loopOf Tryd.f60 3) 3 (ckI L u m c i k) .ret (ckB2 L u))
 | 0,k,hk=>by
   obtain rfl:k=m+1:=by omega
   exact .inl ⟨fun k' h1 h2=>by omega,.stop (ck_c (decide_eq_false (by omega)))⟩
 | d+1,k,hk=>by
   have p1:(i+1)%(m+1) < m+1:=Nat.mod_lt _ (by omega)
   have p2:(i+k)%(m+1) < m+1:=Nat.mod_lt _ (by omega)
   have hv:=List.getElem?_eq_getElem (l:=L) (i:=(i+1)%(m+1)) (by omega)
   have hw:=List.getElem?_eq_getElem (l:=L) (i:=(i+k)%(m+1)) (by omega)
   have es:=sgn_sd hu hv hw
   have hlt:decide ((k:Int) < ((m+1:Nat):Int))=true:=decide_eq_true (by omega)
   by_cases h:0 < sd (pX L) (pY L) i ((i+1)%(m+1)) ((i+k)%(m+1))
   ·have st:=ck_a (c:=c) hv hw (ok _ (List.mem_of_getElem? hu)) (ok _ (List.mem_of_getElem? hv)) (ok _ (List.mem_of_getElem? hw)) hi (show k < m+1 by omega) hm p1 p2 hlt (by rw [sgn_le,← es,decide_eq_true h]; rfl)
    rcases ck_in hu hi d (k+1) (by omega) with ⟨a,b⟩ | ⟨⟨k',a1,a2,a3⟩,b⟩
    ·refine .inl ⟨fun k' h1 h2=>?_,.step st b⟩
     by_cases e:k' = k
     ·subst e; exact h
     exact a k' (by omega) h2
    exact .inr ⟨⟨k',by omega,a2,a3⟩,.step st b⟩
   exact .inr ⟨⟨k,Nat.le_refl _,by omega,h⟩,.ret (ck_b (c:=c) hv hw (ok _ (List.mem_of_getElem? hu)) (ok _ (List.mem_of_getElem? hv)) (ok _ (List.mem_of_getElem? hw)) hi (show k < m+1 by omega) hm p1 p2 hlt (by rw [sgn_le,← es,decide_eq_false h]; rfl))⟩
theorem ck_out (hm2:2+(m - 1)=m+1):∀ (d i:Nat),i+d=m+1 →
 ((∀ i' k',i≤i' → i' < m+1→2≤k' → k' < m+1→0 < sd (pX L) (pY L) i' ((i' + 1)%(m+1)) ((i' + k')%(m+1)))∧Rounds Tryd.prog (loopOf Tryd.f60 1) 1 (ckO L m c i) .normal (ckO L m c (m+1))) ∨
 ((∃ i' k',i' < m+1∧2≤k' ∧ k' < m+1 ∧ ¬ 0 < sd (pX L) (pY L) i' ((i' + 1)%(m+1)) ((i' + k')%(m+1)))∧Rounds Tryd.prog (loopOf Tryd.f60 1) 1 (ckO L m c i) .ret (ckB L))
 | 0,i,hi=>by
   obtain rfl:i=m+1:=by omega
   exact .inl ⟨fun i' k' h1 h2=>by omega,.stop (ck_f (decide_eq_false (by omega)))⟩
 | d+1,i,hi=>by
   have hu:=List.getElem?_eq_getElem (l:=L) (i:=i) (by omega)
   have hlt:decide ((i:Int) < ((m+1:Nat):Int))=true:=decide_eq_true (by omega)
   rcases ck_in (c:=c) hL ok hm hu (by omega) (m - 1) 2 hm2 with ⟨a,b⟩ | ⟨⟨k',a1,a2,a3⟩,b⟩
   ·have st:=ck_d hu (show i < m+1 by omega) hm b.spec hlt
    rcases ck_out hm2 d (i+1) (by omega) with ⟨p,q⟩ | ⟨p,q⟩
    ·refine .inl ⟨fun i' k' h1 h2 h3 h4=>?_,.step st q⟩
     by_cases e:i' = i
     ·subst e; exact a k' h3 h4
     exact p i' k' (by omega) h2 h3 h4
    exact .inr ⟨p,.step st q⟩
   exact .inr ⟨⟨i,k',by omega,a1,a2,a3⟩,.ret (ck_e hu (show i < m+1 by omega) hm b.spec hlt)⟩
end
theorem cf_a {L:List VR} {m c:Nat} {t:Int}  (h0:decide (t < (↑(m+(1:Nat)):Int))=true):FSpec Tryd.prog 60 [.sl 0 0 (m+1) c,.c (.int .i64 t)] [some ⟨false,vcs L⟩] (.c (.int .i64 (2:Int))) [some ⟨false,vcs L⟩]:=by
 exact fspec_ok Tryd.func60 (sc:=[(2,2,.is (.c (.bool true)))]) (sb:=[]) (keep:=[]) (by kernel_rfl) (hP (show Flat [some ⟨false,vcs L⟩] from flk vcs_f trivial) (hP (isB h0) hN))
theorem cf_b {L:List VR} {m c:Nat} {t:Int}  (h0:decide (t < (↑(m+(1:Nat)):Int))=false) (h1:decide ((↑(m+(1:Nat)):Int) < (3:Int))=true):FSpec Tryd.prog 60 [.sl 0 0 (m+1) c,.c (.int .i64 t)] [some ⟨false,vcs L⟩] (.c (.int .i64 (3:Int))) [some ⟨false,vcs L⟩]:=by
 exact fspec_ok Tryd.func60 (sc:=[(2,2,.is (.c (.bool false))),(4,1,.is (.c (.bool true)))]) (sb:=[]) (keep:=[]) (by kernel_rfl) (hP (show Flat [some ⟨false,vcs L⟩] from flk vcs_f trivial) (hP (isB h0) (hP (isB h1) hN)))
theorem cf_c {L:List VR} {m c:Nat} {t:Int} (hb:TSpec Tryd.prog (.block 1 (.loop (loopOf Tryd.f60 1))) (ckO L m c 0) .normal (ckO L m c (m+1))) (h0:decide (t < (↑(m+(1:Nat)):Int))=false) (h1:decide ((↑(m+(1:Nat)):Int) < (3:Int))=false):FSpec Tryd.prog 60 [.sl 0 0 (m+1) c,.c (.int .i64 t)] [some ⟨false,vcs L⟩] (.c (.int .i64 (0:Int))) [some ⟨false,vcs L⟩]:=by
 exact fspec_ok Tryd.func60 (sc:=[(2,2,.is (.c (.bool false))),(4,1,.is (.c (.bool false))),(1,99999,.mask (mask 49 0 [0,5,18,19,20]))]) (sb:=[(1,.normal,ckO L m c (m+1))]) (keep:=[]) (by kernel_rfl) (hP (show Flat [some ⟨false,vcs L⟩] from flk vcs_f trivial) (hP (isB h0) (hP (isB h1) (hP (show Flat [some { own:=false,cells:=vcs L }] from (flk vcs_f trivial)) (hP (hb) hN)))))
theorem cf_d {L:List VR} {m c:Nat} {t:Int} (hb:TSpec Tryd.prog (.block 1 (.loop (loopOf Tryd.f60 1))) (ckO L m c 0) .ret (ckB L)) (h0:decide (t < (↑(m+(1:Nat)):Int))=false) (h1:decide ((↑(m+(1:Nat)):Int) < (3:Int))=false):FSpec Tryd.prog 60 [.sl 0 0 (m+1) c,.c (.int .i64 t)] [some ⟨false,vcs L⟩] (.c (.int .i64 (3:Int))) [some ⟨false,vcs L⟩]:=by
 exact fspec_ok Tryd.func60 (sc:=[(2,2,.is (.c (.bool false))),(4,1,.is (.c (.bool false))),(1,99999,.mask (mask 49 0 [0,5,18,19,20]))]) (sb:=[(1,.ret,ckB L)]) (keep:=[]) (by kernel_rfl) (hP (show Flat [some ⟨false,vcs L⟩] from flk vcs_f trivial) (hP (isB h0) (hP (isB h1) (hP (show Flat [some { own:=false,cells:=vcs L }] from (flk vcs_f trivial)) (hP (hb) hN)))))
theorem check_k {L:List VR} {m c:Nat} {t:Int} (hL:L.length=m+1) (ok:∀ v∈L,v.Ok) (ht:t≤100000):FSpec Tryd.prog 60 [.sl 0 0 (m+1) c,.c (.int .i64 t)] [some ⟨false,vcs L⟩] (.c (.int .i64 (ringN L t))) [some ⟨false,vcs L⟩]:=by
 unfold ringN
 rw [hL]
 by_cases h1:t < ((m+1:Nat):Int)
 ·rw [if_pos h1]
  exact cf_a (decide_eq_true h1)
 rw [if_neg h1]
 by_cases h2:m+1 < 3
 ·rw [if_pos h2]
  exact cf_b (decide_eq_false h1) (decide_eq_true (by omega))
 rw [if_neg h2]
 have hi:=ring_iff (X:=pX L) (Y:=pY L) (n:=m+1) (by omega)
 rcases ck_out (c:=c) hL ok (by omega) (by omega) (m+1) 0 (by omega) with ⟨a,b⟩ | ⟨⟨i',k',a1,a2,a3,a4⟩,b⟩
 ·rw [if_pos (hi.1 fun i k h3 h4 h5=>a i k (Nat.zero_le _) h3 h4 h5)]
  exact cf_c b.spec (decide_eq_false h1) (decide_eq_false (by omega))
 rw [if_neg (fun hr=>a4 (hi.2 hr i' k' a1 a2 a3))]
 exact cf_d b.spec (decide_eq_false h1) (decide_eq_false (by omega))
theorem convex_k {L:List VR} {m c:Nat} (hL:L.length=m+1) (ok:∀ v∈L,v.Ok)  : FSpec Tryd.prog 35 [.sl 0 0 (m+1) c] [some ⟨false,vcs L⟩] (.c (.int .i64 (ringN L (64:Int)))) [some ⟨false,vcs L⟩]:=by
 exact fspec_ok Tryd.func35 (sc:=[(1,1,.readf (.int .i64 (ringN L (64:Int))))]) (sb:=[]) (keep:=[]) (by kernel_rfl) (hP (show Flat [some ⟨false,vcs L⟩] from flk vcs_f trivial) (hP (show Flat [some { own:=false,cells:=vcs L }] from (flk vcs_f trivial)) (hF (check_k (c:=c) (t:=(64:Int)) hL ok (by decide +kernel)) hN)))
end Go.Proofs.YtjefpjajkbldpaaDoor.G
end
section
namespace Go.Proofs.YtjefpjajkbldpaaDoor.G
open Go.Proofs.YtjefpjajkbldpaaDoor.U Go.RowKit
theorem rounds_all {P:Program} {body:Code} {id:Nat} {S:Nat→St} {e:St} {Q:Nat→Prop} {n:Nat} (good:∀ i,i < n→Q i→TSpec P body (S i) .normal (S (i+1))) (bad:∀ i,i < n → ¬ Q i→TSpec P body (S i) .ret e) (stop:TSpec P body (S n) (.exit id) (S n)):∀ (d i:Nat),i+d=n →
 ((∀ i',i≤i' → i' < n→Q i')∧Rounds P body id (S i) .normal (S n))∨((∃ i',i≤i' ∧ i' < n ∧ ¬ Q i')∧Rounds P body id (S i) .ret e)
 | 0,i,hi=>by
   obtain rfl:i=n:=by omega
   exact .inl ⟨fun i' h1 h2=>by omega,.stop stop⟩
 | d+1,i,hi=>by
   by_cases h:Q i
   ·have st:=good i (by omega) h
    rcases rounds_all good bad stop d (i+1) (by omega) with ⟨a,b⟩ | ⟨⟨k,a1,a2,a3⟩,b⟩
    ·refine .inl ⟨fun i' h1 h2=>?_,.step st b⟩
     by_cases e:i' = i
     ·subst e; exact h
     exact a i' (by omega) h2
    exact .inr ⟨⟨k,by omega,a2,a3⟩,.step st b⟩
   exact .inr ⟨⟨i,Nat.le_refl _,by omega,h⟩,.ret (bad i (by omega) h)⟩
def rg3 (L:List VR) (m c i k j:Nat):St:=⟨slots 45 0 [(0,.sl 0 0 (m+1) c),(5,.c (.int .i64 (((i:Nat):Int)))),(6,.c (.int .i64 (((k:Nat):Int)))),(16,.c (.int .i64 (((m+1:Nat):Int)))),(17,.c (.int .i64 (((i:Nat):Int)))),(20,.c (.int .i64 (((i:Nat):Int)))),(21,.c (.int .i64 (((k:Nat):Int)))),(24,.c (.int .i64 (((k:Nat):Int)))),(25,.c (.int .i64 (((j:Nat):Int))))],[some ⟨false,vcs L⟩]⟩
def rg2 (L:List VR) (m c i k:Nat):St:=⟨slots 45 0 [(0,.sl 0 0 (m+1) c),(5,.c (.int .i64 (((i:Nat):Int)))),(16,.c (.int .i64 (((m+1:Nat):Int)))),(17,.c (.int .i64 (((i:Nat):Int)))),(20,.c (.int .i64 (((i:Nat):Int)))),(21,.c (.int .i64 (((k:Nat):Int))))],[some ⟨false,vcs L⟩]⟩
def rg1 (L:List VR) (m c i:Nat):St:=⟨slots 45 0 [(0,.sl 0 0 (m+1) c),(16,.c (.int .i64 (((m+1:Nat):Int)))),(17,.c (.int .i64 (((i:Nat):Int))))],[some ⟨false,vcs L⟩]⟩
def rgB (L:List VR):St:=⟨slots 45 0 [(4,.c (.int .i64 3))],[some ⟨false,vcs L⟩]⟩
theorem side_k {n1:Bool} {a1 b1:ByteArray} {x1:Rat} {K1:Nat}{n2:Bool} {a2 b2:ByteArray} {x2:Rat} {K2:Nat}{n3:Bool} {a3 b3:ByteArray} {x3:Rat} {K3:Nat}{n4:Bool} {a4 b4:ByteArray} {x4:Rat} {K4:Nat}{n5:Bool} {a5 b5:ByteArray} {x5:Rat} {K5:Nat}{n6:Bool} {a6 b6:ByteArray} {x6:Rat} {K6:Nat} (h1':IsR n1 a1 b1 x1 K1) (k1:K1≤100000000) (h2':IsR n2 a2 b2 x2 K2) (k2:K2≤100000000) (h3':IsR n3 a3 b3 x3 K3) (k3:K3≤100000000) (h4':IsR n4 a4 b4 x4 K4) (k4:K4≤100000000) (h5':IsR n5 a5 b5 x5 K5) (k5:K5≤100000000) (h6':IsR n6 a6 b6 x6 K6) (k6:K6≤100000000)  : CSpec Tryd.prog 22 #[(ag [rr n1 a1 b1,rr n2 a2 b2]),(ag [rr n3 a3 b3,rr n4 a4 b4]),(ag [rr n5 a5 b5,rr n6 a6 b6])] (.int .i64 (Int.sign (Rat.num ((x3 - x1)*(x6 - x2) - (x4 - x2)*(x5 - x1))))):=by
 have s0:=(sub_s (szr h3') (szr h1'))
 have s1:=(isR_s s0)
 have s2:=(sub_s (szr h4') (szr h2'))
 have s3:=(isR_s s2)
 have s4:=(sub_s (szr h5') (szr h1'))
 have s5:=(isR_s s4)
 have s6:=(sub_s (szr h6') (szr h2'))
 have s7:=(isR_s s6)
 have s8:=(mul_s s0 s6)
 have s9:=(mul_s s2 s4)
 have s10:=(sub_s s8 s9)
 have s11:=(isR_s s10)
 exact fn_ok Tryd.func22 (sc:=[(1,2,.fix (ag [rc (x3 - x1),rc (x4 - x2)])),(1,5,.fix (ag [rc (x5 - x1),rc (x6 - x2)])),(1,6,.fix (Rv ((x3 - x1)*(x6 - x2) - (x4 - x2)*(x5 - x1)))),(1,7,.fix (.int .i64 (Int.sign (Rat.num ((x3 - x1)*(x6 - x2) - (x4 - x2)*(x5 - x1))))))]) (sb:=[]) (by kernel_rfl) (hC (rv_k h1' (by omega) h2' (by omega) h3' (by omega) h4' (by omega)) (hC (rv_k h1' (by omega) h2' (by omega) h5' (by omega) h6' (by omega)) (hC (rcross_k s1 (by omega) s3 (by omega) s5 (by omega) s7 (by omega)) (hC (sign_k s11 (by omega)) hN))))
theorem rg_a {L:List VR} {u v w:VR} {m c i k j:Nat} (hu:L[j]? = some u) (hv:L[k]? = some v) (hw:L[i]? = some w) (ou:u.Ok) (ov:v.Ok) (ow:w.Ok) (hj:j < m+1) (hk:k < m+1) (hi:i < m+1) (hm:m < 1000000) (h0:decide ((↑j:Int) < (↑k:Int))=true) (h7:decide (Int.sign (Rat.num ((VR.x v - VR.x u)*(VR.y w - VR.y u) - (VR.y v - VR.y u)*(VR.x w - VR.x u)))≤(0:Int))=false):TSpec Tryd.prog (loopOf Tryd.f8 4) (rg3 L m c i k j) (.normal) (rg3 L m c i k (j+1)):=by
 have s1:=(vr1_s ou)
 have s2:=(vr2_s ou)
 have s3:=(vr1_s ov)
 have s4:=(vr2_s ov)
 have s5:=(vr1_s ow)
 have s6:=(vr2_s ow)
 exact tspec_dim (mask 45 0 [0,5,6,16,17,20,21,24,25]) 1 (sc:=[(12,0,.is (.c (.bool true))),(14,3,.fix (ag [[.bool (VR.n1 u)],[.string (VR.a1 u)],[.string (VR.b1 u)],[.bool (VR.n2 u)],[.string (VR.a2 u)],[.string (VR.b2 u)]])),(14,7,.fix (ag [[.bool (VR.n1 v)],[.string (VR.a1 v)],[.string (VR.b1 v)],[.bool (VR.n2 v)],[.string (VR.a2 v)],[.string (VR.b2 v)]])),(14,11,.fix (ag [[.bool (VR.n1 w)],[.string (VR.a1 w)],[.string (VR.b1 w)],[.bool (VR.n2 w)],[.string (VR.a2 w)],[.string (VR.b2 w)]])),(14,12,.fix (.int .i64 (Int.sign (Rat.num ((VR.x v - VR.x u)*(VR.y w - VR.y u) - (VR.y v - VR.y u)*(VR.x w - VR.x u)))))),(14,13,.is (.c (.bool false))),(16,0,.is (.c (.int .i64 ((↑(j+(1:Nat)):Int)))))]) (sb:=[]) (by kernel_rfl) (hP (isB h0) (hP (show (0:Int)≤(↑j:Int)∧(↑j:Int) < (↑(m+(1:Nat)):Int) by omega) (hP (vcs_ld hu) (hP (show (0:Int)≤(↑k:Int)∧(↑k:Int) < (↑(m+(1:Nat)):Int) by omega) (hP (vcs_ld hv) (hP (show (0:Int)≤(↑i:Int)∧(↑i:Int) < (↑(m+(1:Nat)):Int) by omega) (hP (vcs_ld hw) (hC (side_k s1 (by decide +kernel) s2 (by decide +kernel) s3 (by decide +kernel) s4 (by decide +kernel) s5 (by decide +kernel) s6 (by decide +kernel)) (hP (isB h7) (hP (incn (i:=j) hj (by omega)) hN)))))))))) (flk vcs_f trivial)
theorem rg_b {L:List VR} {u v w:VR} {m c i k j:Nat} (hu:L[j]? = some u) (hv:L[k]? = some v) (hw:L[i]? = some w) (ou:u.Ok) (ov:v.Ok) (ow:w.Ok) (hj:j < m+1) (hk:k < m+1) (hi:i < m+1) (hm:m < 1000000) (h0:decide ((↑j:Int) < (↑k:Int))=true) (h7:decide (Int.sign (Rat.num ((VR.x v - VR.x u)*(VR.y w - VR.y u) - (VR.y v - VR.y u)*(VR.x w - VR.x u)))≤(0:Int))=true):TSpec Tryd.prog (loopOf Tryd.f8 4) (rg3 L m c i k j) (.ret) (rgB L):=by
 have s1:=(vr1_s ou)
 have s2:=(vr2_s ou)
 have s3:=(vr1_s ov)
 have s4:=(vr2_s ov)
 have s5:=(vr1_s ow)
 have s6:=(vr2_s ow)
 exact tspec_dim (mask 45 0 [4]) 1 (sc:=[(12,0,.is (.c (.bool true))),(14,3,.fix (ag [[.bool (VR.n1 u)],[.string (VR.a1 u)],[.string (VR.b1 u)],[.bool (VR.n2 u)],[.string (VR.a2 u)],[.string (VR.b2 u)]])),(14,7,.fix (ag [[.bool (VR.n1 v)],[.string (VR.a1 v)],[.string (VR.b1 v)],[.bool (VR.n2 v)],[.string (VR.a2 v)],[.string (VR.b2 v)]])),(14,11,.fix (ag [[.bool (VR.n1 w)],[.string (VR.a1 w)],[.string (VR.b1 w)],[.bool (VR.n2 w)],[.string (VR.a2 w)],[.string (VR.b2 w)]])),(14,12,.fix (.int .i64 (Int.sign (Rat.num ((VR.x v - VR.x u)*(VR.y w - VR.y u) - (VR.y v - VR.y u)*(VR.x w - VR.x u)))))),(14,13,.is (.c (.bool true)))]) (sb:=[]) (by kernel_rfl) (hP (isB h0) (hP (show (0:Int)≤(↑j:Int)∧(↑j:Int) < (↑(m+(1:Nat)):Int) by omega) (hP (vcs_ld hu) (hP (show (0:Int)≤(↑k:Int)∧(↑k:Int) < (↑(m+(1:Nat)):Int) by omega) (hP (vcs_ld hv) (hP (show (0:Int)≤(↑i:Int)∧(↑i:Int) < (↑(m+(1:Nat)):Int) by omega) (hP (vcs_ld hw) (hC (side_k s1 (by decide +kernel) s2 (by decide +kernel) s3 (by decide +kernel) s4 (by decide +kernel) s5 (by decide +kernel) s6 (by decide +kernel)) (hP (isB h7) hN))))))))) (flk vcs_f trivial)
theorem rg_c {L:List VR} {m c i k j:Nat}  (h0:decide ((↑j:Int) < (↑k:Int))=false):TSpec Tryd.prog (loopOf Tryd.f8 4) (rg3 L m c i k j) (.exit 4) (rg3 L m c i k j):=by
 exact tspec_dim (mask 45 0 [0,5,6,16,17,20,21,24,25]) 1 (sc:=[(12,0,.is (.c (.bool false)))]) (sb:=[]) (by kernel_rfl) (hP (isB h0) hN) (flk vcs_f trivial)
theorem rg_d {L:List VR} {m c i k:Nat} (hk:k < m+1) (hm:m < 1000000) (hb:TSpec Tryd.prog (.block 4 (.loop (loopOf Tryd.f8 4))) (rg3 L m c i k 0) .normal (rg3 L m c i k k)) (h0:decide ((↑k:Int) < (↑i:Int))=true):TSpec Tryd.prog (loopOf Tryd.f8 2) (rg2 L m c i k) (.normal) (rg2 L m c i (k+1)):=by
 exact tspec_dim (mask 45 0 [0,5,16,17,20,21]) 1 (sc:=[(9,0,.is (.c (.bool true))),(4,99999,.mask (mask 45 0 [0,5,6,16,17,20,21,24,25])),(17,0,.is (.c (.int .i64 ((↑(k+(1:Nat)):Int)))))]) (sb:=[(4,.normal,rg3 L m c i k k)]) (by kernel_rfl) (hP (isB h0) (hP (show Flat [some { own:=false,cells:=vcs L }] from (flk vcs_f trivial)) (hP (hb) (hP (incn (i:=k) hk (by omega)) hN)))) (flk vcs_f trivial)
theorem rg_e {L:List VR} {m c i k:Nat} (hk:k < m+1) (hm:m < 1000000) (hb:TSpec Tryd.prog (.block 4 (.loop (loopOf Tryd.f8 4))) (rg3 L m c i k 0) .ret (rgB L)) (h0:decide ((↑k:Int) < (↑i:Int))=true):TSpec Tryd.prog (loopOf Tryd.f8 2) (rg2 L m c i k) (.ret) (rgB L):=by
 exact tspec_dim (mask 45 0 [4]) 1 (sc:=[(9,0,.is (.c (.bool true))),(4,99999,.mask (mask 45 0 [0,5,6,16,17,20,21,24,25]))]) (sb:=[(4,.ret,rgB L)]) (by kernel_rfl) (hP (isB h0) (hP (show Flat [some { own:=false,cells:=vcs L }] from (flk vcs_f trivial)) (hP (hb) hN))) (flk vcs_f trivial)
theorem rg_f {L:List VR} {m c i k:Nat}  (h0:decide ((↑k:Int) < (↑i:Int))=false):TSpec Tryd.prog (loopOf Tryd.f8 2) (rg2 L m c i k) (.exit 2) (rg2 L m c i k):=by
 exact tspec_dim (mask 45 0 [0,5,16,17,20,21]) 1 (sc:=[(9,0,.is (.c (.bool false)))]) (sb:=[]) (by kernel_rfl) (hP (isB h0) hN) (flk vcs_f trivial)
theorem rg_g {L:List VR} {m c i:Nat} (hi:i < m+1) (hm:m < 1000000) (hb:TSpec Tryd.prog (.block 2 (.loop (loopOf Tryd.f8 2))) (rg2 L m c i 0) .normal (rg2 L m c i i)) (h0:decide ((↑i:Int) < (↑(m+(1:Nat)):Int))=true):TSpec Tryd.prog (loopOf Tryd.f8 0) (rg1 L m c i) (.normal) (rg1 L m c (i+1)):=by
 exact tspec_dim (mask 45 0 [0,16,17]) 1 (sc:=[(6,0,.is (.c (.bool true))),(2,99999,.mask (mask 45 0 [0,5,16,17,20,21])),(18,0,.is (.c (.int .i64 ((↑(i+(1:Nat)):Int)))))]) (sb:=[(2,.normal,rg2 L m c i i)]) (by kernel_rfl) (hP (isB h0) (hP (show Flat [some { own:=false,cells:=vcs L }] from (flk vcs_f trivial)) (hP (hb) (hP (incn (i:=i) hi (by omega)) hN)))) (flk vcs_f trivial)
theorem rg_h {L:List VR} {m c i:Nat} (hi:i < m+1) (hm:m < 1000000) (hb:TSpec Tryd.prog (.block 2 (.loop (loopOf Tryd.f8 2))) (rg2 L m c i 0) .ret (rgB L)) (h0:decide ((↑i:Int) < (↑(m+(1:Nat)):Int))=true):TSpec Tryd.prog (loopOf Tryd.f8 0) (rg1 L m c i) (.ret) (rgB L):=by
 exact tspec_dim (mask 45 0 [4]) 1 (sc:=[(6,0,.is (.c (.bool true))),(2,99999,.mask (mask 45 0 [0,5,16,17,20,21]))]) (sb:=[(2,.ret,rgB L)]) (by kernel_rfl) (hP (isB h0) (hP (show Flat [some { own:=false,cells:=vcs L }] from (flk vcs_f trivial)) (hP (hb) hN))) (flk vcs_f trivial)
theorem rg_i {L:List VR} {m c i:Nat}  (h0:decide ((↑i:Int) < (↑(m+(1:Nat)):Int))=false):TSpec Tryd.prog (loopOf Tryd.f8 0) (rg1 L m c i) (.exit 0) (rg1 L m c i):=by
 exact tspec_dim (mask 45 0 [0,16,17]) 1 (sc:=[(6,0,.is (.c (.bool false)))]) (sb:=[]) (by kernel_rfl) (hP (isB h0) hN) (flk vcs_f trivial)
section
variable {L:List VR} {m c:Nat} (hL:L.length=m+1) (ok:∀ v∈L,v.Ok) (hm:m < 1000000)
include hL ok hm
theorem rg_in {i k:Nat} (hi:i < m+1) (hk:k < i) :
 ((∀ j,0≤j→j < k→0 < sd (pX L) (pY L) j k i)∧Rounds Tryd.prog (loopOf Tryd.f8 4) 4 (rg3 L m c i k 0) .normal (rg3 L m c i k k)) ∨
 ((∃ j,0≤j∧j < k ∧ ¬ 0 < sd (pX L) (pY L) j k i)∧Rounds Tryd.prog (loopOf Tryd.f8 4) 4 (rg3 L m c i k 0) .ret (rgB L)):=by
 have hv:=List.getElem?_eq_getElem (l:=L) (i:=k) (by omega)
 have hw:=List.getElem?_eq_getElem (l:=L) (i:=i) (by omega)
 refine rounds_all (S:=fun j=>rg3 L m c i k j) (fun j hj h=>?_) (fun j hj h=>?_) (rg_c (decide_eq_false (by omega))) k 0 (by omega)
 ·have hu:=List.getElem?_eq_getElem (l:=L) (i:=j) (by omega)
  exact rg_a hu hv hw (ok _ (List.mem_of_getElem? hu)) (ok _ (List.mem_of_getElem? hv)) (ok _ (List.mem_of_getElem? hw)) (by omega) (by omega) hi hm (decide_eq_true (by omega)) (by rw [sgn_le,← sgn_sd hu hv hw,decide_eq_true h]; rfl)
 have hu:=List.getElem?_eq_getElem (l:=L) (i:=j) (by omega)
 exact rg_b hu hv hw (ok _ (List.mem_of_getElem? hu)) (ok _ (List.mem_of_getElem? hv)) (ok _ (List.mem_of_getElem? hw)) (by omega) (by omega) hi hm (decide_eq_true (by omega)) (by rw [sgn_le,← sgn_sd hu hv hw,decide_eq_false h]; rfl)
open Classical in
theorem rg_mid {i:Nat} (hi:i < m+1) :
 ((∀ k,0≤k→k < i → ∀ j,0≤j→j < k→0 < sd (pX L) (pY L) j k i)∧Rounds Tryd.prog (loopOf Tryd.f8 2) 2 (rg2 L m c i 0) .normal (rg2 L m c i i)) ∨
 ((∃ k,0≤k∧k < i ∧ ¬ ∀ j,0≤j→j < k→0 < sd (pX L) (pY L) j k i)∧Rounds Tryd.prog (loopOf Tryd.f8 2) 2 (rg2 L m c i 0) .ret (rgB L)):=by
 refine rounds_all (S:=fun k=>rg2 L m c i k) (fun k hk h=>?_) (fun k hk h=>?_) (rg_f (decide_eq_false (by omega))) i 0 (by omega)
 ·rcases rg_in (c:=c) hL ok hm hi hk with ⟨a,b⟩ | ⟨⟨j,a1,a2,a3⟩,b⟩
  ·exact rg_d (by omega) hm b.spec (decide_eq_true (by omega))
  exact absurd (h j a1 a2) a3
 rcases rg_in (c:=c) hL ok hm hi hk with ⟨a,b⟩ | ⟨_,b⟩
 ·exact absurd a h
 exact rg_e (by omega) hm b.spec (decide_eq_true (by omega))
theorem rg_out :
 ((∀ i,0≤i→i < m+1 → ∀ k,0≤k→k < i → ∀ j,0≤j→j < k→0 < sd (pX L) (pY L) j k i)∧Rounds Tryd.prog (loopOf Tryd.f8 0) 0 (rg1 L m c 0) .normal (rg1 L m c (m+1))) ∨
 ((∃ i,0≤i∧i < m+1 ∧ ¬ ∀ k,0≤k→k < i → ∀ j,0≤j→j < k→0 < sd (pX L) (pY L) j k i)∧Rounds Tryd.prog (loopOf Tryd.f8 0) 0 (rg1 L m c 0) .ret (rgB L)):=by
 refine rounds_all (S:=fun i=>rg1 L m c i) (fun i hi h=>?_) (fun i hi h=>?_) (rg_i (decide_eq_false (by omega))) (m+1) 0 (by omega)
 ·rcases rg_mid (c:=c) hL ok hm hi with ⟨a,b⟩ | ⟨⟨k,a1,a2,a3⟩,b⟩
  ·exact rg_g hi hm b.spec (decide_eq_true (by omega))
  exact absurd (h k a1 a2) a3
 rcases rg_mid (c:=c) hL ok hm hi with ⟨a,b⟩ | ⟨_,b⟩
 ·exact absurd a h
 exact rg_h hi hm b.spec (decide_eq_true (by omega))
end
theorem rf_a {L:List VR} {m c:Nat} {t:Int}  (h0:decide (t < (↑(m+(1:Nat)):Int))=true):FSpec Tryd.prog 8 [.sl 0 0 (m+1) c,.c (.int .i64 t)] [some ⟨false,vcs L⟩] (.c (.int .i64 (2:Int))) [some ⟨false,vcs L⟩]:=by
 exact fspec_ok Tryd.func8 (sc:=[(1,3,.is (.c (.bool true)))]) (sb:=[]) (keep:=[]) (by kernel_rfl) (hP (show Flat [some ⟨false,vcs L⟩] from flk vcs_f trivial) (hP (isB h0) hN))
theorem rf_b {L:List VR} {m c:Nat} {t:Int}  (h0:decide (t < (↑(m+(1:Nat)):Int))=false) (h1:decide ((↑(m+(1:Nat)):Int) < (3:Int))=true):FSpec Tryd.prog 8 [.sl 0 0 (m+1) c,.c (.int .i64 t)] [some ⟨false,vcs L⟩] (.c (.int .i64 (3:Int))) [some ⟨false,vcs L⟩]:=by
 exact fspec_ok Tryd.func8 (sc:=[(1,3,.is (.c (.bool false))),(3,2,.is (.c (.bool true)))]) (sb:=[]) (keep:=[]) (by kernel_rfl) (hP (show Flat [some ⟨false,vcs L⟩] from flk vcs_f trivial) (hP (isB h0) (hP (isB h1) hN)))
theorem rf_c {L:List VR} {m c:Nat} {t:Int} (hb:TSpec Tryd.prog (.block 0 (.loop (loopOf Tryd.f8 0))) (rg1 L m c 0) .normal (rg1 L m c (m+1))) (h0:decide (t < (↑(m+(1:Nat)):Int))=false) (h1:decide ((↑(m+(1:Nat)):Int) < (3:Int))=false):FSpec Tryd.prog 8 [.sl 0 0 (m+1) c,.c (.int .i64 t)] [some ⟨false,vcs L⟩] (.c (.int .i64 (0:Int))) [some ⟨false,vcs L⟩]:=by
 exact fspec_ok Tryd.func8 (sc:=[(1,3,.is (.c (.bool false))),(3,2,.is (.c (.bool false))),(0,99999,.mask (mask 45 0 [0,16,17]))]) (sb:=[(0,.normal,rg1 L m c (m+1))]) (keep:=[]) (by kernel_rfl) (hP (show Flat [some ⟨false,vcs L⟩] from flk vcs_f trivial) (hP (isB h0) (hP (isB h1) (hP (show Flat [some { own:=false,cells:=vcs L }] from (flk vcs_f trivial)) (hP (hb) hN)))))
theorem rf_d {L:List VR} {m c:Nat} {t:Int} (hb:TSpec Tryd.prog (.block 0 (.loop (loopOf Tryd.f8 0))) (rg1 L m c 0) .ret (rgB L)) (h0:decide (t < (↑(m+(1:Nat)):Int))=false) (h1:decide ((↑(m+(1:Nat)):Int) < (3:Int))=false):FSpec Tryd.prog 8 [.sl 0 0 (m+1) c,.c (.int .i64 t)] [some ⟨false,vcs L⟩] (.c (.int .i64 (3:Int))) [some ⟨false,vcs L⟩]:=by
 exact fspec_ok Tryd.func8 (sc:=[(1,3,.is (.c (.bool false))),(3,2,.is (.c (.bool false))),(0,99999,.mask (mask 45 0 [0,16,17]))]) (sb:=[(0,.ret,rgB L)]) (keep:=[]) (by kernel_rfl) (hP (show Flat [some ⟨false,vcs L⟩] from flk vcs_f trivial) (hP (isB h0) (hP (isB h1) (hP (show Flat [some { own:=false,cells:=vcs L }] from (flk vcs_f trivial)) (hP (hb) hN)))))
theorem ring_k {L:List VR} {m c:Nat} {t:Int} (hL:L.length=m+1) (ok:∀ v∈L,v.Ok) (ht:t≤100000):FSpec Tryd.prog 8 [.sl 0 0 (m+1) c,.c (.int .i64 t)] [some ⟨false,vcs L⟩] (.c (.int .i64 (ringN L t))) [some ⟨false,vcs L⟩]:=by
 unfold ringN
 rw [hL]
 by_cases h1:t < ((m+1:Nat):Int)
 ·rw [if_pos h1]
  exact rf_a (decide_eq_true h1)
 rw [if_neg h1]
 by_cases h2:m+1 < 3
 ·rw [if_pos h2]
  exact rf_b (decide_eq_false h1) (decide_eq_true (by omega))
 rw [if_neg h2]
 rcases rg_out (c:=c) hL ok (by omega) with ⟨a,b⟩ | ⟨⟨i,a1,a2,a3⟩,b⟩
 ·have hr:RingOk (pX L) (pY L) (m+1):=fun i k j h3 h4 h5=>a i (Nat.zero_le _) h3 k (Nat.zero_le _) h4 j (Nat.zero_le _) h5
  rw [if_pos hr]
  exact rf_c b.spec (decide_eq_false h1) (decide_eq_false (by omega))
 have hr:¬ RingOk (pX L) (pY L) (m+1):=fun hr=>a3 fun k _ h4 j _ h5=>hr i k j a2 h4 h5
 rw [if_neg hr]
 exact rf_d b.spec (decide_eq_false h1) (decide_eq_false (by omega))
end Go.Proofs.YtjefpjajkbldpaaDoor.G
end
section
namespace Go.Proofs.YtjefpjajkbldpaaDoor.G
open Go.Proofs.YtjefpjajkbldpaaDoor.U Go.RowKit
theorem sgn_sp {L:List VR} {i j:Nat} {u v:VR} {x y:Rat} (hu:L[i]? = some u) (hv:L[j]? = some v):sp (pX L) (pY L) i j x y=(v.x - u.x)*(y - u.y) - (v.y - u.y)*(x - u.x):=by
 unfold sp
 rw [pX_at hu,pX_at hv,pY_at hu,pY_at hv]
theorem sgn_ge {x:Rat}:decide (0≤Int.sign (Rat.num x))=decide (0≤x):=by
 refine decide_eq_decide.2 ?_
 have:=sign_lt (x:=x)
 rw [← Rat.not_lt,← this]
 omega
theorem subn {i:Nat} (h:i < 1000000):V.c (.int .i64 (IntKind.wrap .i64 (((i+2:Nat):Int) - 1))) = .c (.int .i64 ((i+1:Nat):Int)):=by
 congr 2
 rw [IntKind.wrap_i64]
 push_cast
 omega
noncomputable def fanB (L:List VR) (x y:Rat):Bool:=@decide (FanIn (pX L) (pY L) L.length x y) (Classical.propDecidable _)
def MustBad (L:List VR):Prop:=ringN L 64≠0
def MustPoly (L:List VR):Prop:=ringN L 64=0
def inS (L:List VR) (P:List V) (m c k:Nat):St:=⟨slots 49 0 [(0,.sl 0 0 (m+1) c),(3,.p 1 0),(5,.c (.int .i64 (((k+2:Nat):Int))))],[some ⟨false,vcs L⟩,some ⟨true,P⟩]⟩
def inB (L:List VR) (P:List V):St:=⟨slots 49 0 [(4,.c (.bool true))],[some ⟨false,vcs L⟩,some ⟨true,P⟩]⟩
theorem in_a {L:List VR} {u v w:VR} {m c k:Nat} {n1:Bool} {a1 b1:ByteArray} {n2:Bool} {a2 b2:ByteArray} {x1 x2:Rat}  (h1':IsR n1 a1 b1 x1 1048576) (h2':IsR n2 a2 b2 x2 1048576) (hu:L[0]? = some u) (hv:L[k+1]? = some v) (hw:L[k+2]? = some w) (ou:u.Ok) (ov:v.Ok) (ow:w.Ok) (hk:k+2 < m+1) (hm:m < 100000) (h0:decide ((↑(k+(2:Nat)):Int) < (↑(m+(1:Nat)):Int))=true) (h5:decide ((0:Int)≤Int.sign (Rat.num ((VR.x v - VR.x u)*(x2 - VR.y u) - (VR.y v - VR.y u)*(x1 - VR.x u))))=true) (h8:decide ((0:Int)≤Int.sign (Rat.num ((VR.x w - VR.x v)*(x2 - VR.y v) - (VR.y w - VR.y v)*(x1 - VR.x v))))=true) (h9:decide ((0:Int)≤Int.sign (Rat.num ((VR.x u - VR.x w)*(x2 - VR.y w) - (VR.y u - VR.y w)*(x1 - VR.x w))))=true):TSpec Tryd.prog (loopOf Tryd.f23 0) (inS L (nv [rr n1 a1 b1,rr n2 a2 b2]) m c k) (.ret) (inB L (nv [rr n1 a1 b1,rr n2 a2 b2])):=by
 have s1:=(vr1_s ou)
 have s2:=(vr2_s ou)
 have s3:=(vr1_s ov)
 have s4:=(vr2_s ov)
 have s6:=(vr1_s ow)
 have s7:=(vr2_s ow)
 exact tspec_dim (mask 49 0 [4]) 2 (sc:=[(2,3,.is (.c (.bool true))),(4,2,.fix (ag [[.bool (VR.n1 u)],[.string (VR.a1 u)],[.string (VR.b1 u)],[.bool (VR.n2 u)],[.string (VR.a2 u)],[.string (VR.b2 u)]])),(4,5,.is (.c (.int .i64 ((↑(k+(1:Nat)):Int))))),(4,7,.fix (ag [[.bool (VR.n1 v)],[.string (VR.a1 v)],[.string (VR.b1 v)],[.bool (VR.n2 v)],[.string (VR.a2 v)],[.string (VR.b2 v)]])),(4,9,.fix (.int .i64 (Int.sign (Rat.num ((VR.x v - VR.x u)*(x2 - VR.y u) - (VR.y v - VR.y u)*(x1 - VR.x u)))))),(4,10,.is (.c (.bool true))),(4,14,.is (.c (.int .i64 ((↑(k+(1:Nat)):Int))))),(4,16,.fix (ag [[.bool (VR.n1 v)],[.string (VR.a1 v)],[.string (VR.b1 v)],[.bool (VR.n2 v)],[.string (VR.a2 v)],[.string (VR.b2 v)]])),(4,20,.fix (ag [[.bool (VR.n1 w)],[.string (VR.a1 w)],[.string (VR.b1 w)],[.bool (VR.n2 w)],[.string (VR.a2 w)],[.string (VR.b2 w)]])),(4,22,.fix (.int .i64 (Int.sign (Rat.num ((VR.x w - VR.x v)*(x2 - VR.y v) - (VR.y w - VR.y v)*(x1 - VR.x v)))))),(4,23,.is (.c (.bool true))),(4,29,.fix (ag [[.bool (VR.n1 w)],[.string (VR.a1 w)],[.string (VR.b1 w)],[.bool (VR.n2 w)],[.string (VR.a2 w)],[.string (VR.b2 w)]])),(4,32,.fix (ag [[.bool (VR.n1 u)],[.string (VR.a1 u)],[.string (VR.b1 u)],[.bool (VR.n2 u)],[.string (VR.a2 u)],[.string (VR.b2 u)]])),(4,34,.fix (.int .i64 (Int.sign (Rat.num ((VR.x u - VR.x w)*(x2 - VR.y w) - (VR.y u - VR.y w)*(x1 - VR.x w)))))),(4,35,.is (.c (.bool true)))]) (sb:=[]) (by kernel_rfl) (hP (isB h0) (hP (show (0:Int)≤(0:Int)∧(0:Int) < (↑(m+(1:Nat)):Int) by omega) (hP (vcs_l0 hu) (hP (subn (i:=k) (by omega)) (hP (show (0:Int)≤(↑(k+(1:Nat)):Int)∧(↑(k+(1:Nat)):Int) < (↑(m+(1:Nat)):Int) by omega) (hP (vcs_ld hv) (hC (side_k s1 (by decide +kernel) s2 (by decide +kernel) s3 (by decide +kernel) s4 (by decide +kernel) h1' (by decide +kernel) h2' (by decide +kernel)) (hP (isB h5) (hP (subn (i:=k) (by omega)) (hP (show (0:Int)≤(↑(k+(1:Nat)):Int)∧(↑(k+(1:Nat)):Int) < (↑(m+(1:Nat)):Int) by omega) (hP (vcs_ld hv) (hP (show (0:Int)≤(↑(k+(2:Nat)):Int)∧(↑(k+(2:Nat)):Int) < (↑(m+(1:Nat)):Int) by omega) (hP (vcs_ld hw) (hC (side_k s3 (by decide +kernel) s4 (by decide +kernel) s6 (by decide +kernel) s7 (by decide +kernel) h1' (by decide +kernel) h2' (by decide +kernel)) (hP (isB h8) (hP (show (0:Int)≤(↑(k+(2:Nat)):Int)∧(↑(k+(2:Nat)):Int) < (↑(m+(1:Nat)):Int) by omega) (hP (vcs_ld hw) (hP (show (0:Int)≤(0:Int)∧(0:Int) < (↑(m+(1:Nat)):Int) by omega) (hP (vcs_l0 hu) (hC (side_k s6 (by decide +kernel) s7 (by decide +kernel) s1 (by decide +kernel) s2 (by decide +kernel) h1' (by decide +kernel) h2' (by decide +kernel)) (hP (isB h9) hN))))))))))))))))))))) (flk vcs_f (flk flnv trivial))
theorem in_b {L:List VR} {u v w:VR} {m c k:Nat} {n1:Bool} {a1 b1:ByteArray} {n2:Bool} {a2 b2:ByteArray} {x1 x2:Rat}  (h1':IsR n1 a1 b1 x1 1048576) (h2':IsR n2 a2 b2 x2 1048576) (hu:L[0]? = some u) (hv:L[k+1]? = some v) (hw:L[k+2]? = some w) (ou:u.Ok) (ov:v.Ok) (ow:w.Ok) (hk:k+2 < m+1) (hm:m < 100000) (h0:decide ((↑(k+(2:Nat)):Int) < (↑(m+(1:Nat)):Int))=true) (h5:decide ((0:Int)≤Int.sign (Rat.num ((VR.x v - VR.x u)*(x2 - VR.y u) - (VR.y v - VR.y u)*(x1 - VR.x u))))=false):TSpec Tryd.prog (loopOf Tryd.f23 0) (inS L (nv [rr n1 a1 b1,rr n2 a2 b2]) m c k) (.normal) (inS L (nv [rr n1 a1 b1,rr n2 a2 b2]) m c (k+1)):=by
 have s1:=(vr1_s ou)
 have s2:=(vr2_s ou)
 have s3:=(vr1_s ov)
 have s4:=(vr2_s ov)
 exact tspec_dim (mask 49 0 [0,3,5]) 2 (sc:=[(2,3,.is (.c (.bool true))),(4,2,.fix (ag [[.bool (VR.n1 u)],[.string (VR.a1 u)],[.string (VR.b1 u)],[.bool (VR.n2 u)],[.string (VR.a2 u)],[.string (VR.b2 u)]])),(4,5,.is (.c (.int .i64 ((↑(k+(1:Nat)):Int))))),(4,7,.fix (ag [[.bool (VR.n1 v)],[.string (VR.a1 v)],[.string (VR.b1 v)],[.bool (VR.n2 v)],[.string (VR.a2 v)],[.string (VR.b2 v)]])),(4,9,.fix (.int .i64 (Int.sign (Rat.num ((VR.x v - VR.x u)*(x2 - VR.y u) - (VR.y v - VR.y u)*(x1 - VR.x u)))))),(4,10,.is (.c (.bool false))),(3,1,.is (.c (.int .i64 ((↑(k+(1:Nat)+(2:Nat)):Int)))))]) (sb:=[]) (by kernel_rfl) (hP (isB h0) (hP (show (0:Int)≤(0:Int)∧(0:Int) < (↑(m+(1:Nat)):Int) by omega) (hP (vcs_l0 hu) (hP (subn (i:=k) (by omega)) (hP (show (0:Int)≤(↑(k+(1:Nat)):Int)∧(↑(k+(1:Nat)):Int) < (↑(m+(1:Nat)):Int) by omega) (hP (vcs_ld hv) (hC (side_k s1 (by decide +kernel) s2 (by decide +kernel) s3 (by decide +kernel) s4 (by decide +kernel) h1' (by decide +kernel) h2' (by decide +kernel)) (hP (isB h5) (hP (incn (i:=k+2) hk (by omega)) hN))))))))) (flk vcs_f (flk flnv trivial))
theorem in_c {L:List VR} {u v w:VR} {m c k:Nat} {n1:Bool} {a1 b1:ByteArray} {n2:Bool} {a2 b2:ByteArray} {x1 x2:Rat}  (h1':IsR n1 a1 b1 x1 1048576) (h2':IsR n2 a2 b2 x2 1048576) (hu:L[0]? = some u) (hv:L[k+1]? = some v) (hw:L[k+2]? = some w) (ou:u.Ok) (ov:v.Ok) (ow:w.Ok) (hk:k+2 < m+1) (hm:m < 100000) (h0:decide ((↑(k+(2:Nat)):Int) < (↑(m+(1:Nat)):Int))=true) (h5:decide ((0:Int)≤Int.sign (Rat.num ((VR.x v - VR.x u)*(x2 - VR.y u) - (VR.y v - VR.y u)*(x1 - VR.x u))))=true) (h8:decide ((0:Int)≤Int.sign (Rat.num ((VR.x w - VR.x v)*(x2 - VR.y v) - (VR.y w - VR.y v)*(x1 - VR.x v))))=false):TSpec Tryd.prog (loopOf Tryd.f23 0) (inS L (nv [rr n1 a1 b1,rr n2 a2 b2]) m c k) (.normal) (inS L (nv [rr n1 a1 b1,rr n2 a2 b2]) m c (k+1)):=by
 have s1:=(vr1_s ou)
 have s2:=(vr2_s ou)
 have s3:=(vr1_s ov)
 have s4:=(vr2_s ov)
 have s6:=(vr1_s ow)
 have s7:=(vr2_s ow)
 exact tspec_dim (mask 49 0 [0,3,5]) 2 (sc:=[(2,3,.is (.c (.bool true))),(4,2,.fix (ag [[.bool (VR.n1 u)],[.string (VR.a1 u)],[.string (VR.b1 u)],[.bool (VR.n2 u)],[.string (VR.a2 u)],[.string (VR.b2 u)]])),(4,5,.is (.c (.int .i64 ((↑(k+(1:Nat)):Int))))),(4,7,.fix (ag [[.bool (VR.n1 v)],[.string (VR.a1 v)],[.string (VR.b1 v)],[.bool (VR.n2 v)],[.string (VR.a2 v)],[.string (VR.b2 v)]])),(4,9,.fix (.int .i64 (Int.sign (Rat.num ((VR.x v - VR.x u)*(x2 - VR.y u) - (VR.y v - VR.y u)*(x1 - VR.x u)))))),(4,10,.is (.c (.bool true))),(4,14,.is (.c (.int .i64 ((↑(k+(1:Nat)):Int))))),(4,16,.fix (ag [[.bool (VR.n1 v)],[.string (VR.a1 v)],[.string (VR.b1 v)],[.bool (VR.n2 v)],[.string (VR.a2 v)],[.string (VR.b2 v)]])),(4,20,.fix (ag [[.bool (VR.n1 w)],[.string (VR.a1 w)],[.string (VR.b1 w)],[.bool (VR.n2 w)],[.string (VR.a2 w)],[.string (VR.b2 w)]])),(4,22,.fix (.int .i64 (Int.sign (Rat.num ((VR.x w - VR.x v)*(x2 - VR.y v) - (VR.y w - VR.y v)*(x1 - VR.x v)))))),(4,23,.is (.c (.bool false))),(3,1,.is (.c (.int .i64 ((↑(k+(1:Nat)+(2:Nat)):Int)))))]) (sb:=[]) (by kernel_rfl) (hP (isB h0) (hP (show (0:Int)≤(0:Int)∧(0:Int) < (↑(m+(1:Nat)):Int) by omega) (hP (vcs_l0 hu) (hP (subn (i:=k) (by omega)) (hP (show (0:Int)≤(↑(k+(1:Nat)):Int)∧(↑(k+(1:Nat)):Int) < (↑(m+(1:Nat)):Int) by omega) (hP (vcs_ld hv) (hC (side_k s1 (by decide +kernel) s2 (by decide +kernel) s3 (by decide +kernel) s4 (by decide +kernel) h1' (by decide +kernel) h2' (by decide +kernel)) (hP (isB h5) (hP (subn (i:=k) (by omega)) (hP (show (0:Int)≤(↑(k+(1:Nat)):Int)∧(↑(k+(1:Nat)):Int) < (↑(m+(1:Nat)):Int) by omega) (hP (vcs_ld hv) (hP (show (0:Int)≤(↑(k+(2:Nat)):Int)∧(↑(k+(2:Nat)):Int) < (↑(m+(1:Nat)):Int) by omega) (hP (vcs_ld hw) (hC (side_k s3 (by decide +kernel) s4 (by decide +kernel) s6 (by decide +kernel) s7 (by decide +kernel) h1' (by decide +kernel) h2' (by decide +kernel)) (hP (isB h8) (hP (incn (i:=k+2) hk (by omega)) hN)))))))))))))))) (flk vcs_f (flk flnv trivial))
theorem in_d {L:List VR} {u v w:VR} {m c k:Nat} {n1:Bool} {a1 b1:ByteArray} {n2:Bool} {a2 b2:ByteArray} {x1 x2:Rat}  (h1':IsR n1 a1 b1 x1 1048576) (h2':IsR n2 a2 b2 x2 1048576) (hu:L[0]? = some u) (hv:L[k+1]? = some v) (hw:L[k+2]? = some w) (ou:u.Ok) (ov:v.Ok) (ow:w.Ok) (hk:k+2 < m+1) (hm:m < 100000) (h0:decide ((↑(k+(2:Nat)):Int) < (↑(m+(1:Nat)):Int))=true) (h5:decide ((0:Int)≤Int.sign (Rat.num ((VR.x v - VR.x u)*(x2 - VR.y u) - (VR.y v - VR.y u)*(x1 - VR.x u))))=true) (h8:decide ((0:Int)≤Int.sign (Rat.num ((VR.x w - VR.x v)*(x2 - VR.y v) - (VR.y w - VR.y v)*(x1 - VR.x v))))=true) (h9:decide ((0:Int)≤Int.sign (Rat.num ((VR.x u - VR.x w)*(x2 - VR.y w) - (VR.y u - VR.y w)*(x1 - VR.x w))))=false):TSpec Tryd.prog (loopOf Tryd.f23 0) (inS L (nv [rr n1 a1 b1,rr n2 a2 b2]) m c k) (.normal) (inS L (nv [rr n1 a1 b1,rr n2 a2 b2]) m c (k+1)):=by
 have s1:=(vr1_s ou)
 have s2:=(vr2_s ou)
 have s3:=(vr1_s ov)
 have s4:=(vr2_s ov)
 have s6:=(vr1_s ow)
 have s7:=(vr2_s ow)
 exact tspec_dim (mask 49 0 [0,3,5]) 2 (sc:=[(2,3,.is (.c (.bool true))),(4,2,.fix (ag [[.bool (VR.n1 u)],[.string (VR.a1 u)],[.string (VR.b1 u)],[.bool (VR.n2 u)],[.string (VR.a2 u)],[.string (VR.b2 u)]])),(4,5,.is (.c (.int .i64 ((↑(k+(1:Nat)):Int))))),(4,7,.fix (ag [[.bool (VR.n1 v)],[.string (VR.a1 v)],[.string (VR.b1 v)],[.bool (VR.n2 v)],[.string (VR.a2 v)],[.string (VR.b2 v)]])),(4,9,.fix (.int .i64 (Int.sign (Rat.num ((VR.x v - VR.x u)*(x2 - VR.y u) - (VR.y v - VR.y u)*(x1 - VR.x u)))))),(4,10,.is (.c (.bool true))),(4,14,.is (.c (.int .i64 ((↑(k+(1:Nat)):Int))))),(4,16,.fix (ag [[.bool (VR.n1 v)],[.string (VR.a1 v)],[.string (VR.b1 v)],[.bool (VR.n2 v)],[.string (VR.a2 v)],[.string (VR.b2 v)]])),(4,20,.fix (ag [[.bool (VR.n1 w)],[.string (VR.a1 w)],[.string (VR.b1 w)],[.bool (VR.n2 w)],[.string (VR.a2 w)],[.string (VR.b2 w)]])),(4,22,.fix (.int .i64 (Int.sign (Rat.num ((VR.x w - VR.x v)*(x2 - VR.y v) - (VR.y w - VR.y v)*(x1 - VR.x v)))))),(4,23,.is (.c (.bool true))),(4,29,.fix (ag [[.bool (VR.n1 w)],[.string (VR.a1 w)],[.string (VR.b1 w)],[.bool (VR.n2 w)],[.string (VR.a2 w)],[.string (VR.b2 w)]])),(4,32,.fix (ag [[.bool (VR.n1 u)],[.string (VR.a1 u)],[.string (VR.b1 u)],[.bool (VR.n2 u)],[.string (VR.a2 u)],[.string (VR.b2 u)]])),(4,34,.fix (.int .i64 (Int.sign (Rat.num ((VR.x u - VR.x w)*(x2 - VR.y w) - (VR.y u - VR.y w)*(x1 - VR.x w)))))),(4,35,.is (.c (.bool false))),(3,1,.is (.c (.int .i64 ((↑(k+(1:Nat)+(2:Nat)):Int)))))]) (sb:=[]) (by kernel_rfl) (hP (isB h0) (hP (show (0:Int)≤(0:Int)∧(0:Int) < (↑(m+(1:Nat)):Int) by omega) (hP (vcs_l0 hu) (hP (subn (i:=k) (by omega)) (hP (show (0:Int)≤(↑(k+(1:Nat)):Int)∧(↑(k+(1:Nat)):Int) < (↑(m+(1:Nat)):Int) by omega) (hP (vcs_ld hv) (hC (side_k s1 (by decide +kernel) s2 (by decide +kernel) s3 (by decide +kernel) s4 (by decide +kernel) h1' (by decide +kernel) h2' (by decide +kernel)) (hP (isB h5) (hP (subn (i:=k) (by omega)) (hP (show (0:Int)≤(↑(k+(1:Nat)):Int)∧(↑(k+(1:Nat)):Int) < (↑(m+(1:Nat)):Int) by omega) (hP (vcs_ld hv) (hP (show (0:Int)≤(↑(k+(2:Nat)):Int)∧(↑(k+(2:Nat)):Int) < (↑(m+(1:Nat)):Int) by omega) (hP (vcs_ld hw) (hC (side_k s3 (by decide +kernel) s4 (by decide +kernel) s6 (by decide +kernel) s7 (by decide +kernel) h1' (by decide +kernel) h2' (by decide +kernel)) (hP (isB h8) (hP (show (0:Int)≤(↑(k+(2:Nat)):Int)∧(↑(k+(2:Nat)):Int) < (↑(m+(1:Nat)):Int) by omega) (hP (vcs_ld hw) (hP (show (0:Int)≤(0:Int)∧(0:Int) < (↑(m+(1:Nat)):Int) by omega) (hP (vcs_l0 hu) (hC (side_k s6 (by decide +kernel) s7 (by decide +kernel) s1 (by decide +kernel) s2 (by decide +kernel) h1' (by decide +kernel) h2' (by decide +kernel)) (hP (isB h9) (hP (incn (i:=k+2) hk (by omega)) hN)))))))))))))))))))))) (flk vcs_f (flk flnv trivial))
theorem in_e {L:List VR} {m c k:Nat} {n1:Bool} {a1 b1:ByteArray} {n2:Bool} {a2 b2:ByteArray}  (h0:decide ((↑(k+(2:Nat)):Int) < (↑(m+(1:Nat)):Int))=false):TSpec Tryd.prog (loopOf Tryd.f23 0) (inS L (nv [rr n1 a1 b1,rr n2 a2 b2]) m c k) (.exit 0) (inS L (nv [rr n1 a1 b1,rr n2 a2 b2]) m c k):=by
 exact tspec_dim (mask 49 0 [0,3,5]) 2 (sc:=[(2,3,.is (.c (.bool false)))]) (sb:=[]) (by kernel_rfl) (hP (isB h0) hN) (flk vcs_f (flk flnv trivial))
section
variable {L:List VR} {m c:Nat} {n1:Bool} {a1 b1:ByteArray} {n2:Bool} {a2 b2:ByteArray} {x1 x2:Rat}  (hL:L.length=m+1) (ok:∀ v∈L,v.Ok) (hm:m < 100000) (h1':IsR n1 a1 b1 x1 1048576) (h2':IsR n2 a2 b2 x2 1048576)
include hL ok hm h1' h2'
def InF (L:List VR) (x y:Rat) (k:Nat):Prop:=0≤sp (pX L) (pY L) 0 (k+1) x y∧0≤sp (pX L) (pY L) (k+1) (k+2) x y∧0≤sp (pX L) (pY L) (k+2) 0 x y
open Classical in
theorem pinn_loop:((∀ k,0≤k→k < m - 1 → ¬ InF L x1 x2 k)∧Rounds Tryd.prog (loopOf Tryd.f23 0) 0 (inS L (nv [rr n1 a1 b1,rr n2 a2 b2]) m c 0) .normal (inS L (nv [rr n1 a1 b1,rr n2 a2 b2]) m c (m - 1))) ∨
 ((∃ k,0≤k∧k < m - 1 ∧ ¬ ¬ InF L x1 x2 k)∧Rounds Tryd.prog (loopOf Tryd.f23 0) 0 (inS L (nv [rr n1 a1 b1,rr n2 a2 b2]) m c 0) .ret (inB L (nv [rr n1 a1 b1,rr n2 a2 b2]))):=by
 refine rounds_all (S:=fun k=>inS L (nv [rr n1 a1 b1,rr n2 a2 b2]) m c k) (fun k hk h=>?_) (fun k hk h=>?_) (in_e (decide_eq_false (by omega))) (m - 1) 0 (by omega)
 all_goals
  have hu:=List.getElem?_eq_getElem (l:=L) (i:=0) (by omega)
  have hv:=List.getElem?_eq_getElem (l:=L) (i:=k+1) (by omega)
  have hw:=List.getElem?_eq_getElem (l:=L) (i:=k+2) (by omega)
  have q1:=sgn_sp (x:=x1) (y:=x2) hu hv
  have q2:=sgn_sp (x:=x1) (y:=x2) hv hw
  have q3:=sgn_sp (x:=x1) (y:=x2) hw hu
  have ou:=ok _ (List.mem_of_getElem? hu)
  have ov:=ok _ (List.mem_of_getElem? hv)
  have ow:=ok _ (List.mem_of_getElem? hw)
  have hlt:decide (((k+2:Nat):Int) < ((m+1:Nat):Int))=true:=decide_eq_true (by omega)
 ·unfold InF at h
  by_cases c1:0≤sp (pX L) (pY L) 0 (k+1) x1 x2
  ·by_cases c2:0≤sp (pX L) (pY L) (k+1) (k+2) x1 x2
   ·have c3:¬ 0≤sp (pX L) (pY L) (k+2) 0 x1 x2:=fun c3=>h ⟨c1,c2,c3⟩
    exact in_d h1' h2' hu hv hw ou ov ow (by omega) hm hlt (by rw [sgn_ge,← q1]; exact decide_eq_true c1) (by rw [sgn_ge,← q2]; exact decide_eq_true c2) (by rw [sgn_ge,← q3]; exact decide_eq_false c3)
   exact in_c h1' h2' hu hv hw ou ov ow (by omega) hm hlt (by rw [sgn_ge,← q1]; exact decide_eq_true c1) (by rw [sgn_ge,← q2]; exact decide_eq_false c2)
  exact in_b h1' h2' hu hv hw ou ov ow (by omega) hm hlt (by rw [sgn_ge,← q1]; exact decide_eq_false c1)
 obtain ⟨c1,c2,c3⟩:=Classical.not_not.1 h
 exact in_a h1' h2' hu hv hw ou ov ow (by omega) hm hlt (by rw [sgn_ge,← q1]; exact decide_eq_true c1) (by rw [sgn_ge,← q2]; exact decide_eq_true c2) (by rw [sgn_ge,← q3]; exact decide_eq_true c3)
end
theorem innA0 {L:List VR} {m c:Nat} {n1:Bool} {a1 b1:ByteArray} {n2:Bool} {a2 b2:ByteArray} {x1 x2:Rat}  (hL:L.length=m+1) (ok:∀ v∈L,v.Ok) (h1':IsR n1 a1 b1 x1 1048576) (h2':IsR n2 a2 b2 x2 1048576) (hb:TSpec Tryd.prog (.block 0 (.loop (loopOf Tryd.f23 0))) (inS L (nv [rr n1 a1 b1,rr n2 a2 b2]) m c 0) .normal (inS L (nv [rr n1 a1 b1,rr n2 a2 b2]) m c (m - 1)))  : FSpec Tryd.prog 23 [.sl 0 0 (m+1) c,.c (ag [rr n1 a1 b1,rr n2 a2 b2])] [some ⟨false,vcs L⟩] (.c (.bool false)) [some ⟨false,vcs L⟩]:=by
 exact fspec_ok Tryd.func23 (sc:=[(0,99999,.mask (mask 49 0 [0,3,5]))]) (sb:=[(0,.normal,inS L (nv [rr n1 a1 b1,rr n2 a2 b2]) m c (m - 1))]) (keep:=[]) (by kernel_rfl) (hP (show Flat [some ⟨false,vcs L⟩] from flk vcs_f trivial) (hP (show Flat [some { own:=false,cells:=vcs L },some ⟨Bool.true,nv [[.bool n1],[.string a1],[.string b1],[.bool n2],[.string a2],[.string b2]]⟩] from (flk vcs_f (flk rfl trivial))) (hP (hb) hN)))
theorem innB0 {L:List VR} {m c:Nat} {n1:Bool} {a1 b1:ByteArray} {n2:Bool} {a2 b2:ByteArray} {x1 x2:Rat}  (hL:L.length=m+1) (ok:∀ v∈L,v.Ok) (h1':IsR n1 a1 b1 x1 1048576) (h2':IsR n2 a2 b2 x2 1048576) (hb:TSpec Tryd.prog (.block 0 (.loop (loopOf Tryd.f23 0))) (inS L (nv [rr n1 a1 b1,rr n2 a2 b2]) m c 0) .ret (inB L (nv [rr n1 a1 b1,rr n2 a2 b2])))  : FSpec Tryd.prog 23 [.sl 0 0 (m+1) c,.c (ag [rr n1 a1 b1,rr n2 a2 b2])] [some ⟨false,vcs L⟩] (.c (.bool true)) [some ⟨false,vcs L⟩]:=by
 exact fspec_ok Tryd.func23 (sc:=[(0,99999,.mask (mask 49 0 [0,3,5]))]) (sb:=[(0,.ret,inB L (nv [rr n1 a1 b1,rr n2 a2 b2]))]) (keep:=[]) (by kernel_rfl) (hP (show Flat [some ⟨false,vcs L⟩] from flk vcs_f trivial) (hP (show Flat [some { own:=false,cells:=vcs L },some ⟨Bool.true,nv [[.bool n1],[.string a1],[.string b1],[.bool n2],[.string a2],[.string b2]]⟩] from (flk vcs_f (flk rfl trivial))) (hP (hb) hN)))
section
open Classical
variable {L:List VR} {m c:Nat} {n1:Bool} {a1 b1:ByteArray} {n2:Bool} {a2 b2:ByteArray} {x1 x2:Rat}
theorem inner_k (hL:L.length=m+1) (ok:∀ v∈L,v.Ok) (h1':IsR n1 a1 b1 x1 1048576) (h2':IsR n2 a2 b2 x2 1048576)  (hm:m < 100000):FSpec Tryd.prog 23 [.sl 0 0 (m+1) c,.c (ag [rr n1 a1 b1,rr n2 a2 b2])] [some ⟨false,vcs L⟩] (.c (.bool (fanB L x1 x2))) [some ⟨false,vcs L⟩]:=by
 unfold fanB
 rw [hL]
 rcases pinn_loop (c:=c) hL ok hm h1' h2' with ⟨a,b⟩ | ⟨⟨k,a1,a2,a3⟩,b⟩
 ·have he : ¬ FanIn (pX L) (pY L) (m + 1) x1 x2 := by
   rintro ⟨i,hi2,hi,f1,f2,f3⟩
   refine a (i - 2) (Nat.zero_le _) (by omega) ?_
   unfold InF
   rw [show i - 2+1=i - 1 by omega,show i - 2+2=i by omega]
   exact ⟨f1,f2,f3⟩
  rw [decide_eq_false he]
  exact innA0 hL ok h1' h2' b.spec
 have he:FanIn (pX L) (pY L) (m+1) x1 x2:=by
  obtain ⟨f1,f2,f3⟩:=Classical.not_not.1 a3
  exact ⟨k+2,by omega,by omega,f1,f2,f3⟩
 rw [decide_eq_true he]
 exact innB0 hL ok h1' h2' b.spec
end
end Go.Proofs.YtjefpjajkbldpaaDoor.G
end
section
namespace Go.Proofs.YtjefpjajkbldpaaDoor.G
theorem helly1:∀ (T:List (Rat × Rat)),(∀ a∈T,∀ b∈T,∃ t:Rat,0≤a.1*t+a.2∧0≤b.1*t+b.2) → ∃ t:Rat,∀ a∈T,0≤a.1*t+a.2
 | [],_=>⟨0,fun a h=>by cases h⟩
 | h::T,hp=>by
   obtain ⟨s,hs⟩:=helly1 T fun a ha b hb=>hp a (List.mem_cons_of_mem _ ha) b (List.mem_cons_of_mem _ hb)
   by_cases h0:0≤h.1*s+h.2
   ·refine ⟨s,fun a ha=>?_⟩
    rcases List.mem_cons.1 ha with rfl | ha
    ·exact h0
    exact hs a ha
   have h1:h.1≠0:=by
    intro hz
    obtain ⟨q,q1,_⟩:=hp h List.mem_cons_self h List.mem_cons_self
    rw [hz] at q1 h0
    grind
   have et:h.1*(-h.2/h.1) = -h.2:=by grind
   refine ⟨-h.2/h.1,fun a ha=>?_⟩
   generalize -h.2/h.1=t0 at *
   rcases List.mem_cons.1 ha with rfl | ha
   ·rw [et]; grind
   obtain ⟨q,q1,q2⟩:=hp h List.mem_cons_self a (List.mem_cons_of_mem _ ha)
   have hB:0 < -(h.1*s+h.2):=by grind
   have hA:0 < (h.1*q+h.2) + -(h.1*s+h.2):=by grind
   have e:(a.1*t0+a.2)*((h.1*q+h.2) + -(h.1*s+h.2)) = -(h.1*s+h.2)*(a.1*q+a.2)+(h.1*q+h.2)*(a.1*s+a.2):=by grind
   have m1:=Rat.mul_nonneg (Rat.le_of_lt hB) q2
   have m2:=Rat.mul_nonneg q1 (hs a ha)
   exact nn_of_mul (by rw [e]; grind) hA
structure HP where
 u:Rat
 v:Rat
 w:Rat
def HP.f (h:HP) (x y:Rat):Rat:=h.u*x+h.v*y+h.w
theorem hp_sq (x:Rat):0≤x*x:=by
 rcases Rat.le_total (a:=0) (b:=x) with h | h
 ·exact Rat.mul_nonneg h h
 have:=Rat.mul_nonneg (a:=-x) (b:=-x) (by grind) (by grind)
 grind
theorem sq2_pos {u v:Rat} (h:¬ (u=0∧v=0)):0 < u*u+v*v:=by
 have h1:=hp_sq u
 have h2:=hp_sq v
 by_cases e:u*u+v*v=0
 ·exfalso
  apply h
  have e1:u*u=0:=by grind
  have e2:v*v=0:=by grind
  exact ⟨by rcases Rat.mul_eq_zero.1 e1 with h | h<;>exact h,by rcases Rat.mul_eq_zero.1 e2 with h | h<;>exact h⟩
 grind
theorem hp_mid {h:HP} {sx sy qx qy:Rat} (hs:h.f sx sy < 0) (hq:0≤h.f qx qy):∃ zx zy:Rat,h.f zx zy=0 ∧ ∀ c:HP,0≤c.f sx sy→0≤c.f qx qy→0≤c.f zx zy:=by
 have hd:0 < h.f qx qy - h.f sx sy:=by grind
 have hn:h.f qx qy - h.f sx sy≠0:=by grind
 refine ⟨(h.f qx qy*sx - h.f sx sy*qx)/(h.f qx qy - h.f sx sy),(h.f qx qy*sy - h.f sx sy*qy)/(h.f qx qy - h.f sx sy),?_,fun c c1 c2=>?_⟩
 ·generalize hA:h.f qx qy=A at *
  generalize hB:h.f sx sy=B at *
  unfold HP.f at *
  grind
 have e:c.f ((h.f qx qy*sx - h.f sx sy*qx)/(h.f qx qy - h.f sx sy)) ((h.f qx qy*sy - h.f sx sy*qy)/(h.f qx qy - h.f sx sy))*(h.f qx qy - h.f sx sy)=h.f qx qy*c.f sx sy+(-h.f sx sy)*c.f qx qy:=by
  generalize h.f qx qy=A at *
  generalize h.f sx sy=B at *
  unfold HP.f at *
  grind
 have m1:=Rat.mul_nonneg hq c1
 have m2:=Rat.mul_nonneg (a:=-h.f sx sy) (b:=c.f qx qy) (by grind) c2
 exact nn_of_mul (by rw [e]; grind) hd
theorem helly2:∀ (T:List HP),(∀ a∈T,∀ b∈T,∀ c∈T,∃ x y:Rat,0≤a.f x y∧0≤b.f x y∧0≤c.f x y) → ∃ x y:Rat,∀ a∈T,0≤a.f x y
 | [],_=>⟨0,0,fun a h=>by cases h⟩
 | h::T,hp=>by
   obtain ⟨sx,sy,hs⟩:=helly2 T fun a ha b hb c hc=>hp a (List.mem_cons_of_mem _ ha) b (List.mem_cons_of_mem _ hb) c (List.mem_cons_of_mem _ hc)
   by_cases h0:0≤h.f sx sy
   ·refine ⟨sx,sy,fun a ha=>?_⟩
    rcases List.mem_cons.1 ha with rfl | ha
    ·exact h0
    exact hs a ha
   have h0':h.f sx sy < 0:=by grind
   have hn:¬ (h.u=0∧h.v=0):=by
    rintro ⟨z1,z2⟩
    obtain ⟨qx,qy,q1,_⟩:=hp h List.mem_cons_self h List.mem_cons_self h List.mem_cons_self
    unfold HP.f at q1 h0'
    rw [z1,z2] at q1 h0'
    grind
   have hN:=sq2_pos hn
   have hN':h.u*h.u+h.v*h.v≠0:=by grind
   obtain ⟨px,py,hp0⟩:∃ px py:Rat,h.f px py=0:=by
    refine ⟨-h.w*h.u/(h.u*h.u+h.v*h.v),-h.w*h.v/(h.u*h.u+h.v*h.v),?_⟩
    unfold HP.f
    grind
   obtain ⟨t,ht⟩:=helly1 (T.map fun c=>(c.v*h.u - c.u*h.v,c.f px py)) (by
    intro a ha b hb
    obtain ⟨a',ha',rfl⟩:=List.mem_map.1 ha
    obtain ⟨b',hb',rfl⟩:=List.mem_map.1 hb
    obtain ⟨qx,qy,q1,q2,q3⟩:=hp h List.mem_cons_self a' (List.mem_cons_of_mem _ ha') b' (List.mem_cons_of_mem _ hb')
    obtain ⟨zx,zy,z0,zc⟩:=hp_mid h0' q1
    have za:=zc a' (hs a' ha') q2
    have zb:=zc b' (hs b' hb') q3
    have key:∀ c:HP,(c.v*h.u - c.u*h.v)*(((zy - py)*h.u - (zx - px)*h.v)/(h.u*h.u+h.v*h.v))+c.f px py=c.f zx zy:=by
     intro c
     have e0:h.u*(zx - px)+h.v*(zy - py)=0:=by unfold HP.f at z0 hp0; grind
     generalize hX:zx - px=DX at *
     generalize hY:zy - py=DY at *
     have ex:zx=px+DX:=by grind
     have ey:zy=py+DY:=by grind
     rw [ex,ey]
     unfold HP.f
     have e1:(DY*h.u - DX*h.v)/(h.u*h.u+h.v*h.v)*h.u=DY:=by grind
     have e2:(DY*h.u - DX*h.v)/(h.u*h.u+h.v*h.v)*h.v = -DX:=by grind
     generalize (DY*h.u - DX*h.v)/(h.u*h.u+h.v*h.v)=τ at *
     grind
    exact ⟨_,by rw [key]; exact za,by rw [key]; exact zb⟩)
   refine ⟨px - t*h.v,py+t*h.u,fun a ha=>?_⟩
   rcases List.mem_cons.1 ha with rfl | ha
   ·unfold HP.f at *; grind
   have:=ht _ (List.mem_map.2 ⟨a,ha,rfl⟩)
   unfold HP.f at *
   grind
theorem exit1:∀ (T:List (Rat × Rat)),(∀ a∈T,0≤a.1)→(∃ a∈T,a.2 < 0) → ∃ t:Rat,0≤t∧t≤1∧(∀ a∈T,0≤a.1+t*(a.2 - a.1)) ∧ ∃ a∈T,a.1+t*(a.2 - a.1)=0
 | [],_,h=>by obtain ⟨a,ha,_⟩:=h; cases ha
 | h::T,hA,hB=>by
   have cut:∀ (A B s:Rat),0≤A→0≤s→A+s*(B - A) < 0→0≤A/(A - B)∧A/(A - B)≤s∧A+A/(A - B)*(B - A)=0:=by
    intro A B s hA hs hl
    have hd:0 < A - B:=by
     rcases Rat.le_total (a:=A - B) (b:=0) with h | h
     ·have:=Rat.mul_nonneg (a:=s) (b:=-(A - B)) hs (by grind)
      grind
     by_cases e:A - B=0
     ·exfalso
      have:B - A=0:=by grind
      rw [this] at hl
      grind
     grind
    have hn:A - B≠0:=by grind
    have e:A/(A - B)*(A - B)=A:=by grind
    generalize A/(A - B)=t at *
    refine ⟨nn_of_mul (by rw [e]; exact hA) hd,?_,by grind⟩
    have:0≤s - t:=nn_of_mul (y:=A - B) (by grind) hd
    grind
   have conv:∀ (A B s t:Rat),0≤A→0≤A+s*(B - A)→0≤t→t≤s→0≤A+t*(B - A):=by
    intro A B s t h1 h2 h3 h4
    by_cases hs:s=0
    ·have:t=0:=by grind
     subst this
     grind
    have hs':0 < s:=by grind
    refine nn_of_mul (y:=s) ?_ hs'
    have m1:=Rat.mul_nonneg (a:=s - t) (b:=A) (by grind) h1
    have m2:=Rat.mul_nonneg h3 h2
    grind
   by_cases hT:∃ a∈T,a.2 < 0
   ·obtain ⟨s,s0,s1,sa,z,hz,ze⟩:=exit1 T (fun a ha=>hA a (List.mem_cons_of_mem _ ha)) hT
    by_cases h0:0≤h.1+s*(h.2 - h.1)
    ·refine ⟨s,s0,s1,fun a ha=>?_,z,List.mem_cons_of_mem _ hz,ze⟩
     rcases List.mem_cons.1 ha with rfl | ha
     ·exact h0
     exact sa a ha
    obtain ⟨c1,c2,c3⟩:=cut h.1 h.2 s (hA h List.mem_cons_self) s0 (by grind)
    refine ⟨h.1/(h.1 - h.2),c1,by grind,fun a ha=>?_,h,List.mem_cons_self,c3⟩
    rcases List.mem_cons.1 ha with rfl | ha
    ·rw [c3]; exact Rat.le_refl
    exact conv a.1 a.2 s _ (hA a (List.mem_cons_of_mem _ ha)) (sa a ha) c1 c2
   have hh:h.2 < 0:=by
    obtain ⟨a,ha,hl⟩:=hB
    rcases List.mem_cons.1 ha with rfl | ha
    ·exact hl
    exact absurd ⟨a,ha,hl⟩ hT
   obtain ⟨c1,c2,c3⟩:=cut h.1 h.2 1 (hA h List.mem_cons_self) (by grind) (by grind)
   refine ⟨h.1/(h.1 - h.2),c1,c2,fun a ha=>?_,h,List.mem_cons_self,c3⟩
   rcases List.mem_cons.1 ha with rfl | ha
   ·rw [c3]; exact Rat.le_refl
   have:¬ a.2 < 0:=fun hl=>hT ⟨a,ha,hl⟩
   exact conv a.1 a.2 1 _ (hA a (List.mem_cons_of_mem _ ha)) (by grind) c1 c2
def Seg (px py qx qy x y:Rat):Prop:=∃ t:Rat,0≤t∧t≤1∧x=px+t*(qx - px)∧y=py+t*(qy - py)
def side (ax ay bx bY cx cy:Rat):Rat:=(bx - ax)*(cy - ay) - (bY - ay)*(cx - ax)
def OnSeg (ax ay bx bY px py:Rat):Prop:=side ax ay bx bY px py=0∧(ax - px)*(bx - px)+(ay - py)*(bY - py)≤0
def Cross (ax ay bx bY cx cy dx dy:Rat):Prop :=
 (side ax ay bx bY cx cy*side ax ay bx bY dx dy < 0∧side cx cy dx dy ax ay*side cx cy dx dy bx bY < 0) ∨
  OnSeg ax ay bx bY cx cy∨OnSeg ax ay bx bY dx dy∨OnSeg cx cy dx dy ax ay∨OnSeg cx cy dx dy bx bY
theorem seg_of_on {ax ay bx bY px py:Rat} (hne:¬ (bx - ax=0∧bY - ay=0)) (h:OnSeg ax ay bx bY px py):Seg ax ay bx bY px py:=by
 obtain ⟨h1,h2⟩:=h
 have hN:=sq2_pos hne
 unfold side at h1
 have hn:(bx - ax)*(bx - ax)+(bY - ay)*(bY - ay)≠0:=by grind
 generalize hdx:bx - ax=dx at *
 generalize hdy:bY - ay=dy at *
 generalize hux:px - ax=ux at *
 generalize huy:py - ay=uy at *
 have e1:px=ax+ux:=by grind
 have e2:py=ay+uy:=by grind
 have e3:bx=ax+dx:=by grind
 have e4:bY=ay+dy:=by grind
 subst e1 e2 e3 e4
 clear hdx hdy hux huy
 have k1:(ux*dx+uy*dy)/(dx*dx+dy*dy)*dx=ux:=by grind
 have k2:(ux*dx+uy*dy)/(dx*dx+dy*dy)*dy=uy:=by grind
 generalize (ux*dx+uy*dy)/(dx*dx+dy*dy)=t at *
 have h3:t*(t - 1)*(dx*dx+dy*dy)≤0:=by
  have:t*(t - 1)*(dx*dx+dy*dy)=(ax - (ax+ux))*(ax+dx - (ax+ux))+(ay - (ay+uy))*(ay+dy - (ay+uy)):=by rw [← k1,← k2]; grind
  rw [this]; exact h2
 have h4:0≤t*(1 - t):=nn_of_mul (y:=dx*dx+dy*dy) (by grind) hN
 refine ⟨t,?_,?_,by grind,by grind⟩
 ·rcases Rat.le_total (a:=0) (b:=t) with h | h
  ·exact h
  by_cases e:t=0
  ·grind
  have:=Rat.mul_pos (a:=-t) (b:=1 - t) (by grind) (by grind)
  grind
 rcases Rat.le_total (a:=t) (b:=1) with h | h
 ·exact h
 by_cases e:t=1
 ·grind
 have:=Rat.mul_pos (a:=t) (b:=t - 1) (by grind) (by grind)
 grind
theorem cross_of_seg {ax ay bx bY cx cy dx dy x y:Rat} (hne:¬ (bx - ax=0∧bY - ay=0)) (h1:Seg ax ay bx bY x y) (h2:Seg cx cy dx dy x y):Cross ax ay bx bY cx cy dx dy:=by
 obtain ⟨t,t0,t1,rfl,rfl⟩:=h1
 obtain ⟨u,u0,u1,ex,ey⟩:=h2
 have hN:=sq2_pos hne
 obtain ⟨p,rfl⟩:∃ p,bx=ax+p:=⟨bx - ax,by grind⟩
 obtain ⟨q,rfl⟩:∃ q,bY=ay+q:=⟨bY - ay,by grind⟩
 obtain ⟨r,rfl⟩:∃ r,dx=cx+r:=⟨dx - cx,by grind⟩
 obtain ⟨s,rfl⟩:∃ s,dy=cy+s:=⟨dy - cy,by grind⟩
 have e1:ax+p - ax=p:=by grind
 have e2:ay+q - ay=q:=by grind
 have e3:cx+r - cx=r:=by grind
 have e4:cy+s - cy=s:=by grind
 rw [e1,e2] at hN
 have fx:cx=ax+t*p - u*r:=by grind
 have fy:cy=ay+t*q - u*s:=by grind
 clear ex ey
 subst fx fy
 have P:side ax ay (ax+p) (ay+q) (ax+t*p - u*r) (ay+t*q - u*s) = -(u*(p*s - q*r)):=by unfold side; grind
 have Q:side ax ay (ax+p) (ay+q) (ax+t*p - u*r+r) (ay+t*q - u*s+s)=(1 - u)*(p*s - q*r):=by unfold side; grind
 have R:side (ax+t*p - u*r) (ay+t*q - u*s) (ax+t*p - u*r+r) (ay+t*q - u*s+s) ax ay=t*(p*s - q*r):=by unfold side; grind
 have S:side (ax+t*p - u*r) (ay+t*q - u*s) (ax+t*p - u*r+r) (ay+t*q - u*s+s) (ax+p) (ay+q) = -((1 - t)*(p*s - q*r)):=by unfold side; grind
 have hp:0≤p*p+q*q:=Rat.le_of_lt hN
 have hr:0≤r*r+s*s:=by have:=hp_sq r; have:=hp_sq s; grind
 unfold Cross
 rw [P,Q,R,S]
 by_cases hu0:u=0
 ·refine .inr (.inl ⟨by rw [P,hu0]; grind,?_⟩)
  have m:=Rat.mul_nonneg (Rat.mul_nonneg t0 (b:=1 - t) (by grind)) hp
  subst hu0
  grind
 by_cases hu1:u=1
 ·refine .inr (.inr (.inl ⟨by rw [Q,hu1]; grind,?_⟩))
  have m:=Rat.mul_nonneg (Rat.mul_nonneg t0 (b:=1 - t) (by grind)) hp
  subst hu1
  grind
 by_cases ht0:t=0
 ·refine .inr (.inr (.inr (.inl ⟨by rw [R,ht0]; grind,?_⟩)))
  have m:=Rat.mul_nonneg (Rat.mul_nonneg u0 (b:=1 - u) (by grind)) hr
  subst ht0
  grind
 by_cases ht1:t=1
 ·refine .inr (.inr (.inr (.inr ⟨by rw [S,ht1]; grind,?_⟩)))
  have m:=Rat.mul_nonneg (Rat.mul_nonneg u0 (b:=1 - u) (by grind)) hr
  subst ht1
  grind
 have t0':0 < t:=by grind
 have t1':0 < 1 - t:=by grind
 have u0':0 < u:=by grind
 have u1':0 < 1 - u:=by grind
 by_cases hD:p*s - q*r=0
 rotate_left
 ·left
  have hD2:0 < (p*s - q*r)*(p*s - q*r):=by have:=hp_sq (p*s - q*r); have:(p*s - q*r)*(p*s - q*r)≠0:=fun h=>hD (by rcases Rat.mul_eq_zero.1 h with h | h<;>exact h); grind
  generalize p*s - q*r=D at *
  have m1:=Rat.mul_pos (Rat.mul_pos u0' u1') hD2
  have m2:=Rat.mul_pos (Rat.mul_pos t0' t1') hD2
  exact ⟨by grind,by grind⟩
 ·
  have hn:p*p+q*q≠0:=by grind
  have k1:(p*r+q*s)/(p*p+q*q)*p=r:=by grind
  have k2:(p*r+q*s)/(p*p+q*q)*q=s:=by grind
  generalize (p*r+q*s)/(p*p+q*q)=w at *
  subst k1 k2
  generalize hα:t - u*w=α at *
  have et:t=α+u*w:=by grind
  subst et
  have dot1:(ax - (ax+(α+u*w)*p - u*(w*p)))*(ax+p - (ax+(α+u*w)*p - u*(w*p)))+(ay - (ay+(α+u*w)*q - u*(w*q)))*(ay+q - (ay+(α+u*w)*q - u*(w*q))) = -(α*(1 - α)*(p*p+q*q)):=by grind
  have dot2:(ax - (ax+(α+u*w)*p - u*(w*p)+w*p))*(ax+p - (ax+(α+u*w)*p - u*(w*p)+w*p))+(ay - (ay+(α+u*w)*q - u*(w*q)+w*q))*(ay+q - (ay+(α+u*w)*q - u*(w*q)+w*q)) = -((α+w)*(1 - (α+w))*(p*p+q*q)):=by grind
  have dot3:(ax+(α+u*w)*p - u*(w*p) - ax)*(ax+(α+u*w)*p - u*(w*p)+w*p - ax)+(ay+(α+u*w)*q - u*(w*q) - ay)*(ay+(α+u*w)*q - u*(w*q)+w*q - ay)=α*(α+w)*(p*p+q*q):=by grind
  rcases Rat.le_total (a:=0) (b:=α) with a0 | a0
  ·rcases Rat.le_total (a:=α) (b:=1) with a1 | a1
   ·refine .inr (.inl ⟨by rw [P,hD]; grind,?_⟩)
    rw [dot1]
    have:=Rat.mul_nonneg (Rat.mul_nonneg a0 (b:=1 - α) (by grind)) hp
    grind
   ·
    rcases Rat.le_total (a:=0) (b:=α+w) with b0 | b0
    ·rcases Rat.le_total (a:=α+w) (b:=1) with b1 | b1
     ·refine .inr (.inr (.inl ⟨by rw [Q,hD]; grind,?_⟩))
      rw [dot2]
      have:=Rat.mul_nonneg (Rat.mul_nonneg b0 (b:=1 - (α+w)) (by grind)) hp
      grind
     exfalso
     have m1:=Rat.mul_nonneg (a:=1 - u) (b:=α - 1) (by grind) (by grind)
     have m2:=Rat.mul_nonneg (a:=u) (b:=α+w - 1) (by grind) (by grind)
     grind
    refine .inr (.inr (.inr (.inl ⟨by rw [R,hD]; grind,?_⟩)))
    rw [dot3]
    have:=Rat.mul_nonneg (Rat.mul_nonneg a0 (b:=-(α+w)) (by grind)) hp
    grind
  rcases Rat.le_total (a:=0) (b:=α+w) with b0 | b0
  ·refine .inr (.inr (.inr (.inl ⟨by rw [R,hD]; grind,?_⟩)))
   rw [dot3]
   have:=Rat.mul_nonneg (Rat.mul_nonneg (a:=-α) (b:=α+w) (by grind) b0) hp
   grind
  exfalso
  have m1:=Rat.mul_nonneg (a:=1 - u) (b:=-α) (by grind) (by grind)
  have m2:=Rat.mul_nonneg (a:=u) (b:=-(α+w)) (by grind) (by grind)
  grind
theorem seg_f {h:HP} {ax ay bx bY x y:Rat} (hs:Seg ax ay bx bY x y):∃ t,0≤t∧t≤1∧h.f x y=(1 - t)*h.f ax ay+t*h.f bx bY:=by
 obtain ⟨t,t0,t1,rfl,rfl⟩:=hs
 exact ⟨t,t0,t1,by unfold HP.f; grind⟩
theorem seg_nn {h:HP} {ax ay bx bY x y:Rat} (hs:Seg ax ay bx bY x y) (h1:0≤h.f ax ay) (h2:0≤h.f bx bY):0≤h.f x y:=by
 obtain ⟨t,t0,t1,e⟩:=seg_f (h:=h) hs
 have m1:=Rat.mul_nonneg (a:=1 - t) (b:=h.f ax ay) (by grind) h1
 have m2:=Rat.mul_nonneg t0 h2
 rw [e]; grind
theorem seg_neg {h:HP} {ax ay bx bY x y:Rat} (hs:Seg ax ay bx bY x y) (h1:h.f ax ay < 0) (h2:h.f bx bY < 0):h.f x y < 0:=by
 obtain ⟨t,t0,t1,e⟩:=seg_f (h:=h) hs
 by_cases ht:t=0
 ·subst ht; grind
 have m1:=Rat.mul_nonneg (a:=1 - t) (b:=-h.f ax ay) (by grind) (by grind)
 have m2:=Rat.mul_pos (a:=t) (b:=-h.f bx bY) (by grind) (by grind)
 rw [e]; grind
theorem not_cross {h:HP} {ax ay bx bY cx cy dx dy:Rat} (n1:¬ (bx - ax=0∧bY - ay=0)) (n2:¬ (dx - cx=0∧dy - cy=0)) (h1:0≤h.f ax ay) (h2:0≤h.f bx bY) (h3:h.f cx cy < 0) (h4:h.f dx dy < 0):¬ Cross ax ay bx bY cx cy dx dy:=by
 rintro (⟨c1,c2⟩ | c | c | c | c)
 ·have key:side ax ay bx bY dx dy*h.f cx cy - side ax ay bx bY cx cy*h.f dx dy=side cx cy dx dy ax ay*h.f bx bY - side cx cy dx dy bx bY*h.f ax ay:=by unfold side HP.f; grind
  have dif:side ax ay bx bY dx dy - side ax ay bx bY cx cy=side cx cy dx dy ax ay - side cx cy dx dy bx bY:=by unfold side; grind
  generalize side ax ay bx bY cx cy=P at *
  generalize side ax ay bx bY dx dy=Q at *
  generalize side cx cy dx dy ax ay=R at *
  generalize side cx cy dx dy bx bY=S at *
  generalize h.f ax ay=fa at *
  generalize h.f bx bY=fb at *
  generalize h.f cx cy=fc at *
  generalize h.f dx dy=fd at *
  have split:∀ x y:Rat,x*y < 0→(0 < x∧y < 0)∨(x < 0∧0 < y):=by
   intro x y hxy
   rcases Rat.le_total (a:=0) (b:=x) with h | h
   ·rcases Rat.le_total (a:=0) (b:=y) with h' | h'
    ·have:=Rat.mul_nonneg h h'; grind
    left
    constructor
    ·by_cases e:x=0
     ·subst e; grind
     grind
    by_cases e:y=0
    ·subst e; grind
    grind
   rcases Rat.le_total (a:=0) (b:=y) with h' | h'
   ·right
    constructor
    ·by_cases e:x=0
     ·subst e; grind
     grind
    by_cases e:y=0
    ·subst e; grind
    grind
   have:=Rat.mul_nonneg (a:=-x) (b:=-y) (by grind) (by grind); grind
  rcases split _ _ c1 with ⟨p1,p2⟩ | ⟨p1,p2⟩
  ·rcases split _ _ c2 with ⟨q1,q2⟩ | ⟨q1,q2⟩
   ·grind
   have m1:=Rat.mul_pos (a:=-Q) (b:=-fc) (by grind) (by grind)
   have m2:=Rat.mul_pos (a:=P) (b:=-fd) (by grind) (by grind)
   have m3:=Rat.mul_nonneg (a:=-R) (b:=fb) (by grind) (by grind)
   have m4:=Rat.mul_nonneg (a:=S) (b:=fa) (by grind) (by grind)
   grind
  rcases split _ _ c2 with ⟨q1,q2⟩ | ⟨q1,q2⟩
  ·have m1:=Rat.mul_pos (a:=Q) (b:=-fc) (by grind) (by grind)
   have m2:=Rat.mul_pos (a:=-P) (b:=-fd) (by grind) (by grind)
   have m3:=Rat.mul_nonneg (a:=R) (b:=fb) (by grind) (by grind)
   have m4:=Rat.mul_nonneg (a:=-S) (b:=fa) (by grind) (by grind)
   grind
  grind
 ·have:=seg_nn (seg_of_on n1 c) h1 h2; grind
 ·have:=seg_nn (seg_of_on n1 c) h1 h2; grind
 ·have:=seg_neg (seg_of_on n2 c) h3 h4; grind
 have:=seg_neg (seg_of_on n2 c) h3 h4; grind
section
variable {X Y X' Y':Nat→Rat} {n m:Nat}
def eh (X Y:Nat→Rat) (n i:Nat):HP:=⟨-(Y ((i+1)%n) - Y i),X ((i+1)%n) - X i,(Y ((i+1)%n) - Y i)*X i - (X ((i+1)%n) - X i)*Y i⟩
theorem eh_f (i:Nat) (x y:Rat):(eh X Y n i).f x y=sp X Y i ((i+1)%n) x y:=by unfold eh HP.f sp; grind
def Beyond (X Y:Nat→Rat) (n:Nat) (X' Y':Nat→Rat) (m:Nat):Prop:=∃ i,i < n ∧ ∀ k,k < m→sp X Y i ((i+1)%n) (X' k) (Y' k) < 0
def Touch (X Y:Nat→Rat) (n:Nat) (X' Y':Nat→Rat) (m:Nat):Prop :=
 FanIn X Y n (X' 0) (Y' 0)∨FanIn X' Y' m (X 0) (Y 0) ∨ ∃ i,i < n ∧ ∃ k,k < m∧Cross (X i) (Y i) (X ((i+1)%n)) (Y ((i+1)%n)) (X' k) (Y' k) (X' ((k+1)%m)) (Y' ((k+1)%m))
theorem in_all {c:HP} (h:∃ i,i < n∧c=eh X Y n i) {x y:Rat} (hE:EdgeIn X Y n x y):0≤c.f x y:=by
 obtain ⟨i,hi,rfl⟩:=h
 rw [eh_f]
 exact hE i hi
theorem corner_in (h3:3≤n) (h:RingOk X Y n) {i:Nat} (hi:i < n):EdgeIn X Y n (X i) (Y i):=fun k hk=>edge_nn h3 h hk hi
theorem edge_ne (h3:3≤n) (h:RingOk X Y n) {i:Nat} (hi:i < n):¬ (X ((i+1)%n) - X i=0∧Y ((i+1)%n) - Y i=0):=by
 rintro ⟨z1,z2⟩
 have:=prg_of_ring h3 h i 2 hi (by omega) (by omega)
 unfold sd at this
 rw [z1,z2] at this
 grind
theorem apart_common (h3:3≤n) (h:RingOk X Y n) (k3:3≤m) (k:RingOk X' Y' m) (h1:¬ Beyond X Y n X' Y' m) (h2:¬ Beyond X' Y' m X Y n):∃ x y,EdgeIn X Y n x y∧EdgeIn X' Y' m x y:=by
 have g1:∀ i,i < n → ∃ k,k < m∧0≤sp X Y i ((i+1)%n) (X' k) (Y' k):=by
  intro i hi
  apply Classical.byContradiction
  intro hc
  exact h1 ⟨i,hi,fun k hk=>by
   apply Classical.byContradiction
   intro hl
   exact hc ⟨k,hk,by grind⟩⟩
 have g2:∀ i,i < m → ∃ k,k < n∧0≤sp X' Y' i ((i+1)%m) (X k) (Y k):=by
  intro i hi
  apply Classical.byContradiction
  intro hc
  exact h2 ⟨i,hi,fun k hk=>by
   apply Classical.byContradiction
   intro hl
   exact hc ⟨k,hk,by grind⟩⟩
 have cls:∀ c∈(List.range n).map (eh X Y n)++(List.range m).map (eh X' Y' m),((∃ i,i < n∧c=eh X Y n i) ∧ ∃ k,k < m∧0≤c.f (X' k) (Y' k))∨((∃ i,i < m∧c=eh X' Y' m i) ∧ ∃ k,k < n∧0≤c.f (X k) (Y k)):=by
  intro c hc
  rcases List.mem_append.1 hc with hc | hc
  ·obtain ⟨i,hi,rfl⟩:=List.mem_map.1 hc
   have hi:=List.mem_range.1 hi
   obtain ⟨k,hk,hs⟩:=g1 i hi
   exact .inl ⟨⟨i,hi,rfl⟩,k,hk,by rw [eh_f]; exact hs⟩
  obtain ⟨i,hi,rfl⟩:=List.mem_map.1 hc
  have hi:=List.mem_range.1 hi
  obtain ⟨k,hk,hs⟩:=g2 i hi
  exact .inr ⟨⟨i,hi,rfl⟩,k,hk,by rw [eh_f]; exact hs⟩
 obtain ⟨x,y,hxy⟩:=helly2 ((List.range n).map (eh X Y n)++(List.range m).map (eh X' Y' m)) (by
  intro a ha b hb c hc
  have inA:∀ {i:Nat},i < n→EdgeIn X Y n (X i) (Y i):=fun hi=>corner_in h3 h hi
  have inB:∀ {i:Nat},i < m→EdgeIn X' Y' m (X' i) (Y' i):=fun hi=>corner_in k3 k hi
  rcases cls a ha with ⟨a1,a2,a3,a4⟩ | ⟨a1,a2,a3,a4⟩<;>rcases cls b hb with ⟨b1,b2,b3,b4⟩ | ⟨b1,b2,b3,b4⟩<;>rcases cls c hc with ⟨c1,c2,c3,c4⟩ | ⟨c1,c2,c3,c4⟩
  ·exact ⟨_,_,in_all a1 (inA (show 0 < n by omega)),in_all b1 (inA (show 0 < n by omega)),in_all c1 (inA (show 0 < n by omega))⟩
  ·exact ⟨_,_,in_all a1 (inA c3),in_all b1 (inA c3),c4⟩
  ·exact ⟨_,_,in_all a1 (inA b3),b4,in_all c1 (inA b3)⟩
  ·exact ⟨_,_,a4,in_all b1 (inB a3),in_all c1 (inB a3)⟩
  ·exact ⟨_,_,a4,in_all b1 (inA a3),in_all c1 (inA a3)⟩
  ·exact ⟨_,_,in_all a1 (inB b3),b4,in_all c1 (inB b3)⟩
  ·exact ⟨_,_,in_all a1 (inB c3),in_all b1 (inB c3),c4⟩
  exact ⟨_,_,in_all a1 (inB (show 0 < m by omega)),in_all b1 (inB (show 0 < m by omega)),in_all c1 (inB (show 0 < m by omega))⟩)
 refine ⟨x,y,fun i hi=>?_,fun i hi=>?_⟩
 ·rw [← eh_f]
  exact hxy _ (List.mem_append_left _ (List.mem_map.2 ⟨i,List.mem_range.2 hi,rfl⟩))
 rw [← eh_f]
 exact hxy _ (List.mem_append_right _ (List.mem_map.2 ⟨i,List.mem_range.2 hi,rfl⟩))
theorem on_edge (h3:3≤n) (h:RingOk X Y n) {x y:Rat} (hE:EdgeIn X Y n x y) {i:Nat} (hi:i < n) (h0:sp X Y i ((i+1)%n) x y=0):Seg (X i) (Y i) (X ((i+1)%n)) (Y ((i+1)%n)) x y:=by
 have hp:=prg_of_ring h3 h
 have hne:=edge_ne h3 h hi
 have hN:=sq2_pos hne
 have hj:(i+1)%n < n:=Nat.mod_lt _ (by omega)
 have hl:(i+n - 1)%n < n:=Nat.mod_lt _ (by omega)
 have el:((i+n - 1)%n+1)%n=i:=by
  rw [Nat.mod_add_mod,show i+n - 1+1=i+n by omega,Nat.add_mod_right,Nat.mod_eq_of_lt hi]
 have el2:((i+n - 1)%n+2)%n=(i+1)%n:=by
  rw [Nat.mod_add_mod,show i+n - 1+2=i+1+n by omega,Nat.add_mod_right]
 have ej2:((i+1)%n+(n - 1))%n=i:=by
  rw [Nat.mod_add_mod,show i+1+(n - 1)=i+n by omega,Nat.add_mod_right,Nat.mod_eq_of_lt hi]
 have A1:=hp ((i+n - 1)%n) 2 hl (by omega) (by omega)
 rw [el,el2] at A1
 have A2:=hp ((i+1)%n) (n - 1) hj (by omega) (by omega)
 rw [ej2] at A2
 have B1:=hE _ hl
 rw [el] at B1
 have B2:=hE _ hj
 generalize (i+n - 1)%n=l at *
 generalize ((i+1)%n+1)%n=j2 at *
 generalize (i+1)%n=j at *
 unfold sd at A1 A2
 unfold sp at B1 B2 h0
 have hn:(X j - X i)*(X j - X i)+(Y j - Y i)*(Y j - Y i)≠0:=by grind
 generalize hdx:X j - X i=dx at *
 generalize hdy:Y j - Y i=dy at *
 have k1:((x - X i)*dx+(y - Y i)*dy)/(dx*dx+dy*dy)*dx=x - X i:=by grind
 have k2:((x - X i)*dx+(y - Y i)*dy)/(dx*dx+dy*dy)*dy=y - Y i:=by grind
 generalize ((x - X i)*dx+(y - Y i)*dy)/(dx*dx+dy*dy)=t at *
 have ex:x=X i+t*dx:=by grind
 have ey:y=Y i+t*dy:=by grind
 have exj:X j=X i+dx:=by grind
 have eyj:Y j=Y i+dy:=by grind
 refine ⟨t,?_,?_,?_,?_⟩
 ·refine nn_of_mul ?_ A1
  rw [ex,ey] at B1
  rw [exj,eyj]
  grind
 ·have : 0 ≤ 1 - t := by
   refine nn_of_mul ?_ A2
   rw [ex,ey,exj,eyj] at B2
   rw [exj,eyj]
   grind
  grind
 ·rw [hdx]; exact ex
 rw [hdy]; exact ey
theorem poly_leave (h3:3≤n) (h:RingOk X Y n) {ux uy wx wy:Rat} (hu:EdgeIn X Y n ux uy) (hw:¬ EdgeIn X Y n wx wy):∃ x y,Seg ux uy wx wy x y∧EdgeIn X Y n x y ∧ ∃ i,i < n∧Seg (X i) (Y i) (X ((i+1)%n)) (Y ((i+1)%n)) x y:=by
 obtain ⟨t,t0,t1,ta,z,hz,ze⟩:=exit1 ((List.range n).map fun i=>(sp X Y i ((i+1)%n) ux uy,sp X Y i ((i+1)%n) wx wy)) (by
  intro a ha
  obtain ⟨i,hi,rfl⟩:=List.mem_map.1 ha
  exact hu i (List.mem_range.1 hi)) (by
  apply Classical.byContradiction
  intro hc
  apply hw
  intro i hi
  apply Classical.byContradiction
  intro hl
  exact hc ⟨_,List.mem_map.2 ⟨i,List.mem_range.2 hi,rfl⟩,by show sp X Y i ((i+1)%n) wx wy < 0; grind⟩)
 have key:∀ i,sp X Y i ((i+1)%n) ux uy+t*(sp X Y i ((i+1)%n) wx wy - sp X Y i ((i+1)%n) ux uy)=sp X Y i ((i+1)%n) (ux+t*(wx - ux)) (uy+t*(wy - uy)):=by
  intro i
  unfold sp
  grind
 have hin:EdgeIn X Y n (ux+t*(wx - ux)) (uy+t*(wy - uy)):=by
  intro i hi
  rw [← key]
  exact ta _ (List.mem_map.2 ⟨i,List.mem_range.2 hi,rfl⟩)
 obtain ⟨i,hi,rfl⟩:=List.mem_map.1 hz
 have hi:=List.mem_range.1 hi
 exact ⟨_,_,⟨t,t0,t1,rfl,rfl⟩,hin,i,hi,on_edge h3 h hin hi (by rw [← key]; exact ze)⟩
theorem in_seg {ux uy wx wy x y:Rat} (hs:Seg ux uy wx wy x y) (h1:EdgeIn X Y n ux uy) (h2:EdgeIn X Y n wx wy):EdgeIn X Y n x y:=by
 intro i hi
 rw [← eh_f]
 exact seg_nn hs (by rw [eh_f]; exact h1 i hi) (by rw [eh_f]; exact h2 i hi)
theorem seg_in {ax ay bx bY ux uy x y:Rat} (h1:Seg ax ay bx bY ux uy) (h2:Seg ux uy ax ay x y):Seg ax ay bx bY x y:=by
 obtain ⟨t,t0,t1,rfl,rfl⟩:=h1
 obtain ⟨s,s0,s1,rfl,rfl⟩:=h2
 have m1:=Rat.mul_nonneg t0 (b:=1 - s) (by grind)
 have m2:=Rat.mul_nonneg (a:=1 - t) (b:=1 - s) (by grind) (by grind)
 exact ⟨t*(1 - s),m1,by grind,by grind,by grind⟩
theorem edges_meet (h3:3≤n) (h:RingOk X Y n) (k3:3≤m) (k:RingOk X' Y' m) (h0:¬ EdgeIn X' Y' m (X 0) (Y 0)):∀ (i:Nat) {ux uy:Rat},i < n→EdgeIn X' Y' m ux uy→Seg (X i) (Y i) (X ((i+1)%n)) (Y ((i+1)%n)) ux uy →
 ∃ i,i < n ∧ ∃ k,k < m∧Cross (X i) (Y i) (X ((i+1)%n)) (Y ((i+1)%n)) (X' k) (Y' k) (X' ((k+1)%m)) (Y' ((k+1)%m)):=by
 intro i
 induction i with
 | zero =>
   intro ux uy hi hu hs
   obtain ⟨x,y,s1,_,l,hl,s2⟩:=poly_leave k3 k hu h0
   exact ⟨0,hi,l,hl,cross_of_seg (edge_ne h3 h hi) (seg_in hs s1) s2⟩
 | succ i ih =>
   intro ux uy hi hu hs
   by_cases hc:EdgeIn X' Y' m (X (i+1)) (Y (i+1))
   ·refine ih (by omega) hc ⟨1,by grind,by grind,?_,?_⟩
    ·rw [Nat.mod_eq_of_lt hi]; grind
    rw [Nat.mod_eq_of_lt hi]; grind
   obtain ⟨x,y,s1,_,l,hl,s2⟩:=poly_leave k3 k hu hc
   exact ⟨i+1,hi,l,hl,cross_of_seg (edge_ne h3 h hi) (seg_in hs s1) s2⟩
theorem cross_comm {ax ay bx bY cx cy dx dy:Rat} (h:Cross ax ay bx bY cx cy dx dy):Cross cx cy dx dy ax ay bx bY:=by
 rcases h with ⟨h1,h2⟩ | h | h | h | h
 ·exact .inl ⟨h2,h1⟩
 ·exact .inr (.inr (.inr (.inl h)))
 ·exact .inr (.inr (.inr (.inr h)))
 ·exact .inr (.inl h)
 exact .inr (.inr (.inl h))
theorem touch_comm (h:Touch X Y n X' Y' m):Touch X' Y' m X Y n:=by
 rcases h with h | h | ⟨i,hi,k,hk,h⟩
 ·exact .inr (.inl h)
 ·exact .inl h
 exact .inr (.inr ⟨k,hk,i,hi,cross_comm h⟩)
theorem not_touch (h3:3≤n) (h:RingOk X Y n) (k3:3≤m) (k:RingOk X' Y' m) (hb:Beyond X Y n X' Y' m):¬ Touch X Y n X' Y' m:=by
 obtain ⟨i,hi,hb⟩:=hb
 have fa:∀ j,j < n→0≤(eh X Y n i).f (X j) (Y j):=fun j hj=>by rw [eh_f]; exact edge_nn h3 h hi hj
 have fb:∀ j,j < m→(eh X Y n i).f (X' j) (Y' j) < 0:=fun j hj=>by rw [eh_f]; exact hb j hj
 rintro (c | ⟨j,j2,jm,c1,c2,c3⟩ | ⟨j,hj,l,hl,c⟩)
 ·have:=edge_of_fan h3 h c i hi
  have:=hb 0 (by omega)
  grind
 ·have t:0 < sd X' Y' 0 (j - 1) j:=k j (j - 1) 0 jm (by omega) (by omega)
  have g0:=fb 0 (by omega)
  have g1:=fb (j - 1) (by omega)
  have g2:=fb j jm
  have gz:=fa 0 (by omega)
  have e:sd X' Y' 0 (j - 1) j*(eh X Y n i).f (X 0) (Y 0)=sp X' Y' (j - 1) j (X 0) (Y 0)*(eh X Y n i).f (X' 0) (Y' 0)+sp X' Y' j 0 (X 0) (Y 0)*(eh X Y n i).f (X' (j - 1)) (Y' (j - 1))+sp X' Y' 0 (j - 1) (X 0) (Y 0)*(eh X Y n i).f (X' j) (Y' j):=by
   unfold sd sp HP.f; grind
  have es:sp X' Y' (j - 1) j (X 0) (Y 0)+sp X' Y' j 0 (X 0) (Y 0)+sp X' Y' 0 (j - 1) (X 0) (Y 0)=sd X' Y' 0 (j - 1) j:=by unfold sd sp; grind
  generalize (eh X Y n i).f (X 0) (Y 0)=F at *
  generalize (eh X Y n i).f (X' 0) (Y' 0)=F0 at *
  generalize (eh X Y n i).f (X' (j - 1)) (Y' (j - 1))=F1 at *
  generalize (eh X Y n i).f (X' j) (Y' j)=F2 at *
  generalize sp X' Y' (j - 1) j (X 0) (Y 0)=w0 at *
  generalize sp X' Y' j 0 (X 0) (Y 0)=w1 at *
  generalize sp X' Y' 0 (j - 1) (X 0) (Y 0)=w2 at *
  have m0:=Rat.mul_nonneg c2 (b:=-F0) (by grind)
  have m1:=Rat.mul_nonneg c3 (b:=-F1) (by grind)
  have m2:=Rat.mul_nonneg c1 (b:=-F2) (by grind)
  have mz:=Rat.mul_nonneg (Rat.le_of_lt t) gz
  have z0:w0*F0=0:=by grind
  have z1:w1*F1=0:=by grind
  have z2:w2*F2=0:=by grind
  have y0:w0=0:=by rcases Rat.mul_eq_zero.1 z0 with h | h; exact h; grind
  have y1:w1=0:=by rcases Rat.mul_eq_zero.1 z1 with h | h; exact h; grind
  have y2:w2=0:=by rcases Rat.mul_eq_zero.1 z2 with h | h; exact h; grind
  grind
 exact not_cross (edge_ne h3 h hj) (edge_ne k3 k hl) (fa j hj) (fa _ (Nat.mod_lt _ (by omega))) (fb l hl) (fb _ (Nat.mod_lt _ (by omega))) c
theorem touch_iff (h3:3≤n) (h:RingOk X Y n) (k3:3≤m) (k:RingOk X' Y' m):Touch X Y n X' Y' m ↔ ¬ Beyond X Y n X' Y' m ∧ ¬ Beyond X' Y' m X Y n:=by
 refine ⟨fun ht=>⟨fun hb=>not_touch h3 h k3 k hb ht,fun hb=>not_touch k3 k h3 h hb (touch_comm ht)⟩,fun ⟨h1,h2⟩=>?_⟩
 obtain ⟨zx,zy,za,zb⟩:=apart_common h3 h k3 k h1 h2
 by_cases c1:EdgeIn X Y n (X' 0) (Y' 0)
 ·exact .inl ((inner_iff h3 h).1 c1)
 by_cases c2:EdgeIn X' Y' m (X 0) (Y 0)
 ·exact .inr (.inl ((inner_iff k3 k).1 c2))
 obtain ⟨ux,uy,s1,u1,i,hi,s2⟩:=poly_leave h3 h za c1
 exact .inr (.inr (edges_meet h3 h k3 k c2 i hi (in_seg s1 zb (corner_in k3 k (by omega))) s2))
theorem axis_of {i:Nat} (h3:3≤n) (h:RingOk X Y n) (hi:i < n) (hb:∀ k,k < m→sp X Y i ((i+1)%n) (X' k) (Y' k) < 0) {j k:Nat} (hj:j < n) (hk:k < m) :
 (Y ((i+1)%n) - Y i)*X j + -(X ((i+1)%n) - X i)*Y j < (Y ((i+1)%n) - Y i)*X' k + -(X ((i+1)%n) - X i)*Y' k:=by
 have h1:=edge_nn h3 h hi hj
 have h2:=hb k hk
 unfold sd at h1
 unfold sp at h2
 grind
end
def tedge (px py ax ay bx bY:Rat):Rat :=
 if (px - ax)*(bx - ax)+(py - ay)*(bY - ay)≤0 then (px - ax)*(px - ax)+(py - ay)*(py - ay)
 else if (bx - ax)*(bx - ax)+(bY - ay)*(bY - ay)≤(px - ax)*(bx - ax)+(py - ay)*(bY - ay) then (px - bx)*(px - bx)+(py - bY)*(py - bY)
 else ((bx - ax)*(py - ay) - (bY - ay)*(px - ax))*((bx - ax)*(py - ay) - (bY - ay)*(px - ax))/((bx - ax)*(bx - ax)+(bY - ay)*(bY - ay))
def clamp01 (t:Rat):Rat:=if 1 < (if t < 0 then 0 else t) then 1 else if t < 0 then 0 else t
def reachV (px py ax ay bx bY:Rat):Rat :=
 let t:=clamp01 (((px - ax)*(bx - ax)+(py - ay)*(bY - ay))/((bx - ax)*(bx - ax)+(bY - ay)*(bY - ay)))
 (ax+t*(bx - ax) - px)*(ax+t*(bx - ax) - px)+(ay+t*(bY - ay) - py)*(ay+t*(bY - ay) - py)
theorem tedge_reach {px py ax ay bx bY:Rat} (hne:¬ (bx - ax=0∧bY - ay=0)):tedge px py ax ay bx bY=reachV px py ax ay bx bY:=by
 have hN:=sq2_pos hne
 unfold tedge reachV
 obtain ⟨p,rfl⟩:∃ p,bx=ax+p:=⟨bx - ax,by grind⟩
 obtain ⟨q,rfl⟩:∃ q,bY=ay+q:=⟨bY - ay,by grind⟩
 obtain ⟨u,rfl⟩:∃ u,px=ax+u:=⟨px - ax,by grind⟩
 obtain ⟨v,rfl⟩:∃ v,py=ay+v:=⟨py - ay,by grind⟩
 have e1:ax+p - ax=p:=by grind
 have e2:ay+q - ay=q:=by grind
 have e3:ax+u - ax=u:=by grind
 have e4:ay+v - ay=v:=by grind
 simp only [e1,e2,e3,e4] at *
 have hn:p*p+q*q≠0:=by grind
 have et:(u*p+v*q)/(p*p+q*q)*(p*p+q*q)=u*p+v*q:=by grind
 generalize (u*p+v*q)/(p*p+q*q)=t at *
 by_cases h1:u*p+v*q≤0
 ·rw [if_pos h1]
  have ht:t≤0:=by
   have:0 ≤ -t:=nn_of_mul (y:=p*p+q*q) (by grind) hN
   grind
  have hp:clamp01 t=0:=by
   unfold clamp01
   by_cases h0:t < 0
   ·simp only [if_pos h0]; rw [if_neg (by grind)]
   simp only [if_neg h0]; rw [if_neg (by grind)]; grind
  rw [hp]
  grind
 rw [if_neg h1]
 have ht:0 < t:=pos_of_mul (y:=p*p+q*q) (by grind) hN
 by_cases h2:p*p+q*q≤u*p+v*q
 ·rw [if_pos h2]
  have ht1:1≤t:=by
   have:0≤t - 1:=nn_of_mul (y:=p*p+q*q) (by grind) hN
   grind
  have hp:clamp01 t=1:=by
   unfold clamp01
   simp only [if_neg (show ¬ t < 0 by grind)]
   by_cases h0:1 < t
   ·rw [if_pos h0]
   rw [if_neg h0]; grind
  rw [hp]
  grind
 rw [if_neg h2]
 have ht1:¬ 1 < t:=by
  intro hl
  have:=Rat.mul_pos (a:=t - 1) (b:=p*p+q*q) (by grind) hN
  grind
 have hp:clamp01 t=t:=by
  unfold clamp01
  simp only [if_neg (show ¬ t < 0 by grind)]
  rw [if_neg ht1]
 rw [hp]
 have ek:(p*v - q*u)*(p*v - q*u)/(p*p+q*q)*(p*p+q*q)=(p*v - q*u)*(p*v - q*u):=by grind
 generalize (p*v - q*u)*(p*v - q*u)/(p*p+q*q)=w at *
 have:(w - ((ax+t*p - (ax+u))*(ax+t*p - (ax+u))+(ay+t*q - (ay+v))*(ay+t*q - (ay+v))))*(p*p+q*q)=0:=by grind
 rcases Rat.mul_eq_zero.1 this with h | h
 ·grind
 exact absurd h hn
def IsMin (S:Rat→Prop) (m:Rat):Prop:=S m ∧ ∀ x,S x→m≤x
theorem isMin_eq {S:Rat→Prop} {a b:Rat} (h1:IsMin S a) (h2:IsMin S b):a=b:=by
 have:=h1.2 b h2.1
 have:=h2.2 a h1.1
 grind
def mnF (f:Nat→Rat) (b:Rat):Nat→Rat
 | 0=>b
 | i+1=>if mnF f b i≤f i then mnF f b i else f i
theorem mnF_min {f:Nat→Rat} {b:Rat} {S:Rat→Prop} (h:IsMin S b):∀ i,IsMin (fun x=>S x ∨ ∃ k,k < i∧x=f k) (mnF f b i)
 | 0=>⟨.inl h.1,fun x hx=>by
   rcases hx with hx | ⟨k,hk,_⟩
   ·exact h.2 x hx
   omega⟩
 | i+1=>by
   obtain ⟨h1,h2⟩:=mnF_min (f:=f) h i
   unfold mnF
   split
   ·rename_i hle
    refine ⟨?_,fun x hx=>?_⟩
    ·rcases h1 with h1 | ⟨k,hk,e⟩
     ·exact .inl h1
     exact .inr ⟨k,by omega,e⟩
    rcases hx with hx | ⟨k,hk,e⟩
    ·exact h2 x (.inl hx)
    by_cases hki:k=i
    ·subst hki; rw [e]; exact hle
    exact h2 x (.inr ⟨k,by omega,e⟩)
   rename_i hle
   refine ⟨.inr ⟨i,by omega,rfl⟩,fun x hx=>?_⟩
   rcases hx with hx | ⟨k,hk,e⟩
   ·have:=h2 x (.inl hx); grind
   by_cases hki:k=i
   ·subst hki; rw [e]; exact Rat.le_refl
   have:=h2 x (.inr ⟨k,by omega,e⟩); grind
theorem isMin_congr {S S':Rat→Prop} {m:Rat} (h:IsMin S m) (e:∀ x,S x↔S' x):IsMin S' m:=⟨(e m).1 h.1,fun x hx=>h.2 x ((e x).2 hx)⟩
theorem isMin_join {S:Rat→Prop} {T:Nat→Rat→Prop} {f:Nat→Rat} {n:Nat} {m:Rat} (h:IsMin (fun x=>S x ∨ ∃ k,k < n∧x=f k) m) (ht:∀ k,k < n→IsMin (T k) (f k)):IsMin (fun x=>S x ∨ ∃ k,k < n∧T k x) m:=by
 refine ⟨?_,fun x hx=>?_⟩
 ·rcases h.1 with h1 | ⟨k,hk,e⟩
  ·exact .inl h1
  exact .inr ⟨k,hk,by rw [e]; exact (ht k hk).1⟩
 rcases hx with hx | ⟨k,hk,hx⟩
 ·exact h.2 x (.inl hx)
 have h1:=(ht k hk).2 x hx
 have h2:=h.2 (f k) (.inr ⟨k,hk,rfl⟩)
 grind
theorem row_min {f:Nat→Rat} {n:Nat} (hn:0 < n):IsMin (fun x=>∃ k,k < n∧x=f k) (mnF f (f 0) n):=by
 refine isMin_congr (mnF_min (S:=fun x=>x=f 0) (f:=f) ⟨rfl,fun x hx=>by rw [hx]; exact Rat.le_refl⟩ n) fun x=>⟨fun h=>?_,fun h=>.inr h⟩
 rcases h with h | h
 ·exact ⟨0,hn,h⟩
 exact h
theorem tab_min {tA tB:Nat→Nat→Rat} {n m:Nat} (hn:0 < n) (hm:0 < m) :
 IsMin (fun x=>∃ i,i < n ∧ ∃ k,k < m∧(x=tA i k∨x=tB k i))
  (mnF (fun k=>mnF (tB k) (tB k 0) n) (mnF (fun i=>mnF (tA i) (tA i 0) m) (mnF (tA 0) (tA 0 0) m) n) m):=by
 have h1:=row_min (f:=fun i=>mnF (tA i) (tA i 0) m) hn
 have h2:=isMin_join (S:=fun _=>False) (T:=fun i x=>∃ k,k < m∧x=tA i k) (isMin_congr h1 fun x=>⟨.inr,fun h=>h.elim False.elim id⟩) fun i _=>row_min hm
 have h3:=isMin_join (mnF_min (f:=fun k=>mnF (tB k) (tB k 0) n) h2 m) (T:=fun k x=>∃ i,i < n∧x=tB k i) fun k _=>row_min hn
 refine isMin_congr h3 fun x=>⟨fun h=>?_,fun h=>?_⟩
 ·rcases h with (h | ⟨i,hi,k,hk,e⟩) | ⟨k,hk,i,hi,e⟩
  ·exact h.elim
  ·exact ⟨i,hi,k,hk,.inl e⟩
  exact ⟨i,hi,k,hk,.inr e⟩
 obtain ⟨i,hi,k,hk,e | e⟩:=h
 ·exact .inl (.inr ⟨i,hi,k,hk,e⟩)
 exact .inr ⟨k,hk,i,hi,e⟩
end Go.Proofs.YtjefpjajkbldpaaDoor.G
end
section
namespace Go.Proofs.YtjefpjajkbldpaaDoor.G
open Go.Proofs.YtjefpjajkbldpaaDoor.U Go.RowKit
theorem ter1 {n1:Bool} {a1 b1:ByteArray} {x1:Rat} {K1:Nat}{n2:Bool} {a2 b2:ByteArray} {x2:Rat} {K2:Nat}{n3:Bool} {a3 b3:ByteArray} {x3:Rat} {K3:Nat}{n4:Bool} {a4 b4:ByteArray} {x4:Rat} {K4:Nat}{n5:Bool} {a5 b5:ByteArray} {x5:Rat} {K5:Nat}{n6:Bool} {a6 b6:ByteArray} {x6:Rat} {K6:Nat} (h1':IsR n1 a1 b1 x1 K1) (k1:K1≤10000000) (h2':IsR n2 a2 b2 x2 K2) (k2:K2≤10000000) (h3':IsR n3 a3 b3 x3 K3) (k3:K3≤10000000) (h4':IsR n4 a4 b4 x4 K4) (k4:K4≤10000000) (h5':IsR n5 a5 b5 x5 K5) (k5:K5≤10000000) (h6':IsR n6 a6 b6 x6 K6) (k6:K6≤10000000) (h12:decide (Int.sign (Rat.num ((x1 - x3)*(x5 - x3)+(x2 - x4)*(x6 - x4)))≤(0:Int))=true):CSpec Tryd.prog 42 #[(ag [rr n1 a1 b1,rr n2 a2 b2]),(ag [rr n3 a3 b3,rr n4 a4 b4]),(ag [rr n5 a5 b5,rr n6 a6 b6])] (Rv ((x1 - x3)*(x1 - x3)+(x2 - x4)*(x2 - x4))):=by
 have s0:=(sub_s (szr h1') (szr h3'))
 have s1:=(isR_s s0)
 have s2:=(sub_s (szr h2') (szr h4'))
 have s3:=(isR_s s2)
 have s4:=(sub_s (szr h5') (szr h3'))
 have s5:=(isR_s s4)
 have s6:=(sub_s (szr h6') (szr h4'))
 have s7:=(isR_s s6)
 have s8:=(mul_s s0 s4)
 have s9:=(mul_s s2 s6)
 have s10:=(add_s s8 s9)
 have s11:=(isR_s s10)
 exact fn_ok Tryd.func42 (sc:=[(1,2,.fix (ag [rc (x5 - x3),rc (x6 - x4)])),(1,5,.fix (ag [rc (x1 - x3),rc (x2 - x4)])),(2,2,.fix (Rv ((x1 - x3)*(x5 - x3)+(x2 - x4)*(x6 - x4)))),(3,2,.fix (Rv ((x5 - x3)*(x5 - x3)+(x6 - x4)*(x6 - x4)))),(4,1,.fix (.int .i64 (Int.sign (Rat.num ((x1 - x3)*(x5 - x3)+(x2 - x4)*(x6 - x4)))))),(4,2,.is (.c (.bool true))),(5,2,.fix (Rv ((x1 - x3)*(x1 - x3)+(x2 - x4)*(x2 - x4))))]) (sb:=[]) (by kernel_rfl) (hC (vsub_k h5' (by omega) h6' (by omega) h3' (by omega) h4' (by omega)) (hC (vsub_k h1' (by omega) h2' (by omega) h3' (by omega) h4' (by omega)) (hC (vdot_k s1 (by omega) s3 (by omega) s5 (by omega) s7 (by omega)) (hC (vdot_k s5 (by omega) s7 (by omega) s5 (by omega) s7 (by omega)) (hC (sign_k s11 (by omega)) (hP (isB h12) (hC (vdot_k s1 (by omega) s3 (by omega) s1 (by omega) s3 (by omega)) hN)))))))
theorem ter2 {n1:Bool} {a1 b1:ByteArray} {x1:Rat} {K1:Nat}{n2:Bool} {a2 b2:ByteArray} {x2:Rat} {K2:Nat}{n3:Bool} {a3 b3:ByteArray} {x3:Rat} {K3:Nat}{n4:Bool} {a4 b4:ByteArray} {x4:Rat} {K4:Nat}{n5:Bool} {a5 b5:ByteArray} {x5:Rat} {K5:Nat}{n6:Bool} {a6 b6:ByteArray} {x6:Rat} {K6:Nat} (h1':IsR n1 a1 b1 x1 K1) (k1:K1≤10000000) (h2':IsR n2 a2 b2 x2 K2) (k2:K2≤10000000) (h3':IsR n3 a3 b3 x3 K3) (k3:K3≤10000000) (h4':IsR n4 a4 b4 x4 K4) (k4:K4≤10000000) (h5':IsR n5 a5 b5 x5 K5) (k5:K5≤10000000) (h6':IsR n6 a6 b6 x6 K6) (k6:K6≤10000000) (h12:decide (Int.sign (Rat.num ((x1 - x3)*(x5 - x3)+(x2 - x4)*(x6 - x4)))≤(0:Int))=false) (h17:decide ((0:Int)≤cmpR ((x1 - x3)*(x5 - x3)+(x2 - x4)*(x6 - x4)) ((x5 - x3)*(x5 - x3)+(x6 - x4)*(x6 - x4)))=true):CSpec Tryd.prog 42 #[(ag [rr n1 a1 b1,rr n2 a2 b2]),(ag [rr n3 a3 b3,rr n4 a4 b4]),(ag [rr n5 a5 b5,rr n6 a6 b6])] (Rv ((x1 - x5)*(x1 - x5)+(x2 - x6)*(x2 - x6))):=by
 have s0:=(sub_s (szr h1') (szr h3'))
 have s1:=(isR_s s0)
 have s2:=(sub_s (szr h2') (szr h4'))
 have s3:=(isR_s s2)
 have s4:=(sub_s (szr h5') (szr h3'))
 have s5:=(isR_s s4)
 have s6:=(sub_s (szr h6') (szr h4'))
 have s7:=(isR_s s6)
 have s8:=(mul_s s0 s4)
 have s9:=(mul_s s2 s6)
 have s10:=(add_s s8 s9)
 have s11:=(isR_s s10)
 have s13:=(mul_s s4 s4)
 have s14:=(mul_s s6 s6)
 have s15:=(add_s s13 s14)
 have s16:=(isR_s s15)
 have s18:=(sub_s (szr h1') (szr h5'))
 have s19:=(isR_s s18)
 have s20:=(sub_s (szr h2') (szr h6'))
 have s21:=(isR_s s20)
 exact fn_ok Tryd.func42 (sc:=[(1,2,.fix (ag [rc (x5 - x3),rc (x6 - x4)])),(1,5,.fix (ag [rc (x1 - x3),rc (x2 - x4)])),(2,2,.fix (Rv ((x1 - x3)*(x5 - x3)+(x2 - x4)*(x6 - x4)))),(3,2,.fix (Rv ((x5 - x3)*(x5 - x3)+(x6 - x4)*(x6 - x4)))),(4,1,.fix (.int .i64 (Int.sign (Rat.num ((x1 - x3)*(x5 - x3)+(x2 - x4)*(x6 - x4)))))),(4,2,.is (.c (.bool false))),(6,2,.fix (.int .i64 (cmpR ((x1 - x3)*(x5 - x3)+(x2 - x4)*(x6 - x4)) ((x5 - x3)*(x5 - x3)+(x6 - x4)*(x6 - x4))))),(6,3,.is (.c (.bool true))),(7,2,.fix (ag [rc (x1 - x5),rc (x2 - x6)])),(8,2,.fix (Rv ((x1 - x5)*(x1 - x5)+(x2 - x6)*(x2 - x6))))]) (sb:=[]) (by kernel_rfl) (hC (vsub_k h5' (by omega) h6' (by omega) h3' (by omega) h4' (by omega)) (hC (vsub_k h1' (by omega) h2' (by omega) h3' (by omega) h4' (by omega)) (hC (vdot_k s1 (by omega) s3 (by omega) s5 (by omega) s7 (by omega)) (hC (vdot_k s5 (by omega) s7 (by omega) s5 (by omega) s7 (by omega)) (hC (sign_k s11 (by omega)) (hP (isB h12) (hC (cmp_k s11 s16 (by omega)) (hP (isB h17) (hC (vsub_k h1' (by omega) h2' (by omega) h5' (by omega) h6' (by omega)) (hC (vdot_k s19 (by omega) s21 (by omega) s19 (by omega) s21 (by omega)) hN))))))))))
theorem ter3 {n1:Bool} {a1 b1:ByteArray} {x1:Rat} {K1:Nat}{n2:Bool} {a2 b2:ByteArray} {x2:Rat} {K2:Nat}{n3:Bool} {a3 b3:ByteArray} {x3:Rat} {K3:Nat}{n4:Bool} {a4 b4:ByteArray} {x4:Rat} {K4:Nat}{n5:Bool} {a5 b5:ByteArray} {x5:Rat} {K5:Nat}{n6:Bool} {a6 b6:ByteArray} {x6:Rat} {K6:Nat} (h1':IsR n1 a1 b1 x1 K1) (k1:K1≤10000000) (h2':IsR n2 a2 b2 x2 K2) (k2:K2≤10000000) (h3':IsR n3 a3 b3 x3 K3) (k3:K3≤10000000) (h4':IsR n4 a4 b4 x4 K4) (k4:K4≤10000000) (h5':IsR n5 a5 b5 x5 K5) (k5:K5≤10000000) (h6':IsR n6 a6 b6 x6 K6) (k6:K6≤10000000) (h12:decide (Int.sign (Rat.num ((x1 - x3)*(x5 - x3)+(x2 - x4)*(x6 - x4)))≤(0:Int))=false) (h17:decide ((0:Int)≤cmpR ((x1 - x3)*(x5 - x3)+(x2 - x4)*(x6 - x4)) ((x5 - x3)*(x5 - x3)+(x6 - x4)*(x6 - x4)))=false) (h24:(x5 - x3)*(x5 - x3)+(x6 - x4)*(x6 - x4)≠(0:Rat)):CSpec Tryd.prog 42 #[(ag [rr n1 a1 b1,rr n2 a2 b2]),(ag [rr n3 a3 b3,rr n4 a4 b4]),(ag [rr n5 a5 b5,rr n6 a6 b6])] (Rv (((x5 - x3)*(x2 - x4) - (x6 - x4)*(x1 - x3))*((x5 - x3)*(x2 - x4) - (x6 - x4)*(x1 - x3))/((x5 - x3)*(x5 - x3)+(x6 - x4)*(x6 - x4)))):=by
 have s0:=(sub_s (szr h1') (szr h3'))
 have s1:=(isR_s s0)
 have s2:=(sub_s (szr h2') (szr h4'))
 have s3:=(isR_s s2)
 have s4:=(sub_s (szr h5') (szr h3'))
 have s5:=(isR_s s4)
 have s6:=(sub_s (szr h6') (szr h4'))
 have s7:=(isR_s s6)
 have s8:=(mul_s s0 s4)
 have s9:=(mul_s s2 s6)
 have s10:=(add_s s8 s9)
 have s11:=(isR_s s10)
 have s13:=(mul_s s4 s4)
 have s14:=(mul_s s6 s6)
 have s15:=(add_s s13 s14)
 have s16:=(isR_s s15)
 have s18:=(mul_s s4 s2)
 have s19:=(mul_s s6 s0)
 have s20:=(sub_s s18 s19)
 have s21:=(isR_s s20)
 have s22:=(mul_s s20 s20)
 have s23:=(isR_s s22)
 exact fn_ok Tryd.func42 (sc:=[(1,2,.fix (ag [rc (x5 - x3),rc (x6 - x4)])),(1,5,.fix (ag [rc (x1 - x3),rc (x2 - x4)])),(2,2,.fix (Rv ((x1 - x3)*(x5 - x3)+(x2 - x4)*(x6 - x4)))),(3,2,.fix (Rv ((x5 - x3)*(x5 - x3)+(x6 - x4)*(x6 - x4)))),(4,1,.fix (.int .i64 (Int.sign (Rat.num ((x1 - x3)*(x5 - x3)+(x2 - x4)*(x6 - x4)))))),(4,2,.is (.c (.bool false))),(6,2,.fix (.int .i64 (cmpR ((x1 - x3)*(x5 - x3)+(x2 - x4)*(x6 - x4)) ((x5 - x3)*(x5 - x3)+(x6 - x4)*(x6 - x4))))),(6,3,.is (.c (.bool false))),(9,2,.fix (Rv ((x5 - x3)*(x2 - x4) - (x6 - x4)*(x1 - x3)))),(10,2,.fix (Rv (((x5 - x3)*(x2 - x4) - (x6 - x4)*(x1 - x3))*((x5 - x3)*(x2 - x4) - (x6 - x4)*(x1 - x3))))),(10,4,.fix (.tuple #[Rv (((x5 - x3)*(x2 - x4) - (x6 - x4)*(x1 - x3))*((x5 - x3)*(x2 - x4) - (x6 - x4)*(x1 - x3))/((x5 - x3)*(x5 - x3)+(x6 - x4)*(x6 - x4))),.int .i64 (0:Int)]))]) (sb:=[]) (by kernel_rfl) (hC (vsub_k h5' (by omega) h6' (by omega) h3' (by omega) h4' (by omega)) (hC (vsub_k h1' (by omega) h2' (by omega) h3' (by omega) h4' (by omega)) (hC (vdot_k s1 (by omega) s3 (by omega) s5 (by omega) s7 (by omega)) (hC (vdot_k s5 (by omega) s7 (by omega) s5 (by omega) s7 (by omega)) (hC (sign_k s11 (by omega)) (hP (isB h12) (hC (cmp_k s11 s16 (by omega)) (hP (isB h17) (hC (vcross_k s5 (by omega) s7 (by omega) s1 (by omega) s3 (by omega)) (hC (mul_k s21 s21 (by omega)) (hC (div_k s23 s16 (by omega) h24) hN)))))))))))
theorem toedger_k {n1:Bool} {a1 b1:ByteArray} {x1:Rat} {K1:Nat}{n2:Bool} {a2 b2:ByteArray} {x2:Rat} {K2:Nat}{n3:Bool} {a3 b3:ByteArray} {x3:Rat} {K3:Nat}{n4:Bool} {a4 b4:ByteArray} {x4:Rat} {K4:Nat}{n5:Bool} {a5 b5:ByteArray} {x5:Rat} {K5:Nat}{n6:Bool} {a6 b6:ByteArray} {x6:Rat} {K6:Nat} (h1':IsR n1 a1 b1 x1 K1) (k1:K1≤10000000) (h2':IsR n2 a2 b2 x2 K2) (k2:K2≤10000000) (h3':IsR n3 a3 b3 x3 K3) (k3:K3≤10000000) (h4':IsR n4 a4 b4 x4 K4) (k4:K4≤10000000) (h5':IsR n5 a5 b5 x5 K5) (k5:K5≤10000000) (h6':IsR n6 a6 b6 x6 K6) (k6:K6≤10000000):CSpec Tryd.prog 42 #[ag [rr n1 a1 b1,rr n2 a2 b2],ag [rr n3 a3 b3,rr n4 a4 b4],ag [rr n5 a5 b5,rr n6 a6 b6]] (Rv (tedge x1 x2 x3 x4 x5 x6)):=by
 unfold tedge
 by_cases c1:(x1 - x3)*(x5 - x3)+(x2 - x4)*(x6 - x4)≤0
 ·rw [if_pos c1]
  exact ter1 h1' k1 h2' k2 h3' k3 h4' k4 h5' k5 h6' k6 (by rw [sgn_le,decide_eq_false (Rat.not_lt.2 c1)]; rfl)
 rw [if_neg c1]
 have d1:decide (Int.sign (Rat.num ((x1 - x3)*(x5 - x3)+(x2 - x4)*(x6 - x4)))≤0)=false:=by rw [sgn_le,decide_eq_true (Rat.not_le.1 c1)]; rfl
 by_cases c2:(x5 - x3)*(x5 - x3)+(x6 - x4)*(x6 - x4)≤(x1 - x3)*(x5 - x3)+(x2 - x4)*(x6 - x4)
 ·rw [if_pos c2]
  exact ter2 h1' k1 h2' k2 h3' k3 h4' k4 h5' k5 h6' k6 d1 (decide_eq_true (cmpR_ge.2 c2))
 rw [if_neg c2]
 refine ter3 h1' k1 h2' k2 h3' k3 h4' k4 h5' k5 h6' k6 d1 (decide_eq_false fun g=>c2 (cmpR_ge.1 g)) (fun e=>c1 ?_)
 obtain ⟨e1,e2⟩:=sq_zero e
 rw [e1,e2,Rat.mul_zero,Rat.mul_zero,Rat.add_zero]
 exact Rat.le_refl
theorem tedge_s {x1 x2 x3 x4 x5 x6:Rat} {K:Nat} (p1:Sz x1 K) (p2:Sz x2 K) (p3:Sz x3 K) (p4:Sz x4 K) (p5:Sz x5 K) (p6:Sz x6 K):Sz (tedge x1 x2 x3 x4 x5 x6) (24*K+40):=by
 unfold tedge
 split
 ·exact (add_s (mul_s (sub_s p1 p3) (sub_s p1 p3)) (mul_s (sub_s p2 p4) (sub_s p2 p4))).mono (by omega)
 split
 ·exact (add_s (mul_s (sub_s p1 p5) (sub_s p1 p5)) (mul_s (sub_s p2 p6) (sub_s p2 p6))).mono (by omega)
 exact (div_s (mul_s (sub_s (mul_s (sub_s p5 p3) (sub_s p2 p4)) (mul_s (sub_s p6 p4) (sub_s p1 p3))) (sub_s (mul_s (sub_s p5 p3) (sub_s p2 p4)) (mul_s (sub_s p6 p4) (sub_s p1 p3)))) (add_s (mul_s (sub_s p5 p3) (sub_s p5 p3)) (mul_s (sub_s p6 p4) (sub_s p6 p4)))).mono (by omega)
theorem vcs_l1 {L:List VR} {v:VR} (h:L[1]? = some v):((vcs L).drop 6).take 6=v.c.map V.c∧v.c.toArray.size=6:=vcs_ld (i:=1) h
def nrS (L:List VR) (P:List V) (s:Rat) (m c i:Nat):St:=⟨slots 38 0 [(1,.sl 0 0 (m+1) c),(2,.p 1 0),(4,.p 2 0),(5,.p 3 0),(16,.sl 0 0 (m+1) c),(17,.c (.int .i64 (((m+1:Nat):Int)))),(18,.c (.int .i64 (((i:Nat):Int))))],[some ⟨false,vcs L⟩,some ⟨true,P⟩,some ⟨true,nv [[.bool false],[.string ⟨#[]⟩],[.string ⟨#[]⟩]]⟩,some ⟨true,nv [rc s]⟩]⟩
noncomputable def teF (L:List VR) (x y:Rat) (i:Nat):Rat:=tedge x y (pX L i) (pY L i) (pX L ((i+1)%L.length)) (pY L ((i+1)%L.length))
theorem teF_at {L:List VR} {x y:Rat} {i n:Nat} {u v:VR} (hL:L.length=n) (hu:L[i]? = some u) (hv:L[(i+1)%n]? = some v):teF L x y i=tedge x y u.x u.y v.x v.y:=by
 subst hL
 unfold teF
 rw [pX_at hu,pY_at hu,pX_at hv,pY_at hv]
noncomputable def nearV (L:List VR) (x y:Rat):Rat:=mnF (teF L x y) (teF L x y 0) L.length
theorem cxy_s {L:List VR} (ok:∀ v∈L,v.Ok) (i:Nat):Sz (pX L i) 1048576∧Sz (pY L i) 1048576:=by
 unfold pX pY
 cases h:L[i]? with
 | none=>exact ⟨sz0_s.mono (by decide),sz0_s.mono (by decide)⟩
 | some v=>exact ⟨(ok _ (List.mem_of_getElem? h)).r1.sz,(ok _ (List.mem_of_getElem? h)).r2.sz⟩
theorem mnF_sz {f:Nat→Rat} {b:Rat} {K:Nat} (hb:Sz b K) (hf:∀ i,Sz (f i) K):∀ n,Sz (mnF f b n) K
 | 0=>hb
 | n+1=>by
   unfold mnF
   split
   ·exact mnF_sz hb hf n
   exact hf n
theorem teF_s {L:List VR} {x y:Rat} (ok:∀ v∈L,v.Ok) (sx:Sz x 1048576) (sy:Sz y 1048576) (i:Nat):Sz (teF L x y i) 26000000:=(tedge_s sx sy (cxy_s ok i).1 (cxy_s ok i).2 (cxy_s ok _).1 (cxy_s ok _).2).mono (by decide)
theorem nearV_s {L:List VR} {x y:Rat} (ok:∀ v∈L,v.Ok) (sx:Sz x 1048576) (sy:Sz y 1048576):Sz (nearV L x y) 26000000:=mnF_sz (teF_s ok sx sy 0) (teF_s ok sx sy) _
theorem nr_a {L:List VR} {u v:VR} {s:Rat} {m c i:Nat} {n1:Bool} {a1 b1:ByteArray} {n2:Bool} {a2 b2:ByteArray} {x1 x2:Rat}  (h1':IsR n1 a1 b1 x1 1048576) (h2':IsR n2 a2 b2 x2 1048576) (hs:Sz s 26000000) (hu:L[i]? = some u) (hv:L[(i+1)%(m+1)]? = some v) (ou:u.Ok) (ov:v.Ok) (hi:i < m+1) (hm:m < 1000000) (e1:(i+1)%(m+1) < m+1) (h0:decide ((↑i:Int) < (↑(m+(1:Nat)):Int))=true):TSpec Tryd.prog (loopOf Tryd.f19 0) (nrS L (nv [rr n1 a1 b1,rr n2 a2 b2]) s m c i) (.normal) (nrS L (nv [rr n1 a1 b1,rr n2 a2 b2]) (mn s (tedge x1 x2 u.x u.y v.x v.y)) m c (i+1)):=by
 have s1:=(vr1_s ou)
 have s2:=(vr2_s ou)
 have s3:=(vr1_s ov)
 have s4:=(vr2_s ov)
 have s5:=(isR_s hs)
 have s6:=(tedge_s (szr h1') (szr h2') (szr s1) (szr s2) (szr s3) (szr s4))
 have s7:=(isR_s s6)
 exact tspec_dim (mask 38 0 [1,2,4,5,16,17,18]) 4 (sc:=[(3,0,.is (.c (.bool true))),(4,2,.fix (ag [[.bool (VR.n1 u)],[.string (VR.a1 u)],[.string (VR.b1 u)],[.bool (VR.n2 u)],[.string (VR.a2 u)],[.string (VR.b2 u)]])),(5,5,.is (.c (.int .i64 ((↑(i+(1:Nat)):Int))))),(5,8,.is (.c (.int .i64 ((↑((i+(1:Nat))%(m+(1:Nat))):Int))))),(5,10,.fix (ag [[.bool (VR.n1 v)],[.string (VR.a1 v)],[.string (VR.b1 v)],[.bool (VR.n2 v)],[.string (VR.a2 v)],[.string (VR.b2 v)]])),(5,11,.fix (Rv (tedge x1 x2 (VR.x u) (VR.y u) (VR.x v) (VR.y v)))),(5,12,.fix (Rv (mn s (tedge x1 x2 (VR.x u) (VR.y u) (VR.x v) (VR.y v))))),(6,0,.is (.c (.int .i64 ((↑(i+(1:Nat)):Int)))))]) (sb:=[]) (by kernel_rfl) (hP (isB h0) (hP (show (0:Int)≤(↑i:Int)∧(↑i:Int) < (↑(m+(1:Nat)):Int) by omega) (hP (vcs_ld hu) (hP (incn (i:=i) hi (by omega)) (hP (show V.c (Value.int .i64 (Int.tmod (↑(i+(1:Nat)):Int) (↑(m+(1:Nat)):Int))) = .c (.int .i64 ((↑((i+(1:Nat))%(m+(1:Nat))):Int))) from (rfl)) (hP (show (0:Int)≤(↑((i+(1:Nat))%(m+(1:Nat))):Int)∧(↑((i+(1:Nat))%(m+(1:Nat))):Int) < (↑(m+(1:Nat)):Int) by omega) (hP (vcs_ld hv) (hC (toedger_k h1' (by decide +kernel) h2' (by decide +kernel) s1 (by decide +kernel) s2 (by decide +kernel) s3 (by decide +kernel) s4 (by decide +kernel)) (hC (min_k s5 s7 (by decide +kernel)) (hP (incn (i:=i) hi (by omega)) hN)))))))))) (flk vcs_f (flk flnv (flk flnv (flk flnv trivial))))
theorem nr_b {L:List VR} {s:Rat} {m c i:Nat} {n1:Bool} {a1 b1:ByteArray} {n2:Bool} {a2 b2:ByteArray} {x1 x2:Rat}   (h0:decide ((↑i:Int) < (↑(m+(1:Nat)):Int))=false):TSpec Tryd.prog (loopOf Tryd.f19 0) (nrS L (nv [rr n1 a1 b1,rr n2 a2 b2]) s m c i) (.exit 0) (nrS L (nv [rr n1 a1 b1,rr n2 a2 b2]) s m c i):=by
 exact tspec_dim (mask 38 0 [1,2,4,5,16,17,18]) 4 (sc:=[(3,0,.is (.c (.bool false)))]) (sb:=[]) (by kernel_rfl) (hP (isB h0) hN) (flk vcs_f (flk flnv (flk flnv (flk flnv trivial))))
theorem near0 {L:List VR} {u v:VR} {s:Rat} {m c:Nat} {n1:Bool} {a1 b1:ByteArray} {n2:Bool} {a2 b2:ByteArray} {x1 x2:Rat}  (h1':IsR n1 a1 b1 x1 1048576) (h2':IsR n2 a2 b2 x2 1048576) (hs:Sz s 26000000) (hu:L[0]? = some u) (hv:L[1]? = some v) (ou:u.Ok) (ov:v.Ok) (h3:1 < m+1) (hm:m < 1000000) (hb:TSpec Tryd.prog (.block 0 (.loop (loopOf Tryd.f19 0))) (nrS L (nv [rr n1 a1 b1,rr n2 a2 b2]) (tedge x1 x2 u.x u.y v.x v.y) m c 0) .normal (nrS L (nv [rr n1 a1 b1,rr n2 a2 b2]) s m c (m+1)))  : FSpec Tryd.prog 19 [.c (ag [rr n1 a1 b1,rr n2 a2 b2]),.sl 0 0 (m+1) c] [some ⟨false,vcs L⟩] (.c (Rv s)) [some ⟨false,vcs L⟩]:=by
 have s0:=(vr1_s ou)
 have s1:=(vr2_s ou)
 have s2:=(vr1_s ov)
 have s3:=(vr2_s ov)
 exact fspec_ok Tryd.func19 (sc:=[(1,3,.fix (ag [[.bool (VR.n1 u)],[.string (VR.a1 u)],[.string (VR.b1 u)],[.bool (VR.n2 u)],[.string (VR.a2 u)],[.string (VR.b2 u)]])),(1,6,.fix (ag [[.bool (VR.n1 v)],[.string (VR.a1 v)],[.string (VR.b1 v)],[.bool (VR.n2 v)],[.string (VR.a2 v)],[.string (VR.b2 v)]])),(1,7,.fix (Rv (tedge x1 x2 (VR.x u) (VR.y u) (VR.x v) (VR.y v)))),(0,99999,.mask (mask 38 0 [1,2,4,5,16,17,18]))]) (sb:=[(0,.normal,nrS L (nv [rr n1 a1 b1,rr n2 a2 b2]) s m c (m+1))]) (keep:=[]) (by kernel_rfl) (hP (show Flat [some ⟨false,vcs L⟩] from flk vcs_f trivial) (hP (show (0:Int)≤(0:Int)∧(0:Int) < (↑(m+(1:Nat)):Int) by omega) (hP (vcs_l0 hu) (hP (show (0:Int)≤(1:Int)∧(1:Int) < (↑(m+(1:Nat)):Int) by omega) (hP (vcs_l1 hv) (hC (toedger_k h1' (by decide +kernel) h2' (by decide +kernel) s0 (by decide +kernel) s1 (by decide +kernel) s2 (by decide +kernel) s3 (by decide +kernel)) (hP (show Flat [some { own:=false,cells:=vcs L },some ⟨Bool.true,nv [[.bool n1],[.string a1],[.string b1],[.bool n2],[.string a2],[.string b2]]⟩,some ⟨Bool.true,nv [[.bool false],[.string ({ data:=#[] })],[.string ({ data:=#[] })]]⟩,some ⟨Bool.true,nv [rc (tedge x1 x2 (VR.x u) (VR.y u) (VR.x v) (VR.y v))]⟩] from (flk vcs_f (flk rfl (flk rfl (flk rfl trivial))))) (hP (hb) hN))))))))
section
variable {L:List VR} {m c:Nat} {n1:Bool} {a1 b1:ByteArray} {n2:Bool} {a2 b2:ByteArray} {x1 x2:Rat}  (hL:L.length=m+1) (ok:∀ v∈L,v.Ok) (hm:m < 64) (h1':IsR n1 a1 b1 x1 1048576) (h2':IsR n2 a2 b2 x2 1048576)
include hL ok hm h1' h2'
theorem nr_loop:∀ (d i:Nat),i+d=m+1→Rounds Tryd.prog (loopOf Tryd.f19 0) 0 (nrS L (nv [rr n1 a1 b1,rr n2 a2 b2]) (mnF (teF L x1 x2) (teF L x1 x2 0) i) m c i) .normal (nrS L (nv [rr n1 a1 b1,rr n2 a2 b2]) (nearV L x1 x2) m c (m+1))
 | 0,i,hi=>by
   obtain rfl:i=m+1:=by omega
   unfold nearV
   rw [hL]
   exact .stop (nr_b (x1:=0) (x2:=0) (decide_eq_false (by omega)))
 | d+1,i,hi=>by
   have p1:(i+1)%(m+1) < m+1:=Nat.mod_lt _ (by omega)
   have hu:=List.getElem?_eq_getElem (l:=L) (i:=i) (by omega)
   have hv:=List.getElem?_eq_getElem (l:=L) (i:=(i+1)%(m+1)) (by omega)
   have st:=nr_a (c:=c) h1' h2' (mnF_sz (teF_s ok h1'.sz h2'.sz 0) (teF_s ok h1'.sz h2'.sz) i) hu hv (ok _ (List.mem_of_getElem? hu)) (ok _ (List.mem_of_getElem? hv)) (by omega) (by omega) p1 (decide_eq_true (by omega))
   refine .step ?_ (nr_loop d (i+1) (by omega))
   have e:mnF (teF L x1 x2) (teF L x1 x2 0) (i+1)=mn (mnF (teF L x1 x2) (teF L x1 x2 0) i) (tedge x1 x2 L[i].x L[i].y L[(i+1)%(m+1)].x L[(i+1)%(m+1)].y):=by
    rw [← teF_at hL hu hv]
    rfl
   rw [e]
   exact st
theorem nearr_k (h3:3≤m+1):FSpec Tryd.prog 19 [.c (ag [rr n1 a1 b1,rr n2 a2 b2]),.sl 0 0 (m+1) c] [some ⟨false,vcs L⟩] (.c (Rv (nearV L x1 x2))) [some ⟨false,vcs L⟩]:=by
 have hu:=List.getElem?_eq_getElem (l:=L) (i:=0) (by omega)
 have hv:=List.getElem?_eq_getElem (l:=L) (i:=1) (by omega)
 have hb:=(nr_loop (c:=c) hL ok hm h1' h2' (m+1) 0 (by omega)).spec
 have e:mnF (teF L x1 x2) (teF L x1 x2 0) 0=tedge x1 x2 L[0].x L[0].y L[1].x L[1].y:=by
  show teF L x1 x2 0=_
  exact teF_at hL hu (by rw [show (0+1)%(m+1)=1 from Nat.mod_eq_of_lt (by omega)]; exact hv)
 rw [e] at hb
 exact near0 h1' h2' (nearV_s ok h1'.sz h2'.sz) hu hv (ok _ (List.mem_of_getElem? hu)) (ok _ (List.mem_of_getElem? hv)) (by omega) (by omega) hb
end
end Go.Proofs.YtjefpjajkbldpaaDoor.G
end
section
namespace Go.Proofs.YtjefpjajkbldpaaDoor.G
open Go.Proofs.YtjefpjajkbldpaaDoor.U Go.RowKit
theorem vrx_s {v:VR} (h:v.Ok):Sz v.x 1048576:=h.r1.sz
theorem vry_s {v:VR} (h:v.Ok):Sz v.y 1048576:=h.r2.sz
noncomputable def byI (L B:List VR) (u v:VR) (far:Bool) (m c l d i k:Nat):St:=⟨slots 57 0 [(0,.sl 0 0 (m+1) c),(1,.sl 1 0 (l+1) d),(4,.p 2 0),(7,.p 3 0),(9,.p 5 0),(10,.c (.bool far)),(13,.sl 0 0 (m+1) c),(14,.c (.int .i64 (((m+1:Nat):Int)))),(15,.c (.int .i64 (((i:Nat):Int)))),(36,.sl 1 0 (l+1) d),(37,.c (.int .i64 (((l+1:Nat):Int)))),(38,.c (.int .i64 (((k:Nat):Int))))],[some ⟨false,vcs L⟩,some ⟨false,vcs B⟩,some ⟨true,nv [[.bool false],[.string ⟨#[]⟩],[.string ⟨#[]⟩],[.bool false],[.string ⟨#[]⟩],[.string ⟨#[]⟩]]⟩,some ⟨true,vw u⟩,some ⟨true,nv [rc (v.x - u.x),rc (v.y - u.y)]⟩,some ⟨true,nv [rc (v.y - u.y),rc (-(v.x - u.x))]⟩]⟩
def byO (L B:List VR) (m c l d i:Nat):St:=⟨slots 57 0 [(0,.sl 0 0 (m+1) c),(1,.sl 1 0 (l+1) d),(4,.p 2 0),(13,.sl 0 0 (m+1) c),(14,.c (.int .i64 (((m+1:Nat):Int)))),(15,.c (.int .i64 (((i:Nat):Int))))],[some ⟨false,vcs L⟩,some ⟨false,vcs B⟩,some ⟨true,nv [[.bool false],[.string ⟨#[]⟩],[.string ⟨#[]⟩],[.bool false],[.string ⟨#[]⟩],[.string ⟨#[]⟩]]⟩]⟩
noncomputable def byR (L B:List VR) (u v:VR):St:=⟨slots 57 0 [(4,.p 2 0),(5,.c (.bool true))],[some ⟨false,vcs L⟩,some ⟨false,vcs B⟩,some ⟨true,nv [rc (v.y - u.y),rc (-(v.x - u.x))]⟩]⟩
theorem by_a {L B:List VR} {u v w:VR} {m c l d i k:Nat} (hw:B[k]? = some w) (ou:u.Ok) (ov:v.Ok) (ow:w.Ok) (hk:k < l+1) (hl:l < 1000000) (h0:decide ((↑k:Int) < (↑(l+(1:Nat)):Int))=true):TSpec Tryd.prog (loopOf Tryd.f17 2) (byI L B u v true m c l d i k) (.normal) (byI L B u v (decide (0 < Int.sign (Rat.num ((v.y - u.y)*(w.x - u.x) + -(v.x - u.x)*(w.y - u.y))))) m c l d i (k+1)):=by
 have s1:=(vr1_s ow)
 have s2:=(vr2_s ow)
 have s3:=(vr1_s ou)
 have s4:=(vr2_s ou)
 have s5:=(vry_s ov)
 have s6:=(sub_s s5 (szr s4))
 have s7:=(isR_s s6)
 have s8:=(vrx_s ov)
 have s9:=(sub_s s8 (szr s3))
 have s10:=(neg_s s9)
 have s11:=(isR_s s10)
 have s12:=(sub_s (szr s1) (szr s3))
 have s13:=(isR_s s12)
 have s14:=(sub_s (szr s2) (szr s4))
 have s15:=(isR_s s14)
 have s16:=(mul_s s6 s12)
 have s17:=(mul_s s10 s14)
 have s18:=(add_s s16 s17)
 have s19:=(isR_s s18)
 exact tspec_dim (mask 57 0 [0,1,4,7,9,10,13,14,15,36,37,38]) 6 (sc:=[(8,0,.is (.c (.bool true))),(9,1,.fix (ag [[.bool (VR.n1 w)],[.string (VR.a1 w)],[.string (VR.b1 w)],[.bool (VR.n2 w)],[.string (VR.a2 w)],[.string (VR.b2 w)]])),(10,5,.fix (ag [rc (VR.x w - VR.x u),rc (VR.y w - VR.y u)])),(10,6,.fix (Rv ((VR.y v - VR.y u)*(VR.x w - VR.x u) + -(VR.x v - VR.x u)*(VR.y w - VR.y u)))),(10,7,.fix (.int .i64 (Int.sign (Rat.num ((VR.y v - VR.y u)*(VR.x w - VR.x u) + -(VR.x v - VR.x u)*(VR.y w - VR.y u)))))),(11,0,.is (.c (.int .i64 ((↑(k+(1:Nat)):Int)))))]) (sb:=[]) (by kernel_rfl) (hP (isB h0) (hP (show (0:Int)≤(↑k:Int)∧(↑k:Int) < (↑(l+(1:Nat)):Int) by omega) (hP (vcs_ld hw) (hC (vsub_k s1 (by decide +kernel) s2 (by decide +kernel) s3 (by decide +kernel) s4 (by decide +kernel)) (hC (vdot_k s7 (by decide +kernel) s11 (by decide +kernel) s13 (by decide +kernel) s15 (by decide +kernel)) (hC (sign_k s19 (by decide +kernel)) (hP (incn (i:=k) hk (by omega)) hN))))))) (flk vcs_f (flk vcs_f (flk flnv (flk flnv (flk flnv (flk flnv trivial))))))
theorem by_b {L B:List VR} {u v w:VR} {m c l d i k:Nat} (hw:B[k]? = some w) (ou:u.Ok) (ov:v.Ok) (ow:w.Ok) (hk:k < l+1) (hl:l < 1000000) (h0:decide ((↑k:Int) < (↑(l+(1:Nat)):Int))=true):TSpec Tryd.prog (loopOf Tryd.f17 2) (byI L B u v false m c l d i k) (.normal) (byI L B u v false m c l d i (k+1)):=by
 exact tspec_dim (mask 57 0 [0,1,4,7,9,10,13,14,15,36,37,38]) 6 (sc:=[(8,0,.is (.c (.bool true))),(9,1,.fix (ag [[.bool (VR.n1 w)],[.string (VR.a1 w)],[.string (VR.b1 w)],[.bool (VR.n2 w)],[.string (VR.a2 w)],[.string (VR.b2 w)]])),(11,0,.is (.c (.int .i64 ((↑(k+(1:Nat)):Int)))))]) (sb:=[]) (by kernel_rfl) (hP (isB h0) (hP (show (0:Int)≤(↑k:Int)∧(↑k:Int) < (↑(l+(1:Nat)):Int) by omega) (hP (vcs_ld hw) (hP (incn (i:=k) hk (by omega)) hN)))) (flk vcs_f (flk vcs_f (flk flnv (flk flnv (flk flnv (flk flnv trivial))))))
theorem by_c {L B:List VR} {u v:VR} {f:Bool} {m c l d i k:Nat}  (h0:decide ((↑k:Int) < (↑(l+(1:Nat)):Int))=false):TSpec Tryd.prog (loopOf Tryd.f17 2) (byI L B u v f m c l d i k) (.exit 2) (byI L B u v f m c l d i k):=by
 exact tspec_dim (mask 57 0 [0,1,4,7,9,10,13,14,15,36,37,38]) 6 (sc:=[(8,0,.is (.c (.bool false)))]) (sb:=[]) (by kernel_rfl) (hP (isB h0) hN) (flk vcs_f (flk vcs_f (flk flnv (flk flnv (flk flnv (flk flnv trivial))))))
theorem by_d {L B:List VR} {u v:VR} {m c l d i:Nat} (hu:L[i]? = some u) (hv:L[(i+1)%(m+1)]? = some v) (ou:u.Ok) (ov:v.Ok) (hi:i < m+1) (hm:m < 1000000) (e1:(i+1)%(m+1) < m+1) (hb:TSpec Tryd.prog (.block 2 (.loop (loopOf Tryd.f17 2))) (byI L B u v true m c l d i 0) .normal (byI L B u v false m c l d i (l+1))) (h0:decide ((↑i:Int) < (↑(m+(1:Nat)):Int))=true):TSpec Tryd.prog (loopOf Tryd.f17 0) (byO L B m c l d i) (.normal) (byO L B m c l d (i+1)):=by
 have s1:=(vr1_s ov)
 have s2:=(vr2_s ov)
 have s3:=(vr1_s ou)
 have s4:=(vr2_s ou)
 have s5:=(sub_s (szr s1) (szr s3))
 have s6:=(isR_s s5)
 exact tspec_dim (mask 57 0 [0,1,4,13,14,15]) 3 (sc:=[(2,0,.is (.c (.bool true))),(3,2,.fix (ag [[.bool (VR.n1 u)],[.string (VR.a1 u)],[.string (VR.b1 u)],[.bool (VR.n2 u)],[.string (VR.a2 u)],[.string (VR.b2 u)]])),(4,2,.is (.c (.int .i64 ((↑(i+(1:Nat)):Int))))),(4,5,.is (.c (.int .i64 ((↑((i+(1:Nat))%(m+(1:Nat))):Int))))),(4,7,.fix (ag [[.bool (VR.n1 v)],[.string (VR.a1 v)],[.string (VR.b1 v)],[.bool (VR.n2 v)],[.string (VR.a2 v)],[.string (VR.b2 v)]])),(4,9,.fix (ag [rc (VR.x v - VR.x u),rc (VR.y v - VR.y u)])),(5,4,.fix (Rv (-(VR.x v - VR.x u)))),(2,99999,.mask (mask 57 0 [0,1,4,7,9,10,13,14,15,36,37,38])),(14,0,.is (.c (.int .i64 ((↑(i+(1:Nat)):Int)))))]) (sb:=[(2,.normal,byI L B u v false m c l d i (l+1))]) (by kernel_rfl) (hP (isB h0) (hP (show (0:Int)≤(↑i:Int)∧(↑i:Int) < (↑(m+(1:Nat)):Int) by omega) (hP (vcs_ld hu) (hP (incn (i:=i) hi (by omega)) (hP (show V.c (Value.int .i64 (Int.tmod (↑(i+(1:Nat)):Int) (↑(m+(1:Nat)):Int))) = .c (.int .i64 ((↑((i+(1:Nat))%(m+(1:Nat))):Int))) from (rfl)) (hP (show (0:Int)≤(↑((i+(1:Nat))%(m+(1:Nat))):Int)∧(↑((i+(1:Nat))%(m+(1:Nat))):Int) < (↑(m+(1:Nat)):Int) by omega) (hP (vcs_ld hv) (hC (vsub_k s1 (by decide +kernel) s2 (by decide +kernel) s3 (by decide +kernel) s4 (by decide +kernel)) (hC (neg_k s6 (by decide +kernel)) (hP (show Flat [some { own:=false,cells:=vcs L },some { own:=false,cells:=vcs B },some ⟨Bool.true,nv [[.bool false],[.string ({ data:=#[] })],[.string ({ data:=#[] })],[.bool false],[.string ({ data:=#[] })],[.string ({ data:=#[] })]]⟩,some ⟨Bool.true,nv [[.bool (VR.n1 u)],[.string (VR.a1 u)],[.string (VR.b1 u)],[.bool (VR.n2 u)],[.string (VR.a2 u)],[.string (VR.b2 u)]]⟩,some ⟨Bool.true,nv [rc (VR.x v - VR.x u),rc (VR.y v - VR.y u)]⟩,some ⟨Bool.true,nv [rc (VR.y v - VR.y u),rc (-(VR.x v - VR.x u))]⟩] from (flk vcs_f (flk vcs_f (flk rfl (flk rfl (flk rfl (flk rfl trivial))))))) (hP (hb) (hP (incn (i:=i) hi (by omega)) hN)))))))))))) (flk vcs_f (flk vcs_f (flk flnv trivial)))
theorem by_e {L B:List VR} {u v:VR} {m c l d i:Nat} (hu:L[i]? = some u) (hv:L[(i+1)%(m+1)]? = some v) (ou:u.Ok) (ov:v.Ok) (hi:i < m+1) (hm:m < 1000000) (e1:(i+1)%(m+1) < m+1) (hb:TSpec Tryd.prog (.block 2 (.loop (loopOf Tryd.f17 2))) (byI L B u v true m c l d i 0) .normal (byI L B u v true m c l d i (l+1))) (h0:decide ((↑i:Int) < (↑(m+(1:Nat)):Int))=true):TSpec Tryd.prog (loopOf Tryd.f17 0) (byO L B m c l d i) (.ret) (byR L B u v):=by
 have s1:=(vr1_s ov)
 have s2:=(vr2_s ov)
 have s3:=(vr1_s ou)
 have s4:=(vr2_s ou)
 have s5:=(sub_s (szr s1) (szr s3))
 have s6:=(isR_s s5)
 exact tspec_dim (mask 57 0 [4,5]) 3 (sc:=[(2,0,.is (.c (.bool true))),(3,2,.fix (ag [[.bool (VR.n1 u)],[.string (VR.a1 u)],[.string (VR.b1 u)],[.bool (VR.n2 u)],[.string (VR.a2 u)],[.string (VR.b2 u)]])),(4,2,.is (.c (.int .i64 ((↑(i+(1:Nat)):Int))))),(4,5,.is (.c (.int .i64 ((↑((i+(1:Nat))%(m+(1:Nat))):Int))))),(4,7,.fix (ag [[.bool (VR.n1 v)],[.string (VR.a1 v)],[.string (VR.b1 v)],[.bool (VR.n2 v)],[.string (VR.a2 v)],[.string (VR.b2 v)]])),(4,9,.fix (ag [rc (VR.x v - VR.x u),rc (VR.y v - VR.y u)])),(5,4,.fix (Rv (-(VR.x v - VR.x u)))),(2,99999,.mask (mask 57 0 [0,1,4,7,9,10,13,14,15,36,37,38]))]) (sb:=[(2,.normal,byI L B u v true m c l d i (l+1))]) (by kernel_rfl) (hP (isB h0) (hP (show (0:Int)≤(↑i:Int)∧(↑i:Int) < (↑(m+(1:Nat)):Int) by omega) (hP (vcs_ld hu) (hP (incn (i:=i) hi (by omega)) (hP (show V.c (Value.int .i64 (Int.tmod (↑(i+(1:Nat)):Int) (↑(m+(1:Nat)):Int))) = .c (.int .i64 ((↑((i+(1:Nat))%(m+(1:Nat))):Int))) from (rfl)) (hP (show (0:Int)≤(↑((i+(1:Nat))%(m+(1:Nat))):Int)∧(↑((i+(1:Nat))%(m+(1:Nat))):Int) < (↑(m+(1:Nat)):Int) by omega) (hP (vcs_ld hv) (hC (vsub_k s1 (by decide +kernel) s2 (by decide +kernel) s3 (by decide +kernel) s4 (by decide +kernel)) (hC (neg_k s6 (by decide +kernel)) (hP (show Flat [some { own:=false,cells:=vcs L },some { own:=false,cells:=vcs B },some ⟨Bool.true,nv [[.bool false],[.string ({ data:=#[] })],[.string ({ data:=#[] })],[.bool false],[.string ({ data:=#[] })],[.string ({ data:=#[] })]]⟩,some ⟨Bool.true,nv [[.bool (VR.n1 u)],[.string (VR.a1 u)],[.string (VR.b1 u)],[.bool (VR.n2 u)],[.string (VR.a2 u)],[.string (VR.b2 u)]]⟩,some ⟨Bool.true,nv [rc (VR.x v - VR.x u),rc (VR.y v - VR.y u)]⟩,some ⟨Bool.true,nv [rc (VR.y v - VR.y u),rc (-(VR.x v - VR.x u))]⟩] from (flk vcs_f (flk vcs_f (flk rfl (flk rfl (flk rfl (flk rfl trivial))))))) (hP (hb) hN))))))))))) (flk vcs_f (flk vcs_f (flk flnv trivial)))
theorem by_f {L B:List VR} {m c l d i:Nat}  (h0:decide ((↑i:Int) < (↑(m+(1:Nat)):Int))=false):TSpec Tryd.prog (loopOf Tryd.f17 0) (byO L B m c l d i) (.exit 0) (byO L B m c l d i):=by
 exact tspec_dim (mask 57 0 [0,1,4,13,14,15]) 3 (sc:=[(2,0,.is (.c (.bool false)))]) (sb:=[]) (by kernel_rfl) (hP (isB h0) hN) (flk vcs_f (flk vcs_f (flk flnv trivial)))
theorem by_y {L B:List VR} {u v:VR} {m c l d:Nat} (hb:TSpec Tryd.prog (.block 0 (.loop (loopOf Tryd.f17 0))) (byO L B m c l d 0) .ret (byR L B u v))  : FSpec Tryd.prog 17 [.sl 0 0 (m+1) c,.sl 1 0 (l+1) d] [some ⟨false,vcs L⟩,some ⟨false,vcs B⟩] (.c (.tuple #[ag [rc (VR.y v - VR.y u),rc (-(VR.x v - VR.x u))],.bool true])) [some ⟨false,vcs L⟩,some ⟨false,vcs B⟩]:=by
 exact fspec_ok Tryd.func17 (sc:=[(0,99999,.mask (mask 57 0 [0,1,4,13,14,15]))]) (sb:=[(0,.ret,byR L B u v)]) (keep:=[]) (by kernel_rfl) (hP (show Flat [some ⟨false,vcs L⟩,some ⟨false,vcs B⟩] from flk vcs_f (flk vcs_f trivial)) (hP (show Flat [some { own:=false,cells:=vcs L },some { own:=false,cells:=vcs B },some ⟨Bool.true,nv [[.bool false],[.string ({ data:=#[] })],[.string ({ data:=#[] })],[.bool false],[.string ({ data:=#[] })],[.string ({ data:=#[] })]]⟩] from (flk vcs_f (flk vcs_f (flk rfl trivial)))) (hP (hb) hN)))
theorem by_n {L B:List VR} {u v:VR} {m c l d:Nat} (hb:TSpec Tryd.prog (.block 0 (.loop (loopOf Tryd.f17 0))) (byO L B m c l d 0) .normal (byO L B m c l d (m+1)))  : FSpec Tryd.prog 17 [.sl 0 0 (m+1) c,.sl 1 0 (l+1) d] [some ⟨false,vcs L⟩,some ⟨false,vcs B⟩] (.c (.tuple #[ag [[.bool false],[.string ({ data:=#[] })],[.string ({ data:=#[] })],[.bool false],[.string ({ data:=#[] })],[.string ({ data:=#[] })]],.bool false])) [some ⟨false,vcs L⟩,some ⟨false,vcs B⟩]:=by
 exact fspec_ok Tryd.func17 (sc:=[(0,99999,.mask (mask 57 0 [0,1,4,13,14,15]))]) (sb:=[(0,.normal,byO L B m c l d (m+1))]) (keep:=[]) (by kernel_rfl) (hP (show Flat [some ⟨false,vcs L⟩,some ⟨false,vcs B⟩] from flk vcs_f (flk vcs_f trivial)) (hP (show Flat [some { own:=false,cells:=vcs L },some { own:=false,cells:=vcs B },some ⟨Bool.true,nv [[.bool false],[.string ({ data:=#[] })],[.string ({ data:=#[] })],[.bool false],[.string ({ data:=#[] })],[.string ({ data:=#[] })]]⟩] from (flk vcs_f (flk vcs_f (flk rfl trivial)))) (hP (hb) hN)))
def farAt (L B:List VR) (i:Nat):Prop:=∀ k,k < B.length→sp (pX L) (pY L) i ((i+1)%L.length) (pX B k) (pY B k) < 0
noncomputable def farB (L B:List VR) (i:Nat):Nat→Bool
 | 0=>true
 | k+1=>farB L B i k&&decide (sp (pX L) (pY L) i ((i+1)%L.length) (pX B k) (pY B k) < 0)
theorem farB_iff {L B:List VR} {i:Nat}:∀ n,farB L B i n=true ↔ ∀ k,k < n→sp (pX L) (pY L) i ((i+1)%L.length) (pX B k) (pY B k) < 0
 | 0=>⟨fun _ k hk=>by omega,fun _=>rfl⟩
 | n+1=>by
   show (farB L B i n&&decide _)=true↔_
   rw [Bool.and_eq_true,farB_iff n,decide_eq_true_eq]
   refine ⟨fun ⟨h1,h2⟩ k hk=>?_,fun h=>⟨fun k hk=>h k (by omega),h n (by omega)⟩⟩
   by_cases e:k=n
   ·subst e; exact h2
   exact h1 k (by omega)
open Classical in
noncomputable def fstI (p:Nat→Prop):Nat→Nat
 | 0=>0
 | n+1=>if ∃ k,k < n∧p k then fstI p n else n
theorem fstI_spec {p:Nat→Prop}:∀ n,(∃ k,k < n∧p k)→fstI p n < n∧p (fstI p n) ∧ ∀ j,j < fstI p n → ¬ p j
 | 0,h=>by obtain ⟨k,hk,_⟩:=h; omega
 | n+1,h=>by
   unfold fstI
   by_cases hn:∃ k,k < n∧p k
   ·rw [if_pos hn]
    obtain ⟨a,b,c⟩:=fstI_spec n hn
    exact ⟨by omega,b,c⟩
   rw [if_neg hn]
   obtain ⟨k,hk,hp⟩:=h
   have:k=n:=by
    apply Classical.byContradiction
    intro hne
    exact hn ⟨k,by omega,hp⟩
   subst this
   exact ⟨by omega,hp,fun j hj hpj=>hn ⟨j,hj,hpj⟩⟩
def MustYes (L B:List VR):Prop:=∃ i,i < L.length∧farAt L B i
def MustNo (L B:List VR):Prop:=¬ ∃ i,i < L.length∧farAt L B i
def MustApart (L B:List VR):Prop:=MustYes L B∨MustYes B L
noncomputable def fstE (L B:List VR):Nat:=fstI (farAt L B) L.length
noncomputable def nX (L B:List VR):Rat:=pY L ((fstE L B+1)%L.length) - pY L (fstE L B)
noncomputable def nY (L B:List VR):Rat:=-(pX L ((fstE L B+1)%L.length) - pX L (fstE L B))
theorem nX_s {L B:List VR} (ok:∀ v∈L,v.Ok):Sz (nX L B) 3000000:=(sub_s (cxy_s ok _).2 (cxy_s ok _).2).mono (by decide)
theorem nY_s {L B:List VR} (ok:∀ v∈L,v.Ok):Sz (nY L B) 3000000:=(neg_s (sub_s (cxy_s ok _).1 (cxy_s ok _).1)).mono (by decide)
theorem far_dot {L B:List VR} {u v w:VR} {i k n:Nat} (hL:L.length=n) (hu:L[i]? = some u) (hv:L[(i+1)%n]? = some v) (hw:B[k]? = some w):decide (0 < Int.sign (Rat.num ((v.y - u.y)*(w.x - u.x) + -(v.x - u.x)*(w.y - u.y))))=decide (sp (pX L) (pY L) i ((i+1)%L.length) (pX B k) (pY B k) < 0):=by
 subst hL
 rw [decide_eq_decide,sign_gt]
 unfold sp
 rw [pX_at hu,pY_at hu,pX_at hv,pY_at hv,pX_at hw,pY_at hw]
 constructor<;>intro h<;>grind
theorem rounds_first {P:Program} {body:Code} {id:Nat} {S:Nat→St} {e:St} {i0:Nat} (good:∀ i,i < i0→TSpec P body (S i) .normal (S (i+1))) (bad:TSpec P body (S i0) .ret e):∀ (d i:Nat),i+d=i0→Rounds P body id (S i) .ret e
 | 0,i,hi=>by
   obtain rfl:i=i0:=by omega
   exact .ret bad
 | d+1,i,hi=>.step (good i (by omega)) (rounds_first good bad d (i+1) (by omega))
theorem rounds_go {P:Program} {body:Code} {id:Nat} {S:Nat→St} {n:Nat} (good:∀ i,i < n→TSpec P body (S i) .normal (S (i+1))) (stop:TSpec P body (S n) (.exit id) (S n)):∀ (d i:Nat),i+d=n→Rounds P body id (S i) .normal (S n)
 | 0,i,hi=>by
   obtain rfl:i=n:=by omega
   exact .stop stop
 | d+1,i,hi=>.step (good i (by omega)) (rounds_go good stop d (i+1) (by omega))
section
variable {L B:List VR} {m c l d:Nat} (hL:L.length=m+1) (ok:∀ v∈L,v.Ok) (hB:B.length=l+1) (okB:∀ v∈B,v.Ok) (hm:m < 1000000) (hl:l < 1000000)
include hL ok hB okB hm hl
omit hm in
theorem by_in {u v:VR} {i:Nat} (hu:L[i]? = some u) (hv:L[(i+1)%(m+1)]? = some v):Rounds Tryd.prog (loopOf Tryd.f17 2) 2 (byI L B u v true m c l d i 0) .normal (byI L B u v (farB L B i (l+1)) m c l d i (l+1)):=by
 refine rounds_go (S:=fun k=>byI L B u v (farB L B i k) m c l d i k) (fun k hk=>?_) (by_c (decide_eq_false (by omega))) (l+1) 0 (by omega)
 have hw:=List.getElem?_eq_getElem (l:=B) (i:=k) (by omega)
 show TSpec _ _ (byI L B u v (farB L B i k) m c l d i k) .normal (byI L B u v (farB L B i k&&_) m c l d i (k+1))
 have hlt:decide ((k:Int) < ((l+1:Nat):Int))=true:=decide_eq_true (by omega)
 cases e:farB L B i k with
 | false=>exact by_b hw (ok _ (List.mem_of_getElem? hu)) (ok _ (List.mem_of_getElem? hv)) (okB _ (List.mem_of_getElem? hw)) hk hl hlt
 | true =>
   rw [Bool.true_and,← far_dot hL hu hv hw]
   exact by_a hw (ok _ (List.mem_of_getElem? hu)) (ok _ (List.mem_of_getElem? hv)) (okB _ (List.mem_of_getElem? hw)) hk hl hlt
theorem by_step {i:Nat} (hi:i < m+1) (hf:¬ farAt L B i):TSpec Tryd.prog (loopOf Tryd.f17 0) (byO L B m c l d i) .normal (byO L B m c l d (i+1)):=by
 have p1:(i+1)%(m+1) < m+1:=Nat.mod_lt _ (by omega)
 have hu:=List.getElem?_eq_getElem (l:=L) (i:=i) (by omega)
 have hv:=List.getElem?_eq_getElem (l:=L) (i:=(i+1)%(m+1)) (by omega)
 have hb:=(by_in (c:=c) (d:=d) hL ok hB okB hl hu hv).spec
 have e:farB L B i (l+1)=false:=by
  rw [← Bool.not_eq_true]
  intro h
  apply hf
  intro k hk
  exact (farB_iff (l+1)).1 h k (by omega)
 rw [e] at hb
 exact by_d hu hv (ok _ (List.mem_of_getElem? hu)) (ok _ (List.mem_of_getElem? hv)) hi hm p1 hb (decide_eq_true (by omega))
theorem by_last {i:Nat} (hi:i < m+1) (hf:farAt L B i) {u v:VR} (hu:L[i]? = some u) (hv:L[(i+1)%(m+1)]? = some v):TSpec Tryd.prog (loopOf Tryd.f17 0) (byO L B m c l d i) .ret (byR L B u v):=by
 have p1:(i+1)%(m+1) < m+1:=Nat.mod_lt _ (by omega)
 have hb:=(by_in (c:=c) (d:=d) hL ok hB okB hl hu hv).spec
 have e:farB L B i (l+1)=true:=(farB_iff (l+1)).2 fun k hk=>hf k (by omega)
 rw [e] at hb
 exact by_e hu hv (ok _ (List.mem_of_getElem? hu)) (ok _ (List.mem_of_getElem? hv)) hi hm p1 hb (decide_eq_true (by omega))
theorem beyondy_k (hq:MustYes L B):FSpec Tryd.prog 17 [.sl 0 0 (m+1) c,.sl 1 0 (l+1) d] [some ⟨false,vcs L⟩,some ⟨false,vcs B⟩] (.c (.tuple #[ag [rc (nX L B),rc (nY L B)],.bool true])) [some ⟨false,vcs L⟩,some ⟨false,vcs B⟩]:=by
 obtain ⟨a1,a2,a3⟩:=fstI_spec L.length hq
 rw [show fstI (farAt L B) L.length=fstE L B from rfl] at a1 a2 a3
 obtain ⟨u,hu⟩:∃ u,L[fstE L B]? = some u:=⟨_,List.getElem?_eq_getElem a1⟩
 obtain ⟨v,hv⟩:∃ v,L[(fstE L B+1)%(m+1)]? = some v:=⟨_,List.getElem?_eq_getElem (by have:=Nat.mod_lt (fstE L B+1) (show 0 < m+1 by omega); omega)⟩
 have hr:Rounds Tryd.prog (loopOf Tryd.f17 0) 0 (byO L B m c l d 0) .ret (byR L B _ _):=rounds_first (S:=fun i=>byO L B m c l d i) (fun i hi=>by_step hL ok hB okB hm hl (by omega) (a3 i hi)) (by_last hL ok hB okB hm hl (by omega) a2 hu hv) (fstE L B) 0 (by omega)
 have e1:nX L B=v.y - u.y:=by
  rw [← pY_at hu,← pY_at hv]
  unfold nX
  rw [hL]
 have e2:nY L B = -(v.x - u.x):=by
  rw [← pX_at hu,← pX_at hv]
  unfold nY
  rw [hL]
 rw [e1,e2]
 exact by_y hr.spec
theorem beyondn_k (hq:MustNo L B):FSpec Tryd.prog 17 [.sl 0 0 (m+1) c,.sl 1 0 (l+1) d] [some ⟨false,vcs L⟩,some ⟨false,vcs B⟩] (.c (.tuple #[ag [[.bool false],[.string ⟨#[]⟩],[.string ⟨#[]⟩],[.bool false],[.string ⟨#[]⟩],[.string ⟨#[]⟩]],.bool false])) [some ⟨false,vcs L⟩,some ⟨false,vcs B⟩]:=by
 have hr:Rounds Tryd.prog (loopOf Tryd.f17 0) 0 (byO L B m c l d 0) .normal (byO L B m c l d (m+1)):=rounds_go (S:=fun i=>byO L B m c l d i) (fun i hi=>by_step hL ok hB okB hm hl (by omega) (fun hf=>hq ⟨i,by omega,hf⟩)) (by_f (decide_eq_false (by omega))) (m+1) 0 (by omega)
 exact by_n (v:=z0) (u:=z0) hr.spec
end
end Go.Proofs.YtjefpjajkbldpaaDoor.G
end
section
namespace Go.Proofs.YtjefpjajkbldpaaDoor.G
open Go.Proofs.YtjefpjajkbldpaaDoor.U Go.RowKit
theorem zck64_k {ao:Option Addr} {c:Nat}    : CSpec Tryd.prog 60 #[(.slice ao 0 c),(.int .i64 64)] (.int .i64 (3:Int)):=by
 exact fn_ok Tryd.func60 (sc:=[]) (sb:=[]) (by kernel_rfl) hN
theorem zconv_k {ao:Option Addr} {c:Nat}    : CSpec Tryd.prog 35 #[(.slice ao 0 c)] (.int .i64 (3:Int)):=by
 exact fn_ok Tryd.func35 (sc:=[(1,1,.fix (.int .i64 (3:Int)))]) (sb:=[]) (by kernel_rfl) (hC (zck64_k (ao:=ao) (c:=c)) hN)
theorem both1_k {ao bo:Option Addr} {c n c2:Nat}   : CSpec Tryd.prog 16 #[(.slice ao 0 c),(.slice bo n c2)] (.int .i64 (3:Int)):=by
 exact fn_ok Tryd.func16 (sc:=[(1,1,.fix (.int .i64 (3:Int)))]) (sb:=[]) (by kernel_rfl) (hC (zconv_k (ao:=ao) (c:=c)) hN)
theorem both20 {L:List VR} {m c:Nat} {bo:Option Addr} {n c2:Nat} (hL:L.length=m+1) (ok:∀ v∈L,v.Ok)  (h0:(!decide (ringN L (64:Int)=(0:Int)))=true):FSpec Tryd.prog 16 [.sl 0 0 (m+1) c,.c (.slice bo n c2)] [some ⟨false,vcs L⟩] (.c (.int .i64 (ringN L (64:Int)))) [some ⟨false,vcs L⟩]:=by
 exact fspec_ok Tryd.func16 (sc:=[(1,1,.readf (.int .i64 (ringN L (64:Int)))),(2,1,.is (.c (.bool true)))]) (sb:=[]) (keep:=[]) (by kernel_rfl) (hP (show Flat [some ⟨false,vcs L⟩] from flk vcs_f trivial) (hP (show Flat [some { own:=false,cells:=vcs L }] from (flk vcs_f trivial)) (hF (convex_k (c:=c) hL ok) (hP (isB h0) hN))))
theorem both30 {L:List VR} {m c:Nat} {bo:Option Addr} {c2:Nat} (hL:L.length=m+1) (ok:∀ v∈L,v.Ok)  (h0:(!decide (ringN L (64:Int)=(0:Int)))=false):FSpec Tryd.prog 16 [.sl 0 0 (m+1) c,.c (.slice bo 0 c2)] [some ⟨false,vcs L⟩] (.c (.int .i64 (3:Int))) [some ⟨false,vcs L⟩]:=by
 exact fspec_ok Tryd.func16 (sc:=[(1,1,.readf (.int .i64 (ringN L (64:Int)))),(2,1,.is (.c (.bool false))),(4,1,.fix (.int .i64 (3:Int)))]) (sb:=[]) (keep:=[]) (by kernel_rfl) (hP (show Flat [some ⟨false,vcs L⟩] from flk vcs_f trivial) (hP (show Flat [some { own:=false,cells:=vcs L }] from (flk vcs_f trivial)) (hF (convex_k (c:=c) hL ok) (hP (isB h0) (hC (zconv_k (ao:=bo) (c:=c2)) hN)))))
theorem both40 {L B:List VR} {m c l d:Nat} (hL:L.length=m+1) (ok:∀ v∈L,v.Ok) (hB:B.length=l+1) (okB:∀ v∈B,v.Ok)  (h0:(!decide (ringN L (64:Int)=(0:Int)))=false):FSpec Tryd.prog 16 [.sl 0 0 (m+1) c,.sl 1 0 (l+1) d] [some ⟨false,vcs L⟩,some ⟨false,vcs B⟩] (.c (.int .i64 (ringN B (64:Int)))) [some ⟨false,vcs L⟩,some ⟨false,vcs B⟩]:=by
 exact fspec_ok Tryd.func16 (sc:=[(1,1,.readf (.int .i64 (ringN L (64:Int)))),(2,1,.is (.c (.bool false))),(4,1,.readf (.int .i64 (ringN B (64:Int))))]) (sb:=[]) (keep:=[]) (by kernel_rfl) (hP (show Flat [some ⟨false,vcs L⟩,some ⟨false,vcs B⟩] from flk vcs_f (flk vcs_f trivial)) (hP (show Flat [some { own:=false,cells:=vcs L }] from (flk vcs_f trivial)) (hF (convex_k (c:=c) hL ok) (hP (isB h0) (hP (show Flat [some { own:=false,cells:=vcs B }] from (flk vcs_f trivial)) (hF (convex_k (c:=d) hB okB) hN))))))
theorem ring_ok {L:List VR} (hq:MustPoly L):L.length≤64∧3≤L.length∧RingOk (pX L) (pY L) L.length:=by
 have h:=hq
 unfold MustPoly ringN at h
 by_cases h1:(64:Int) < (L.length:Int)
 ·rw [if_pos h1] at h; cases h
 rw [if_neg h1] at h
 by_cases h2:L.length < 3
 ·rw [if_pos h2] at h; cases h
 rw [if_neg h2] at h
 refine ⟨by omega,by omega,Classical.byContradiction fun hn=>?_⟩
 rw [if_neg hn] at h
 cases h
theorem neq_t {L:List VR} (hq:MustBad L):(!decide (ringN L 64=0))=true:=by rw [decide_eq_false (show ¬ ringN L 64=0 from hq)]; rfl
theorem neq_f {L:List VR} (hq:MustPoly L):(!decide (ringN L 64=0))=false:=by rw [decide_eq_true (show ringN L 64=0 from hq)]; rfl
theorem both2_k {L:List VR} {m c:Nat} {bo:Option Addr} {n c2:Nat} (hL:L.length=m+1) (ok:∀ v∈L,v.Ok)  (hq:MustBad L):FSpec Tryd.prog 16 [.sl 0 0 (m+1) c,.c (.slice bo n c2)] [some ⟨false,vcs L⟩] (.c (.int .i64 (ringN L 64))) [some ⟨false,vcs L⟩]:=both20 hL ok (neq_t hq)
theorem both3_k {L:List VR} {m c:Nat} {bo:Option Addr} {c2:Nat} (hL:L.length=m+1) (ok:∀ v∈L,v.Ok)  (hq:MustPoly L):FSpec Tryd.prog 16 [.sl 0 0 (m+1) c,.c (.slice bo 0 c2)] [some ⟨false,vcs L⟩] (.c (.int .i64 3)) [some ⟨false,vcs L⟩]:=both30 hL ok (neq_f hq)
theorem both4_k {L B:List VR} {m c l d:Nat} (hL:L.length=m+1) (ok:∀ v∈L,v.Ok) (hB:B.length=l+1) (okB:∀ v∈B,v.Ok)  (hq:MustPoly L):FSpec Tryd.prog 16 [.sl 0 0 (m+1) c,.sl 1 0 (l+1) d] [some ⟨false,vcs L⟩,some ⟨false,vcs B⟩] (.c (.int .i64 (ringN B 64))) [some ⟨false,vcs L⟩,some ⟨false,vcs B⟩]:=both40 hL ok hB okB (neq_f hq)
theorem meet1_k {ao bo:Option Addr} {c n c2:Nat}   : CSpec Tryd.prog 5 #[(.slice ao 0 c),(.slice bo n c2)] (.tuple #[.bool false,.int .i64 (3:Int)]):=by
 exact fn_ok Tryd.func5 (sc:=[(1,2,.fix (.int .i64 (3:Int)))]) (sb:=[]) (by kernel_rfl) (hC (both1_k (ao:=ao) (bo:=bo) (c:=c) (n:=n) (c2:=c2)) hN)
theorem meet20 {L:List VR} {m c:Nat} {bo:Option Addr} {n c2:Nat} (hL:L.length=m+1) (ok:∀ v∈L,v.Ok) (hq:MustBad L)  (h0:(!decide (ringN L (64:Int)=(0:Int)))=true):FSpec Tryd.prog 5 [.sl 0 0 (m+1) c,.c (.slice bo n c2)] [some ⟨false,vcs L⟩] (.c (.tuple #[.bool false,.int .i64 (ringN L (64:Int))])) [some ⟨false,vcs L⟩]:=by
 exact fspec_ok Tryd.func5 (sc:=[(1,2,.readf (.int .i64 (ringN L (64:Int)))),(2,1,.is (.c (.bool true)))]) (sb:=[]) (keep:=[]) (by kernel_rfl) (hP (show Flat [some ⟨false,vcs L⟩] from flk vcs_f trivial) (hP (show Flat [some { own:=false,cells:=vcs L }] from (flk vcs_f trivial)) (hF (both2_k (c:=c) (bo:=bo) (n:=n) (c2:=c2) hL ok hq) (hP (isB h0) hN))))
theorem meet3_k {L:List VR} {m c:Nat} {bo:Option Addr} {c2:Nat} (hL:L.length=m+1) (ok:∀ v∈L,v.Ok) (hq:MustPoly L)   : FSpec Tryd.prog 5 [.sl 0 0 (m+1) c,.c (.slice bo 0 c2)] [some ⟨false,vcs L⟩] (.c (.tuple #[.bool false,.int .i64 (3:Int)])) [some ⟨false,vcs L⟩]:=by
 exact fspec_ok Tryd.func5 (sc:=[(1,2,.readf (.int .i64 (3:Int)))]) (sb:=[]) (keep:=[]) (by kernel_rfl) (hP (show Flat [some ⟨false,vcs L⟩] from flk vcs_f trivial) (hP (show Flat [some { own:=false,cells:=vcs L }] from (flk vcs_f trivial)) (hF (both3_k (c:=c) (bo:=bo) (c2:=c2) hL ok hq) hN)))
theorem meet40 {L B:List VR} {m c l d:Nat} (hL:L.length=m+1) (ok:∀ v∈L,v.Ok) (hB:B.length=l+1) (okB:∀ v∈B,v.Ok) (hq:MustPoly L) (hq':MustBad B)  (h0:(!decide (ringN B (64:Int)=(0:Int)))=true):FSpec Tryd.prog 5 [.sl 0 0 (m+1) c,.sl 1 0 (l+1) d] [some ⟨false,vcs L⟩,some ⟨false,vcs B⟩] (.c (.tuple #[.bool false,.int .i64 (ringN B (64:Int))])) [some ⟨false,vcs L⟩,some ⟨false,vcs B⟩]:=by
 exact fspec_ok Tryd.func5 (sc:=[(1,2,.readf (.int .i64 (ringN B (64:Int)))),(2,1,.is (.c (.bool true)))]) (sb:=[]) (keep:=[]) (by kernel_rfl) (hP (show Flat [some ⟨false,vcs L⟩,some ⟨false,vcs B⟩] from flk vcs_f (flk vcs_f trivial)) (hP (show Flat [some { own:=false,cells:=vcs L },some { own:=false,cells:=vcs B }] from (flk vcs_f (flk vcs_f trivial))) (hF (both4_k (c:=c) (d:=d) hL ok hB okB hq) (hP (isB h0) hN))))
theorem meetNN {L B:List VR} {m c l d:Nat} (hL:L.length=m+1) (ok:∀ v∈L,v.Ok) (hB:B.length=l+1) (okB:∀ v∈B,v.Ok) (hm:m < 64) (hl:l < 64) (hp:MustPoly L) (hp':MustPoly B) (h1:MustNo L B) (h2:MustNo B L)  (h0:(!decide (ringN B (64:Int)=(0:Int)))=false):FSpec Tryd.prog 5 [.sl 0 0 (m+1) c,.sl 1 0 (l+1) d] [some ⟨false,vcs L⟩,some ⟨false,vcs B⟩] (.c (.tuple #[.bool true,.int .i64 (0:Int)])) [some ⟨false,vcs L⟩,some ⟨false,vcs B⟩]:=by
 exact fspec_ok Tryd.func5 (sc:=[(1,2,.readf (.int .i64 (ringN B (64:Int)))),(2,1,.is (.c (.bool false))),(4,2,.readf (.tuple #[ag [[.bool false],[.string ({ data:=#[] })],[.string ({ data:=#[] })],[.bool false],[.string ({ data:=#[] })],[.string ({ data:=#[] })]],.bool false])),(5,2,.readf (.tuple #[ag [[.bool false],[.string ({ data:=#[] })],[.string ({ data:=#[] })],[.bool false],[.string ({ data:=#[] })],[.string ({ data:=#[] })]],.bool false]))]) (sb:=[]) (keep:=[]) (by kernel_rfl) (hP (show Flat [some ⟨false,vcs L⟩,some ⟨false,vcs B⟩] from flk vcs_f (flk vcs_f trivial)) (hP (show Flat [some { own:=false,cells:=vcs L },some { own:=false,cells:=vcs B }] from (flk vcs_f (flk vcs_f trivial))) (hF (both4_k (c:=c) (d:=d) hL ok hB okB hp) (hP (isB h0) (hP (show Flat [some { own:=false,cells:=vcs L },some { own:=false,cells:=vcs B }] from (flk vcs_f (flk vcs_f trivial))) (hF (beyondn_k (c:=c) (d:=d) hL ok hB okB (by omega) (by omega) h1) (hP (show Flat [some { own:=false,cells:=vcs B },some { own:=false,cells:=vcs L }] from (flk vcs_f (flk vcs_f trivial))) (hF (beyondn_k (c:=d) (d:=c) hB okB hL ok (by omega) (by omega) h2) hN))))))))
theorem meetYN {L B:List VR} {m c l d:Nat} (hL:L.length=m+1) (ok:∀ v∈L,v.Ok) (hB:B.length=l+1) (okB:∀ v∈B,v.Ok) (hm:m < 64) (hl:l < 64) (hp:MustPoly L) (hp':MustPoly B) (h1:MustYes L B) (h2:MustNo B L)  (h0:(!decide (ringN B (64:Int)=(0:Int)))=false):FSpec Tryd.prog 5 [.sl 0 0 (m+1) c,.sl 1 0 (l+1) d] [some ⟨false,vcs L⟩,some ⟨false,vcs B⟩] (.c (.tuple #[.bool false,.int .i64 (0:Int)])) [some ⟨false,vcs L⟩,some ⟨false,vcs B⟩]:=by
 exact fspec_ok Tryd.func5 (sc:=[(1,2,.readf (.int .i64 (ringN B (64:Int)))),(2,1,.is (.c (.bool false))),(4,2,.readf (.tuple #[ag [rc (nX L B),rc (nY L B)],.bool true])),(5,2,.readf (.tuple #[ag [[.bool false],[.string ({ data:=#[] })],[.string ({ data:=#[] })],[.bool false],[.string ({ data:=#[] })],[.string ({ data:=#[] })]],.bool false]))]) (sb:=[]) (keep:=[]) (by kernel_rfl) (hP (show Flat [some ⟨false,vcs L⟩,some ⟨false,vcs B⟩] from flk vcs_f (flk vcs_f trivial)) (hP (show Flat [some { own:=false,cells:=vcs L },some { own:=false,cells:=vcs B }] from (flk vcs_f (flk vcs_f trivial))) (hF (both4_k (c:=c) (d:=d) hL ok hB okB hp) (hP (isB h0) (hP (show Flat [some { own:=false,cells:=vcs L },some { own:=false,cells:=vcs B }] from (flk vcs_f (flk vcs_f trivial))) (hF (beyondy_k (c:=c) (d:=d) hL ok hB okB (by omega) (by omega) h1) (hP (show Flat [some { own:=false,cells:=vcs B },some { own:=false,cells:=vcs L }] from (flk vcs_f (flk vcs_f trivial))) (hF (beyondn_k (c:=d) (d:=c) hB okB hL ok (by omega) (by omega) h2) hN))))))))
theorem meetNY {L B:List VR} {m c l d:Nat} (hL:L.length=m+1) (ok:∀ v∈L,v.Ok) (hB:B.length=l+1) (okB:∀ v∈B,v.Ok) (hm:m < 64) (hl:l < 64) (hp:MustPoly L) (hp':MustPoly B) (h1:MustNo L B) (h2:MustYes B L)  (h0:(!decide (ringN B (64:Int)=(0:Int)))=false):FSpec Tryd.prog 5 [.sl 0 0 (m+1) c,.sl 1 0 (l+1) d] [some ⟨false,vcs L⟩,some ⟨false,vcs B⟩] (.c (.tuple #[.bool false,.int .i64 (0:Int)])) [some ⟨false,vcs L⟩,some ⟨false,vcs B⟩]:=by
 exact fspec_ok Tryd.func5 (sc:=[(1,2,.readf (.int .i64 (ringN B (64:Int)))),(2,1,.is (.c (.bool false))),(4,2,.readf (.tuple #[ag [[.bool false],[.string ({ data:=#[] })],[.string ({ data:=#[] })],[.bool false],[.string ({ data:=#[] })],[.string ({ data:=#[] })]],.bool false])),(5,2,.readf (.tuple #[ag [rc (nX B L),rc (nY B L)],.bool true]))]) (sb:=[]) (keep:=[]) (by kernel_rfl) (hP (show Flat [some ⟨false,vcs L⟩,some ⟨false,vcs B⟩] from flk vcs_f (flk vcs_f trivial)) (hP (show Flat [some { own:=false,cells:=vcs L },some { own:=false,cells:=vcs B }] from (flk vcs_f (flk vcs_f trivial))) (hF (both4_k (c:=c) (d:=d) hL ok hB okB hp) (hP (isB h0) (hP (show Flat [some { own:=false,cells:=vcs L },some { own:=false,cells:=vcs B }] from (flk vcs_f (flk vcs_f trivial))) (hF (beyondn_k (c:=c) (d:=d) hL ok hB okB (by omega) (by omega) h1) (hP (show Flat [some { own:=false,cells:=vcs B },some { own:=false,cells:=vcs L }] from (flk vcs_f (flk vcs_f trivial))) (hF (beyondy_k (c:=d) (d:=c) hB okB hL ok (by omega) (by omega) h2) hN))))))))
theorem meetYY {L B:List VR} {m c l d:Nat} (hL:L.length=m+1) (ok:∀ v∈L,v.Ok) (hB:B.length=l+1) (okB:∀ v∈B,v.Ok) (hm:m < 64) (hl:l < 64) (hp:MustPoly L) (hp':MustPoly B) (h1:MustYes L B) (h2:MustYes B L)  (h0:(!decide (ringN B (64:Int)=(0:Int)))=false):FSpec Tryd.prog 5 [.sl 0 0 (m+1) c,.sl 1 0 (l+1) d] [some ⟨false,vcs L⟩,some ⟨false,vcs B⟩] (.c (.tuple #[.bool false,.int .i64 (0:Int)])) [some ⟨false,vcs L⟩,some ⟨false,vcs B⟩]:=by
 exact fspec_ok Tryd.func5 (sc:=[(1,2,.readf (.int .i64 (ringN B (64:Int)))),(2,1,.is (.c (.bool false))),(4,2,.readf (.tuple #[ag [rc (nX L B),rc (nY L B)],.bool true])),(5,2,.readf (.tuple #[ag [rc (nX B L),rc (nY B L)],.bool true]))]) (sb:=[]) (keep:=[]) (by kernel_rfl) (hP (show Flat [some ⟨false,vcs L⟩,some ⟨false,vcs B⟩] from flk vcs_f (flk vcs_f trivial)) (hP (show Flat [some { own:=false,cells:=vcs L },some { own:=false,cells:=vcs B }] from (flk vcs_f (flk vcs_f trivial))) (hF (both4_k (c:=c) (d:=d) hL ok hB okB hp) (hP (isB h0) (hP (show Flat [some { own:=false,cells:=vcs L },some { own:=false,cells:=vcs B }] from (flk vcs_f (flk vcs_f trivial))) (hF (beyondy_k (c:=c) (d:=d) hL ok hB okB (by omega) (by omega) h1) (hP (show Flat [some { own:=false,cells:=vcs B },some { own:=false,cells:=vcs L }] from (flk vcs_f (flk vcs_f trivial))) (hF (beyondy_k (c:=d) (d:=c) hB okB hL ok (by omega) (by omega) h2) hN))))))))
theorem axis1_k {ao bo:Option Addr} {c n c2:Nat}   : CSpec Tryd.prog 7 #[(.slice ao 0 c),(.slice bo n c2)] (.tuple #[ag [[.bool false],[.string ({ data:=#[] })],[.string ({ data:=#[] })],[.bool false],[.string ({ data:=#[] })],[.string ({ data:=#[] })]],.int .i64 (3:Int)]):=by
 exact fn_ok Tryd.func7 (sc:=[(1,2,.fix (.int .i64 (3:Int)))]) (sb:=[]) (by kernel_rfl) (hC (both1_k (ao:=ao) (bo:=bo) (c:=c) (n:=n) (c2:=c2)) hN)
theorem axis20 {L:List VR} {m c:Nat} {bo:Option Addr} {n c2:Nat} (hL:L.length=m+1) (ok:∀ v∈L,v.Ok) (hq:MustBad L)  (h0:(!decide (ringN L (64:Int)=(0:Int)))=true):FSpec Tryd.prog 7 [.sl 0 0 (m+1) c,.c (.slice bo n c2)] [some ⟨false,vcs L⟩] (.c (.tuple #[ag [[.bool false],[.string ({ data:=#[] })],[.string ({ data:=#[] })],[.bool false],[.string ({ data:=#[] })],[.string ({ data:=#[] })]],.int .i64 (ringN L (64:Int))])) [some ⟨false,vcs L⟩]:=by
 exact fspec_ok Tryd.func7 (sc:=[(1,2,.readf (.int .i64 (ringN L (64:Int)))),(2,1,.is (.c (.bool true)))]) (sb:=[]) (keep:=[]) (by kernel_rfl) (hP (show Flat [some ⟨false,vcs L⟩] from flk vcs_f trivial) (hP (show Flat [some { own:=false,cells:=vcs L }] from (flk vcs_f trivial)) (hF (both2_k (c:=c) (bo:=bo) (n:=n) (c2:=c2) hL ok hq) (hP (isB h0) hN))))
theorem axis3_k {L:List VR} {m c:Nat} {bo:Option Addr} {c2:Nat} (hL:L.length=m+1) (ok:∀ v∈L,v.Ok) (hq:MustPoly L)   : FSpec Tryd.prog 7 [.sl 0 0 (m+1) c,.c (.slice bo 0 c2)] [some ⟨false,vcs L⟩] (.c (.tuple #[ag [[.bool false],[.string ({ data:=#[] })],[.string ({ data:=#[] })],[.bool false],[.string ({ data:=#[] })],[.string ({ data:=#[] })]],.int .i64 (3:Int)])) [some ⟨false,vcs L⟩]:=by
 exact fspec_ok Tryd.func7 (sc:=[(1,2,.readf (.int .i64 (3:Int)))]) (sb:=[]) (keep:=[]) (by kernel_rfl) (hP (show Flat [some ⟨false,vcs L⟩] from flk vcs_f trivial) (hP (show Flat [some { own:=false,cells:=vcs L }] from (flk vcs_f trivial)) (hF (both3_k (c:=c) (bo:=bo) (c2:=c2) hL ok hq) hN)))
theorem axis40 {L B:List VR} {m c l d:Nat} (hL:L.length=m+1) (ok:∀ v∈L,v.Ok) (hB:B.length=l+1) (okB:∀ v∈B,v.Ok) (hq:MustPoly L) (hq':MustBad B)  (h0:(!decide (ringN B (64:Int)=(0:Int)))=true):FSpec Tryd.prog 7 [.sl 0 0 (m+1) c,.sl 1 0 (l+1) d] [some ⟨false,vcs L⟩,some ⟨false,vcs B⟩] (.c (.tuple #[ag [[.bool false],[.string ({ data:=#[] })],[.string ({ data:=#[] })],[.bool false],[.string ({ data:=#[] })],[.string ({ data:=#[] })]],.int .i64 (ringN B (64:Int))])) [some ⟨false,vcs L⟩,some ⟨false,vcs B⟩]:=by
 exact fspec_ok Tryd.func7 (sc:=[(1,2,.readf (.int .i64 (ringN B (64:Int)))),(2,1,.is (.c (.bool true)))]) (sb:=[]) (keep:=[]) (by kernel_rfl) (hP (show Flat [some ⟨false,vcs L⟩,some ⟨false,vcs B⟩] from flk vcs_f (flk vcs_f trivial)) (hP (show Flat [some { own:=false,cells:=vcs L },some { own:=false,cells:=vcs B }] from (flk vcs_f (flk vcs_f trivial))) (hF (both4_k (c:=c) (d:=d) hL ok hB okB hq) (hP (isB h0) hN))))
theorem axisT0 {L B:List VR} {m c l d:Nat} (hL:L.length=m+1) (ok:∀ v∈L,v.Ok) (hB:B.length=l+1) (okB:∀ v∈B,v.Ok) (hm:m < 64) (hl:l < 64) (hp:MustPoly L) (hp':MustPoly B) (h1:MustNo L B) (h2:MustNo B L)  (h0:(!decide (ringN B (64:Int)=(0:Int)))=false):FSpec Tryd.prog 7 [.sl 0 0 (m+1) c,.sl 1 0 (l+1) d] [some ⟨false,vcs L⟩,some ⟨false,vcs B⟩] (.c (.tuple #[ag [[.bool false],[.string ({ data:=#[] })],[.string ({ data:=#[] })],[.bool false],[.string ({ data:=#[] })],[.string ({ data:=#[] })]],.int .i64 (10:Int)])) [some ⟨false,vcs L⟩,some ⟨false,vcs B⟩]:=by
 exact fspec_ok Tryd.func7 (sc:=[(1,2,.readf (.int .i64 (ringN B (64:Int)))),(2,1,.is (.c (.bool false))),(4,2,.readf (.tuple #[ag [[.bool false],[.string ({ data:=#[] })],[.string ({ data:=#[] })],[.bool false],[.string ({ data:=#[] })],[.string ({ data:=#[] })]],.bool false])),(7,2,.readf (.tuple #[ag [[.bool false],[.string ({ data:=#[] })],[.string ({ data:=#[] })],[.bool false],[.string ({ data:=#[] })],[.string ({ data:=#[] })]],.bool false]))]) (sb:=[]) (keep:=[]) (by kernel_rfl) (hP (show Flat [some ⟨false,vcs L⟩,some ⟨false,vcs B⟩] from flk vcs_f (flk vcs_f trivial)) (hP (show Flat [some { own:=false,cells:=vcs L },some { own:=false,cells:=vcs B }] from (flk vcs_f (flk vcs_f trivial))) (hF (both4_k (c:=c) (d:=d) hL ok hB okB hp) (hP (isB h0) (hP (show Flat [some { own:=false,cells:=vcs L },some { own:=false,cells:=vcs B }] from (flk vcs_f (flk vcs_f trivial))) (hF (beyondn_k (c:=c) (d:=d) hL ok hB okB (by omega) (by omega) h1) (hP (show Flat [some { own:=false,cells:=vcs B },some { own:=false,cells:=vcs L }] from (flk vcs_f (flk vcs_f trivial))) (hF (beyondn_k (c:=d) (d:=c) hB okB hL ok (by omega) (by omega) h2) hN))))))))
theorem axisA0 {L B:List VR} {m c l d:Nat} (hL:L.length=m+1) (ok:∀ v∈L,v.Ok) (hB:B.length=l+1) (okB:∀ v∈B,v.Ok) (hm:m < 64) (hl:l < 64) (hp:MustPoly L) (hp':MustPoly B) (h1:MustYes L B)  (h0:(!decide (ringN B (64:Int)=(0:Int)))=false):FSpec Tryd.prog 7 [.sl 0 0 (m+1) c,.sl 1 0 (l+1) d] [some ⟨false,vcs L⟩,some ⟨false,vcs B⟩] (.c (.tuple #[ag [rc (nX L B),rc (nY L B)],.int .i64 (0:Int)])) [some ⟨false,vcs L⟩,some ⟨false,vcs B⟩]:=by
 exact fspec_ok Tryd.func7 (sc:=[(1,2,.readf (.int .i64 (ringN B (64:Int)))),(2,1,.is (.c (.bool false))),(4,2,.readf (.tuple #[ag [rc (nX L B),rc (nY L B)],.bool true]))]) (sb:=[]) (keep:=[]) (by kernel_rfl) (hP (show Flat [some ⟨false,vcs L⟩,some ⟨false,vcs B⟩] from flk vcs_f (flk vcs_f trivial)) (hP (show Flat [some { own:=false,cells:=vcs L },some { own:=false,cells:=vcs B }] from (flk vcs_f (flk vcs_f trivial))) (hF (both4_k (c:=c) (d:=d) hL ok hB okB hp) (hP (isB h0) (hP (show Flat [some { own:=false,cells:=vcs L },some { own:=false,cells:=vcs B }] from (flk vcs_f (flk vcs_f trivial))) (hF (beyondy_k (c:=c) (d:=d) hL ok hB okB (by omega) (by omega) h1) hN))))))
theorem axisB0 {L B:List VR} {m c l d:Nat} (hL:L.length=m+1) (ok:∀ v∈L,v.Ok) (hB:B.length=l+1) (okB:∀ v∈B,v.Ok) (hm:m < 64) (hl:l < 64) (hp:MustPoly L) (hp':MustPoly B) (h1:MustNo L B) (h2:MustYes B L)  (h0:(!decide (ringN B (64:Int)=(0:Int)))=false):FSpec Tryd.prog 7 [.sl 0 0 (m+1) c,.sl 1 0 (l+1) d] [some ⟨false,vcs L⟩,some ⟨false,vcs B⟩] (.c (.tuple #[ag [rc ((0:Rat) - nX B L),rc ((0:Rat) - nY B L)],.int .i64 (0:Int)])) [some ⟨false,vcs L⟩,some ⟨false,vcs B⟩]:=by
 have s1:=isR0_s
 have s2:=(nX_s (B:=L) okB)
 have s3:=(isR_s s2)
 have s4:=(nY_s (B:=L) okB)
 have s5:=(isR_s s4)
 exact fspec_ok Tryd.func7 (sc:=[(1,2,.readf (.int .i64 (ringN B (64:Int)))),(2,1,.is (.c (.bool false))),(4,2,.readf (.tuple #[ag [[.bool false],[.string ({ data:=#[] })],[.string ({ data:=#[] })],[.bool false],[.string ({ data:=#[] })],[.string ({ data:=#[] })]],.bool false])),(7,2,.readf (.tuple #[ag [rc (nX B L),rc (nY B L)],.bool true])),(9,2,.fix (ag [rc ((0:Rat) - nX B L),rc ((0:Rat) - nY B L)]))]) (sb:=[]) (keep:=[]) (by kernel_rfl) (hP (show Flat [some ⟨false,vcs L⟩,some ⟨false,vcs B⟩] from flk vcs_f (flk vcs_f trivial)) (hP (show Flat [some { own:=false,cells:=vcs L },some { own:=false,cells:=vcs B }] from (flk vcs_f (flk vcs_f trivial))) (hF (both4_k (c:=c) (d:=d) hL ok hB okB hp) (hP (isB h0) (hP (show Flat [some { own:=false,cells:=vcs L },some { own:=false,cells:=vcs B }] from (flk vcs_f (flk vcs_f trivial))) (hF (beyondn_k (c:=c) (d:=d) hL ok hB okB (by omega) (by omega) h1) (hP (show Flat [some { own:=false,cells:=vcs B },some { own:=false,cells:=vcs L }] from (flk vcs_f (flk vcs_f trivial))) (hF (beyondy_k (c:=d) (d:=c) hB okB hL ok (by omega) (by omega) h2) (hC (vsub_k s1 (by decide +kernel) s1 (by decide +kernel) s3 (by decide +kernel) s5 (by decide +kernel)) hN)))))))))
theorem meet2_k {L:List VR} {m c:Nat} {bo:Option Addr} {n c2:Nat} (hL:L.length=m+1) (ok:∀ v∈L,v.Ok) (hq:MustBad L):FSpec Tryd.prog 5 [.sl 0 0 (m+1) c,.c (.slice bo n c2)] [some ⟨false,vcs L⟩] (.c (.tuple #[.bool false,.int .i64 (ringN L 64)])) [some ⟨false,vcs L⟩]:=meet20 hL ok hq (neq_t hq)
theorem meet4_k {L B:List VR} {m c l d:Nat} (hL:L.length=m+1) (ok:∀ v∈L,v.Ok) (hB:B.length=l+1) (okB:∀ v∈B,v.Ok) (hq:MustPoly L) (hq':MustBad B):FSpec Tryd.prog 5 [.sl 0 0 (m+1) c,.sl 1 0 (l+1) d] [some ⟨false,vcs L⟩,some ⟨false,vcs B⟩] (.c (.tuple #[.bool false,.int .i64 (ringN B 64)])) [some ⟨false,vcs L⟩,some ⟨false,vcs B⟩]:=meet40 hL ok hB okB hq hq' (neq_t hq')
theorem meetT_k {L B:List VR} {m c l d:Nat} (hL:L.length=m+1) (ok:∀ v∈L,v.Ok) (hB:B.length=l+1) (okB:∀ v∈B,v.Ok) (hm:m < 64) (hl:l < 64) (hp:MustPoly L) (hp':MustPoly B) (h1:MustNo L B) (h2:MustNo B L):FSpec Tryd.prog 5 [.sl 0 0 (m+1) c,.sl 1 0 (l+1) d] [some ⟨false,vcs L⟩,some ⟨false,vcs B⟩] (.c (.tuple #[.bool true,.int .i64 0])) [some ⟨false,vcs L⟩,some ⟨false,vcs B⟩]:=meetNN hL ok hB okB hm hl hp hp' h1 h2 (neq_f hp')
theorem meetF_k {L B:List VR} {m c l d:Nat} (hL:L.length=m+1) (ok:∀ v∈L,v.Ok) (hB:B.length=l+1) (okB:∀ v∈B,v.Ok) (hm:m < 64) (hl:l < 64) (hp:MustPoly L) (hp':MustPoly B) (hx:MustApart L B):FSpec Tryd.prog 5 [.sl 0 0 (m+1) c,.sl 1 0 (l+1) d] [some ⟨false,vcs L⟩,some ⟨false,vcs B⟩] (.c (.tuple #[.bool false,.int .i64 0])) [some ⟨false,vcs L⟩,some ⟨false,vcs B⟩]:=by
 by_cases h1:MustYes L B<;>by_cases h2:MustYes B L
 ·exact meetYY hL ok hB okB hm hl hp hp' h1 h2 (neq_f hp')
 ·exact meetYN hL ok hB okB hm hl hp hp' h1 h2 (neq_f hp')
 ·exact meetNY hL ok hB okB hm hl hp hp' h1 h2 (neq_f hp')
 exact absurd hx (fun h=>h.elim h1 h2)
theorem axis2_k {L:List VR} {m c:Nat} {bo:Option Addr} {n c2:Nat} (hL:L.length=m+1) (ok:∀ v∈L,v.Ok) (hq:MustBad L):FSpec Tryd.prog 7 [.sl 0 0 (m+1) c,.c (.slice bo n c2)] [some ⟨false,vcs L⟩] (.c (.tuple #[ag [[.bool false],[.string ⟨#[]⟩],[.string ⟨#[]⟩],[.bool false],[.string ⟨#[]⟩],[.string ⟨#[]⟩]],.int .i64 (ringN L 64)])) [some ⟨false,vcs L⟩]:=axis20 hL ok hq (neq_t hq)
theorem axis4_k {L B:List VR} {m c l d:Nat} (hL:L.length=m+1) (ok:∀ v∈L,v.Ok) (hB:B.length=l+1) (okB:∀ v∈B,v.Ok) (hq:MustPoly L) (hq':MustBad B):FSpec Tryd.prog 7 [.sl 0 0 (m+1) c,.sl 1 0 (l+1) d] [some ⟨false,vcs L⟩,some ⟨false,vcs B⟩] (.c (.tuple #[ag [[.bool false],[.string ⟨#[]⟩],[.string ⟨#[]⟩],[.bool false],[.string ⟨#[]⟩],[.string ⟨#[]⟩]],.int .i64 (ringN B 64)])) [some ⟨false,vcs L⟩,some ⟨false,vcs B⟩]:=axis40 hL ok hB okB hq hq' (neq_t hq')
theorem axisT_k {L B:List VR} {m c l d:Nat} (hL:L.length=m+1) (ok:∀ v∈L,v.Ok) (hB:B.length=l+1) (okB:∀ v∈B,v.Ok) (hm:m < 64) (hl:l < 64) (hp:MustPoly L) (hp':MustPoly B) (h1:MustNo L B) (h2:MustNo B L):FSpec Tryd.prog 7 [.sl 0 0 (m+1) c,.sl 1 0 (l+1) d] [some ⟨false,vcs L⟩,some ⟨false,vcs B⟩] (.c (.tuple #[ag [[.bool false],[.string ⟨#[]⟩],[.string ⟨#[]⟩],[.bool false],[.string ⟨#[]⟩],[.string ⟨#[]⟩]],.int .i64 10])) [some ⟨false,vcs L⟩,some ⟨false,vcs B⟩]:=axisT0 hL ok hB okB hm hl hp hp' h1 h2 (neq_f hp')
theorem axisA_k {L B:List VR} {m c l d:Nat} (hL:L.length=m+1) (ok:∀ v∈L,v.Ok) (hB:B.length=l+1) (okB:∀ v∈B,v.Ok) (hm:m < 64) (hl:l < 64) (hp:MustPoly L) (hp':MustPoly B) (h1:MustYes L B):FSpec Tryd.prog 7 [.sl 0 0 (m+1) c,.sl 1 0 (l+1) d] [some ⟨false,vcs L⟩,some ⟨false,vcs B⟩] (.c (.tuple #[ag [rc (nX L B),rc (nY L B)],.int .i64 0])) [some ⟨false,vcs L⟩,some ⟨false,vcs B⟩]:=axisA0 hL ok hB okB hm hl hp hp' h1 (neq_f hp')
theorem axisB_k {L B:List VR} {m c l d:Nat} (hL:L.length=m+1) (ok:∀ v∈L,v.Ok) (hB:B.length=l+1) (okB:∀ v∈B,v.Ok) (hm:m < 64) (hl:l < 64) (hp:MustPoly L) (hp':MustPoly B) (h1:MustNo L B) (h2:MustYes B L):FSpec Tryd.prog 7 [.sl 0 0 (m+1) c,.sl 1 0 (l+1) d] [some ⟨false,vcs L⟩,some ⟨false,vcs B⟩] (.c (.tuple #[ag [rc (0 - nX B L),rc (0 - nY B L)],.int .i64 0])) [some ⟨false,vcs L⟩,some ⟨false,vcs B⟩]:=axisB0 hL ok hB okB hm hl hp hp' h1 h2 (neq_f hp')
def sqI (L B:List VR) (s:Rat) (m c l d i:Nat):St:=⟨slots 55 0 [(0,.sl 0 0 (m+1) c),(1,.sl 1 0 (l+1) d),(4,.p 2 0),(8,.p 3 0),(30,.sl 0 0 (m+1) c),(31,.c (.int .i64 (((m+1:Nat):Int)))),(32,.c (.int .i64 (((i:Nat):Int))))],[some ⟨false,vcs L⟩,some ⟨false,vcs B⟩,some ⟨true,nv [[.bool false],[.string ⟨#[]⟩],[.string ⟨#[]⟩]]⟩,some ⟨true,nv [rc s]⟩]⟩
def sqJ (L B:List VR) (s:Rat) (m c l d i:Nat):St:=⟨slots 55 0 [(0,.sl 0 0 (m+1) c),(1,.sl 1 0 (l+1) d),(4,.p 2 0),(8,.p 3 0),(42,.sl 1 0 (l+1) d),(43,.c (.int .i64 (((l+1:Nat):Int)))),(44,.c (.int .i64 (((i:Nat):Int))))],[some ⟨false,vcs L⟩,some ⟨false,vcs B⟩,some ⟨true,nv [[.bool false],[.string ⟨#[]⟩],[.string ⟨#[]⟩]]⟩,some ⟨true,nv [rc s]⟩]⟩
theorem sq_a {L B:List VR} {u:VR} {s:Rat} {m c l d i:Nat} (hB:B.length=l+1) (okB:∀ v∈B,v.Ok) (hl:l < 64) (l3:3≤l+1) (hs:Sz s 26000000) (hu:L[i]? = some u) (ou:u.Ok) (hi:i < m+1) (hm:m < 64) (h0:decide ((↑i:Int) < (↑(m+(1:Nat)):Int))=true):TSpec Tryd.prog (loopOf Tryd.f6 0) (sqI L B s m c l d i) (.normal) (sqI L B (mn s (nearV B u.x u.y)) m c l d (i+1)):=by
 have s1:=(vr1_s ou)
 have s2:=(vr2_s ou)
 have s3:=(isR_s hs)
 have s4:=(nearV_s okB (szr s1) (szr s2))
 have s5:=(isR_s s4)
 exact tspec_dim (mask 55 0 [0,1,4,8,30,31,32]) 4 (sc:=[(8,0,.is (.c (.bool true))),(9,1,.fix (ag [[.bool (VR.n1 u)],[.string (VR.a1 u)],[.string (VR.b1 u)],[.bool (VR.n2 u)],[.string (VR.a2 u)],[.string (VR.b2 u)]])),(10,3,.readf (Rv (nearV B (VR.x u) (VR.y u)))),(10,4,.fix (Rv (mn s (nearV B (VR.x u) (VR.y u))))),(11,0,.is (.c (.int .i64 ((↑(i+(1:Nat)):Int)))))]) (sb:=[]) (by kernel_rfl) (hP (isB h0) (hP (show (0:Int)≤(↑i:Int)∧(↑i:Int) < (↑(m+(1:Nat)):Int) by omega) (hP (vcs_ld hu) (hP (show Flat [some { own:=false,cells:=vcs B }] from (flk vcs_f trivial)) (hF (nearr_k (c:=d) hB okB hl s1 s2 l3) (hC (min_k s3 s5 (by decide +kernel)) (hP (incn (i:=i) hi (by omega)) hN))))))) (flk vcs_f (flk vcs_f (flk flnv (flk flnv trivial))))
theorem sq_b {L B:List VR} {u:VR} {s:Rat} {m c l d i:Nat}  (h0:decide ((↑i:Int) < (↑(m+(1:Nat)):Int))=false):TSpec Tryd.prog (loopOf Tryd.f6 0) (sqI L B s m c l d i) (.exit 0) (sqI L B s m c l d i):=by
 exact tspec_dim (mask 55 0 [0,1,4,8,30,31,32]) 4 (sc:=[(8,0,.is (.c (.bool false)))]) (sb:=[]) (by kernel_rfl) (hP (isB h0) hN) (flk vcs_f (flk vcs_f (flk flnv (flk flnv trivial))))
theorem sq_c {L B:List VR} {u:VR} {s:Rat} {m c l d i:Nat} (hL:L.length=m+1) (ok:∀ v∈L,v.Ok) (hm:m < 64) (m3:3≤m+1) (hs:Sz s 26000000) (hu:B[i]? = some u) (ou:u.Ok) (hi:i < l+1) (hl:l < 64) (h0:decide ((↑i:Int) < (↑(l+(1:Nat)):Int))=true):TSpec Tryd.prog (loopOf Tryd.f6 2) (sqJ L B s m c l d i) (.normal) (sqJ L B (mn s (nearV L u.x u.y)) m c l d (i+1)):=by
 have s1:=(vr1_s ou)
 have s2:=(vr2_s ou)
 have s3:=(isR_s hs)
 have s4:=(nearV_s ok (szr s1) (szr s2))
 have s5:=(isR_s s4)
 exact tspec_dim (mask 55 0 [0,1,4,8,42,43,44]) 4 (sc:=[(13,0,.is (.c (.bool true))),(14,1,.fix (ag [[.bool (VR.n1 u)],[.string (VR.a1 u)],[.string (VR.b1 u)],[.bool (VR.n2 u)],[.string (VR.a2 u)],[.string (VR.b2 u)]])),(15,3,.readf (Rv (nearV L (VR.x u) (VR.y u)))),(15,4,.fix (Rv (mn s (nearV L (VR.x u) (VR.y u))))),(16,0,.is (.c (.int .i64 ((↑(i+(1:Nat)):Int)))))]) (sb:=[]) (by kernel_rfl) (hP (isB h0) (hP (show (0:Int)≤(↑i:Int)∧(↑i:Int) < (↑(l+(1:Nat)):Int) by omega) (hP (vcs_ld hu) (hP (show Flat [some { own:=false,cells:=vcs L }] from (flk vcs_f trivial)) (hF (nearr_k (c:=c) hL ok hm s1 s2 m3) (hC (min_k s3 s5 (by decide +kernel)) (hP (incn (i:=i) hi (by omega)) hN))))))) (flk vcs_f (flk vcs_f (flk flnv (flk flnv trivial))))
theorem sq_d {L B:List VR} {u:VR} {s:Rat} {m c l d i:Nat}  (h0:decide ((↑i:Int) < (↑(l+(1:Nat)):Int))=false):TSpec Tryd.prog (loopOf Tryd.f6 2) (sqJ L B s m c l d i) (.exit 2) (sqJ L B s m c l d i):=by
 exact tspec_dim (mask 55 0 [0,1,4,8,42,43,44]) 4 (sc:=[(13,0,.is (.c (.bool false)))]) (sb:=[]) (by kernel_rfl) (hP (isB h0) hN) (flk vcs_f (flk vcs_f (flk flnv (flk flnv trivial))))
theorem sq1_k {ao bo:Option Addr} {c n c2:Nat}   : CSpec Tryd.prog 6 #[(.slice ao 0 c),(.slice bo n c2)] (.tuple #[ag [[.bool false],[.string ({ data:=#[] })],[.string ({ data:=#[] })]],.int .i64 (3:Int)]):=by
 exact fn_ok Tryd.func6 (sc:=[(1,2,.fix (.tuple #[.bool false,.int .i64 (3:Int)]))]) (sb:=[]) (by kernel_rfl) (hC (meet1_k (ao:=ao) (bo:=bo) (c:=c) (n:=n) (c2:=c2)) hN)
theorem sq20 {L:List VR} {m c:Nat} {bo:Option Addr} {n c2:Nat} (hL:L.length=m+1) (ok:∀ v∈L,v.Ok) (hq:MustBad L)  (h0:(!decide (ringN L (64:Int)=(0:Int)))=true):FSpec Tryd.prog 6 [.sl 0 0 (m+1) c,.c (.slice bo n c2)] [some ⟨false,vcs L⟩] (.c (.tuple #[ag [[.bool false],[.string ({ data:=#[] })],[.string ({ data:=#[] })]],.int .i64 (ringN L (64:Int))])) [some ⟨false,vcs L⟩]:=by
 exact fspec_ok Tryd.func6 (sc:=[(1,2,.readf (.tuple #[.bool false,.int .i64 (ringN L (64:Int))])),(2,1,.is (.c (.bool true)))]) (sb:=[]) (keep:=[]) (by kernel_rfl) (hP (show Flat [some ⟨false,vcs L⟩] from flk vcs_f trivial) (hP (show Flat [some { own:=false,cells:=vcs L }] from (flk vcs_f trivial)) (hF (meet2_k (c:=c) (bo:=bo) (n:=n) (c2:=c2) hL ok hq) (hP (isB h0) hN))))
theorem sq3_k {L:List VR} {m c:Nat} {bo:Option Addr} {c2:Nat} (hL:L.length=m+1) (ok:∀ v∈L,v.Ok) (hq:MustPoly L)   : FSpec Tryd.prog 6 [.sl 0 0 (m+1) c,.c (.slice bo 0 c2)] [some ⟨false,vcs L⟩] (.c (.tuple #[ag [[.bool false],[.string ({ data:=#[] })],[.string ({ data:=#[] })]],.int .i64 (3:Int)])) [some ⟨false,vcs L⟩]:=by
 exact fspec_ok Tryd.func6 (sc:=[(1,2,.readf (.tuple #[.bool false,.int .i64 (3:Int)]))]) (sb:=[]) (keep:=[]) (by kernel_rfl) (hP (show Flat [some ⟨false,vcs L⟩] from flk vcs_f trivial) (hP (show Flat [some { own:=false,cells:=vcs L }] from (flk vcs_f trivial)) (hF (meet3_k (c:=c) (bo:=bo) (c2:=c2) hL ok hq) hN)))
theorem sq40 {L B:List VR} {m c l d:Nat} (hL:L.length=m+1) (ok:∀ v∈L,v.Ok) (hB:B.length=l+1) (okB:∀ v∈B,v.Ok) (hq:MustPoly L) (hq':MustBad B)  (h0:(!decide (ringN B (64:Int)=(0:Int)))=true):FSpec Tryd.prog 6 [.sl 0 0 (m+1) c,.sl 1 0 (l+1) d] [some ⟨false,vcs L⟩,some ⟨false,vcs B⟩] (.c (.tuple #[ag [[.bool false],[.string ({ data:=#[] })],[.string ({ data:=#[] })]],.int .i64 (ringN B (64:Int))])) [some ⟨false,vcs L⟩,some ⟨false,vcs B⟩]:=by
 exact fspec_ok Tryd.func6 (sc:=[(1,2,.readf (.tuple #[.bool false,.int .i64 (ringN B (64:Int))])),(2,1,.is (.c (.bool true)))]) (sb:=[]) (keep:=[]) (by kernel_rfl) (hP (show Flat [some ⟨false,vcs L⟩,some ⟨false,vcs B⟩] from flk vcs_f (flk vcs_f trivial)) (hP (show Flat [some { own:=false,cells:=vcs L },some { own:=false,cells:=vcs B }] from (flk vcs_f (flk vcs_f trivial))) (hF (meet4_k (c:=c) (d:=d) hL ok hB okB hq hq') (hP (isB h0) hN))))
theorem sqT_k {L B:List VR} {m c l d:Nat} (hL:L.length=m+1) (ok:∀ v∈L,v.Ok) (hB:B.length=l+1) (okB:∀ v∈B,v.Ok) (hm:m < 64) (hl:l < 64) (hp:MustPoly L) (hp':MustPoly B) (h1:MustNo L B) (h2:MustNo B L)   : FSpec Tryd.prog 6 [.sl 0 0 (m+1) c,.sl 1 0 (l+1) d] [some ⟨false,vcs L⟩,some ⟨false,vcs B⟩] (.c (.tuple #[Rv (0:Rat),.int .i64 (0:Int)])) [some ⟨false,vcs L⟩,some ⟨false,vcs B⟩]:=by
 exact fspec_ok Tryd.func6 (sc:=[(1,2,.readf (.tuple #[.bool true,.int .i64 (0:Int)])),(5,0,.fix (Rv (0:Rat)))]) (sb:=[]) (keep:=[]) (by kernel_rfl) (hP (show Flat [some ⟨false,vcs L⟩,some ⟨false,vcs B⟩] from flk vcs_f (flk vcs_f trivial)) (hP (show Flat [some { own:=false,cells:=vcs L },some { own:=false,cells:=vcs B }] from (flk vcs_f (flk vcs_f trivial))) (hF (meetT_k (c:=c) (d:=d) hL ok hB okB hm hl hp hp' h1 h2) (hC of0_k hN))))
theorem sqF0 {L B:List VR} {u:VR} {s r:Rat} {m c l d:Nat} (hL:L.length=m+1) (ok:∀ v∈L,v.Ok) (hB:B.length=l+1) (okB:∀ v∈B,v.Ok) (hm:m < 64) (hl:l < 64) (hp:MustPoly L) (hp':MustPoly B) (hx:MustApart L B) (l3:3≤l+1) (hu:L[0]? = some u) (ou:u.Ok) (hs:Sz s 26000000) (hr:Sz r 26000000) (hb1:TSpec Tryd.prog (.block 0 (.loop (loopOf Tryd.f6 0))) (sqI L B (nearV B u.x u.y) m c l d 0) .normal (sqI L B s m c l d (m+1))) (hb2:TSpec Tryd.prog (.block 2 (.loop (loopOf Tryd.f6 2))) (sqJ L B s m c l d 0) .normal (sqJ L B r m c l d (l+1)))  : FSpec Tryd.prog 6 [.sl 0 0 (m+1) c,.sl 1 0 (l+1) d] [some ⟨false,vcs L⟩,some ⟨false,vcs B⟩] (.c (.tuple #[Rv r,.int .i64 (0:Int)])) [some ⟨false,vcs L⟩,some ⟨false,vcs B⟩]:=by
 have s0:=(vr1_s ou)
 have s1:=(vr2_s ou)
 exact fspec_ok Tryd.func6 (sc:=[(1,2,.readf (.tuple #[.bool false,.int .i64 (0:Int)])),(6,2,.fix (ag [[.bool (VR.n1 u)],[.string (VR.a1 u)],[.string (VR.b1 u)],[.bool (VR.n2 u)],[.string (VR.a2 u)],[.string (VR.b2 u)]])),(6,4,.readf (Rv (nearV B (VR.x u) (VR.y u)))),(0,99999,.mask (mask 55 0 [0,1,4,8,30,31,32])),(2,99999,.mask (mask 55 0 [0,1,4,8,42,43,44]))]) (sb:=[(0,.normal,sqI L B s m c l d (m+1)),(2,.normal,sqJ L B r m c l d (l+1))]) (keep:=[]) (by kernel_rfl) (hP (show Flat [some ⟨false,vcs L⟩,some ⟨false,vcs B⟩] from flk vcs_f (flk vcs_f trivial)) (hP (show Flat [some { own:=false,cells:=vcs L },some { own:=false,cells:=vcs B }] from (flk vcs_f (flk vcs_f trivial))) (hF (meetF_k (c:=c) (d:=d) hL ok hB okB hm hl hp hp' hx) (hP (show (0:Int)≤(0:Int)∧(0:Int) < (↑(m+(1:Nat)):Int) by omega) (hP (vcs_l0 hu) (hP (show Flat [some { own:=false,cells:=vcs B }] from (flk vcs_f trivial)) (hF (nearr_k (c:=d) hB okB hl s0 s1 l3) (hP (show Flat [some { own:=false,cells:=vcs L },some { own:=false,cells:=vcs B },some ⟨Bool.true,nv [[.bool false],[.string ({ data:=#[] })],[.string ({ data:=#[] })]]⟩,some ⟨Bool.true,nv [rc (nearV B (VR.x u) (VR.y u))]⟩] from (flk vcs_f (flk vcs_f (flk rfl (flk rfl trivial))))) (hP (hb1) (hP (show Flat [some { own:=false,cells:=vcs L },some { own:=false,cells:=vcs B },some ⟨Bool.true,nv [[.bool false],[.string ({ data:=#[] })],[.string ({ data:=#[] })]]⟩,some ⟨Bool.true,nv [rc (s)]⟩] from (flk vcs_f (flk vcs_f (flk rfl (flk rfl trivial))))) (hP (hb2) hN)))))))))))
noncomputable def sqV (L B:List VR):Rat:=mnF (fun k=>nearV L (pX B k) (pY B k)) (mnF (fun i=>nearV B (pX L i) (pY L i)) (nearV B (pX L 0) (pY L 0)) L.length) B.length
theorem nearC_s {L B:List VR} (ok:∀ v∈L,v.Ok) (okB:∀ v∈B,v.Ok) (i:Nat):Sz (nearV B (pX L i) (pY L i)) 26000000:=nearV_s okB (cxy_s ok i).1 (cxy_s ok i).2
theorem sqV_s {L B:List VR} (ok:∀ v∈L,v.Ok) (okB:∀ v∈B,v.Ok):Sz (sqV L B) 26000000:=mnF_sz (mnF_sz (nearC_s ok okB 0) (nearC_s ok okB) _) (nearC_s okB ok) _
theorem sq2_k {L:List VR} {m c:Nat} {bo:Option Addr} {n c2:Nat} (hL:L.length=m+1) (ok:∀ v∈L,v.Ok)  (hq:MustBad L):FSpec Tryd.prog 6 [.sl 0 0 (m+1) c,.c (.slice bo n c2)] [some ⟨false,vcs L⟩] (.c (.tuple #[ag [[.bool false],[.string ⟨#[]⟩],[.string ⟨#[]⟩]],.int .i64 (ringN L 64)])) [some ⟨false,vcs L⟩]:=sq20 hL ok hq (neq_t hq)
theorem sq4_k {L B:List VR} {m c l d:Nat} (hL:L.length=m+1) (ok:∀ v∈L,v.Ok) (hB:B.length=l+1) (okB:∀ v∈B,v.Ok)  (hq:MustPoly L) (hq':MustBad B):FSpec Tryd.prog 6 [.sl 0 0 (m+1) c,.sl 1 0 (l+1) d] [some ⟨false,vcs L⟩,some ⟨false,vcs B⟩] (.c (.tuple #[ag [[.bool false],[.string ⟨#[]⟩],[.string ⟨#[]⟩]],.int .i64 (ringN B 64)])) [some ⟨false,vcs L⟩,some ⟨false,vcs B⟩]:=sq40 hL ok hB okB hq hq' (neq_t hq')
theorem sqF_k {L B:List VR} {m c l d:Nat} (hL:L.length=m+1) (ok:∀ v∈L,v.Ok) (hB:B.length=l+1) (okB:∀ v∈B,v.Ok) (hm:m < 64) (hl:l < 64) (hp:MustPoly L) (hp':MustPoly B)  (hx:MustApart L B):FSpec Tryd.prog 6 [.sl 0 0 (m+1) c,.sl 1 0 (l+1) d] [some ⟨false,vcs L⟩,some ⟨false,vcs B⟩] (.c (.tuple #[Rv (sqV L B),.int .i64 0])) [some ⟨false,vcs L⟩,some ⟨false,vcs B⟩]:=by
 have l3:3≤l+1:=by have:=(ring_ok hp').2.1; omega
 have m3:3≤m+1:=by have:=(ring_ok hp).2.1; omega
 obtain ⟨u,hu⟩:∃ u,L[0]? = some u:=⟨_,List.getElem?_eq_getElem (by omega)⟩
 have b1:Rounds Tryd.prog (loopOf Tryd.f6 0) 0 (sqI L B (mnF (fun i=>nearV B (pX L i) (pY L i)) (nearV B (pX L 0) (pY L 0)) 0) m c l d 0) .normal (sqI L B (mnF (fun i=>nearV B (pX L i) (pY L i)) (nearV B (pX L 0) (pY L 0)) (m+1)) m c l d (m+1)):=by
  refine rounds_go (S:=fun i=>sqI L B (mnF (fun i=>nearV B (pX L i) (pY L i)) (nearV B (pX L 0) (pY L 0)) i) m c l d i) (fun i hi=>?_) (sq_b (u:=z0) (decide_eq_false (by omega))) (m+1) 0 (by omega)
  obtain ⟨v,hv⟩:∃ v,L[i]? = some v:=⟨_,List.getElem?_eq_getElem (by omega)⟩
  have st:=sq_a (c:=c) (d:=d) hB okB hl l3 (mnF_sz (nearC_s ok okB 0) (nearC_s ok okB) i) hv (ok _ (List.mem_of_getElem? hv)) hi hm (decide_eq_true (by omega))
  have e:mnF (fun i=>nearV B (pX L i) (pY L i)) (nearV B (pX L 0) (pY L 0)) (i+1)=mn (mnF (fun i=>nearV B (pX L i) (pY L i)) (nearV B (pX L 0) (pY L 0)) i) (nearV B v.x v.y):=by
   rw [← pX_at hv,← pY_at hv]
   rfl
  show TSpec _ _ _ _ (sqI L B (mnF _ _ (i+1)) m c l d (i+1))
  rw [e]
  exact st
 have b2:Rounds Tryd.prog (loopOf Tryd.f6 2) 2 (sqJ L B (mnF (fun k=>nearV L (pX B k) (pY B k)) (mnF (fun i=>nearV B (pX L i) (pY L i)) (nearV B (pX L 0) (pY L 0)) (m+1)) 0) m c l d 0) .normal (sqJ L B (mnF (fun k=>nearV L (pX B k) (pY B k)) (mnF (fun i=>nearV B (pX L i) (pY L i)) (nearV B (pX L 0) (pY L 0)) (m+1)) (l+1)) m c l d (l+1)):=by
  refine rounds_go (S:=fun i=>sqJ L B (mnF (fun k=>nearV L (pX B k) (pY B k)) (mnF (fun i=>nearV B (pX L i) (pY L i)) (nearV B (pX L 0) (pY L 0)) (m+1)) i) m c l d i) (fun i hi=>?_) (sq_d (u:=z0) (decide_eq_false (by omega))) (l+1) 0 (by omega)
  obtain ⟨v,hv⟩:∃ v,B[i]? = some v:=⟨_,List.getElem?_eq_getElem (by omega)⟩
  have st:=sq_c (c:=c) (d:=d) hL ok hm m3 (mnF_sz (mnF_sz (nearC_s ok okB 0) (nearC_s ok okB) (m+1)) (nearC_s okB ok) i) hv (okB _ (List.mem_of_getElem? hv)) hi hl (decide_eq_true (by omega))
  have e:mnF (fun k=>nearV L (pX B k) (pY B k)) (mnF (fun i=>nearV B (pX L i) (pY L i)) (nearV B (pX L 0) (pY L 0)) (m+1)) (i+1)=mn (mnF (fun k=>nearV L (pX B k) (pY B k)) (mnF (fun i=>nearV B (pX L i) (pY L i)) (nearV B (pX L 0) (pY L 0)) (m+1)) i) (nearV L v.x v.y):=by
   rw [← pX_at hv,← pY_at hv]
   rfl
  show TSpec _ _ _ _ (sqJ L B (mnF _ _ (i+1)) m c l d (i+1))
  rw [e]
  exact st
 have e0:mnF (fun i=>nearV B (pX L i) (pY L i)) (nearV B (pX L 0) (pY L 0)) 0=nearV B u.x u.y:=by
  rw [← pX_at hu,← pY_at hu]
  rfl
 have s1:Sz (mnF (fun i=>nearV B (pX L i) (pY L i)) (nearV B (pX L 0) (pY L 0)) (m+1)) 26000000:=mnF_sz (nearC_s ok okB 0) (nearC_s ok okB) _
 have s2:=sqV_s ok okB
 unfold sqV at s2 ⊢
 rw [hL,hB] at s2 ⊢
 rw [e0] at b1
 exact sqF0 hL ok hB okB hm hl hp hp' hx l3 hu (ok _ (List.mem_of_getElem? hu)) s1 s2 b1.spec b2.spec
end Go.Proofs.YtjefpjajkbldpaaDoor.G
end
section
namespace Go.Proofs.YtjefpjajkbldpaaDoor.G
open Go.Proofs.YtjefpjajkbldpaaDoor.U Go.RowKit
theorem on1 {n1:Bool} {a1 b1:ByteArray} {x1:Rat} {K1:Nat}{n2:Bool} {a2 b2:ByteArray} {x2:Rat} {K2:Nat}{n3:Bool} {a3 b3:ByteArray} {x3:Rat} {K3:Nat}{n4:Bool} {a4 b4:ByteArray} {x4:Rat} {K4:Nat}{n5:Bool} {a5 b5:ByteArray} {x5:Rat} {K5:Nat}{n6:Bool} {a6 b6:ByteArray} {x6:Rat} {K6:Nat}{s:Int} (h1':IsR n1 a1 b1 x1 K1) (k1:K1≤10000000) (h2':IsR n2 a2 b2 x2 K2) (k2:K2≤10000000) (h3':IsR n3 a3 b3 x3 K3) (k3:K3≤10000000) (h4':IsR n4 a4 b4 x4 K4) (k4:K4≤10000000) (h5':IsR n5 a5 b5 x5 K5) (k5:K5≤10000000) (h6':IsR n6 a6 b6 x6 K6) (k6:K6≤10000000) (h0:decide (s=(0:Int))=false):CSpec Tryd.prog 46 #[(ag [rr n1 a1 b1,rr n2 a2 b2]),(ag [rr n3 a3 b3,rr n4 a4 b4]),(ag [rr n5 a5 b5,rr n6 a6 b6]),(.int .i64 s)] (.bool false):=by
 exact fn_ok Tryd.func46 (sc:=[(1,1,.is (.c (.bool false)))]) (sb:=[]) (by kernel_rfl) (hP (isB h0) hN)
theorem on2 {n1:Bool} {a1 b1:ByteArray} {x1:Rat} {K1:Nat}{n2:Bool} {a2 b2:ByteArray} {x2:Rat} {K2:Nat}{n3:Bool} {a3 b3:ByteArray} {x3:Rat} {K3:Nat}{n4:Bool} {a4 b4:ByteArray} {x4:Rat} {K4:Nat}{n5:Bool} {a5 b5:ByteArray} {x5:Rat} {K5:Nat}{n6:Bool} {a6 b6:ByteArray} {x6:Rat} {K6:Nat}{s:Int} (h1':IsR n1 a1 b1 x1 K1) (k1:K1≤10000000) (h2':IsR n2 a2 b2 x2 K2) (k2:K2≤10000000) (h3':IsR n3 a3 b3 x3 K3) (k3:K3≤10000000) (h4':IsR n4 a4 b4 x4 K4) (k4:K4≤10000000) (h5':IsR n5 a5 b5 x5 K5) (k5:K5≤10000000) (h6':IsR n6 a6 b6 x6 K6) (k6:K6≤10000000) (h0:decide (s=(0:Int))=true):CSpec Tryd.prog 46 #[(ag [rr n1 a1 b1,rr n2 a2 b2]),(ag [rr n3 a3 b3,rr n4 a4 b4]),(ag [rr n5 a5 b5,rr n6 a6 b6]),(.int .i64 s)] (.bool (decide (Int.sign (Rat.num ((x1 - x5)*(x3 - x5)+(x2 - x6)*(x4 - x6)))≤(0:Int)))):=by
 have s1:=(sub_s (szr h1') (szr h5'))
 have s2:=(isR_s s1)
 have s3:=(sub_s (szr h2') (szr h6'))
 have s4:=(isR_s s3)
 have s5:=(sub_s (szr h3') (szr h5'))
 have s6:=(isR_s s5)
 have s7:=(sub_s (szr h4') (szr h6'))
 have s8:=(isR_s s7)
 have s9:=(mul_s s1 s5)
 have s10:=(mul_s s3 s7)
 have s11:=(add_s s9 s10)
 have s12:=(isR_s s11)
 exact fn_ok Tryd.func46 (sc:=[(1,1,.is (.c (.bool true))),(1,5,.fix (ag [rc (x1 - x5),rc (x2 - x6)])),(1,8,.fix (ag [rc (x3 - x5),rc (x4 - x6)])),(1,9,.fix (Rv ((x1 - x5)*(x3 - x5)+(x2 - x6)*(x4 - x6)))),(1,10,.fix (.int .i64 (Int.sign (Rat.num ((x1 - x5)*(x3 - x5)+(x2 - x6)*(x4 - x6))))))]) (sb:=[]) (by kernel_rfl) (hP (isB h0) (hC (rv_k h5' (by omega) h6' (by omega) h1' (by omega) h2' (by omega)) (hC (rv_k h5' (by omega) h6' (by omega) h3' (by omega) h4' (by omega)) (hC (rdot_k s2 (by omega) s4 (by omega) s6 (by omega) s8 (by omega)) (hC (sign_k s12 (by omega)) hN)))))
theorem sgn_le0 {x:Rat}:decide (Int.sign (Rat.num x)≤0)=decide (x≤0):=by
 rw [sgn_le]
 by_cases h:x≤0
 ·rw [decide_eq_true h,decide_eq_false (Rat.not_lt.2 h)]; rfl
 rw [decide_eq_false h,decide_eq_true (Rat.not_le.1 h)]; rfl
def onB (x1 x2 x3 x4 x5 x6:Rat) (s:Int):Bool:=decide (s=0)&&decide ((x1 - x5)*(x3 - x5)+(x2 - x6)*(x4 - x6)≤0)
theorem on_k {n1:Bool} {a1 b1:ByteArray} {x1:Rat} {K1:Nat}{n2:Bool} {a2 b2:ByteArray} {x2:Rat} {K2:Nat}{n3:Bool} {a3 b3:ByteArray} {x3:Rat} {K3:Nat}{n4:Bool} {a4 b4:ByteArray} {x4:Rat} {K4:Nat}{n5:Bool} {a5 b5:ByteArray} {x5:Rat} {K5:Nat}{n6:Bool} {a6 b6:ByteArray} {x6:Rat} {K6:Nat}{s:Int} (h1':IsR n1 a1 b1 x1 K1) (k1:K1≤10000000) (h2':IsR n2 a2 b2 x2 K2) (k2:K2≤10000000) (h3':IsR n3 a3 b3 x3 K3) (k3:K3≤10000000) (h4':IsR n4 a4 b4 x4 K4) (k4:K4≤10000000) (h5':IsR n5 a5 b5 x5 K5) (k5:K5≤10000000) (h6':IsR n6 a6 b6 x6 K6) (k6:K6≤10000000):CSpec Tryd.prog 46 #[ag [rr n1 a1 b1,rr n2 a2 b2],ag [rr n3 a3 b3,rr n4 a4 b4],ag [rr n5 a5 b5,rr n6 a6 b6],.int .i64 s] (.bool (onB x1 x2 x3 x4 x5 x6 s)):=by
 unfold onB
 by_cases h:s=0
 ·rw [decide_eq_true h,Bool.true_and,← sgn_le0]
  exact on2 h1' k1 h2' k2 h3' k3 h4' k4 h5' k5 h6' k6 (decide_eq_true h)
 rw [decide_eq_false h,Bool.false_and]
 exact on1 h1' k1 h2' k2 h3' k3 h4' k4 h5' k5 h6' k6 (decide_eq_false h)
def sgI (ax ay bx bY cx cy:Rat):Int:=Int.sign (Rat.num (side ax ay bx bY cx cy))
def crsB (x1 x2 x3 x4 x5 x6 x7 x8:Rat):Bool :=
 (decide (IntKind.wrap .i64 (sgI x1 x2 x3 x4 x5 x6*sgI x1 x2 x3 x4 x7 x8) < 0)&&decide (IntKind.wrap .i64 (sgI x5 x6 x7 x8 x1 x2*sgI x5 x6 x7 x8 x3 x4) < 0)) ||
  (onB x1 x2 x3 x4 x5 x6 (sgI x1 x2 x3 x4 x5 x6)||(onB x1 x2 x3 x4 x7 x8 (sgI x1 x2 x3 x4 x7 x8)||(onB x5 x6 x7 x8 x1 x2 (sgI x5 x6 x7 x8 x1 x2)||onB x5 x6 x7 x8 x3 x4 (sgI x5 x6 x7 x8 x3 x4))))
noncomputable def crT_sc (n1:Bool) (a1 b1:ByteArray) (x1:Rat) (K1:Nat) (n2:Bool) (a2 b2:ByteArray) (x2:Rat) (K2:Nat) (n3:Bool) (a3 b3:ByteArray) (x3:Rat) (K3:Nat) (n4:Bool) (a4 b4:ByteArray) (x4:Rat) (K4:Nat) (n5:Bool) (a5 b5:ByteArray) (x5:Rat) (K5:Nat) (n6:Bool) (a6 b6:ByteArray) (x6:Rat) (K6:Nat) (n7:Bool) (a7 b7:ByteArray) (x7:Rat) (K7:Nat) (n8:Bool) (a8 b8:ByteArray) (x8:Rat) (K8:Nat):Script:=[(1,3,.fix (.int .i64 (Int.sign (Rat.num ((x3 - x1)*(x6 - x2) - (x4 - x2)*(x5 - x1)))))),(1,7,.fix (.int .i64 (Int.sign (Rat.num ((x3 - x1)*(x8 - x2) - (x4 - x2)*(x7 - x1)))))),(1,11,.fix (.int .i64 (Int.sign (Rat.num ((x7 - x5)*(x2 - x6) - (x8 - x6)*(x1 - x5)))))),(1,15,.fix (.int .i64 (Int.sign (Rat.num ((x7 - x5)*(x4 - x6) - (x8 - x6)*(x3 - x5)))))),(5,20,.fix (.bool true))]
theorem crT {n1:Bool} {a1 b1:ByteArray} {x1:Rat} {K1:Nat}{n2:Bool} {a2 b2:ByteArray} {x2:Rat} {K2:Nat}{n3:Bool} {a3 b3:ByteArray} {x3:Rat} {K3:Nat}{n4:Bool} {a4 b4:ByteArray} {x4:Rat} {K4:Nat}{n5:Bool} {a5 b5:ByteArray} {x5:Rat} {K5:Nat}{n6:Bool} {a6 b6:ByteArray} {x6:Rat} {K6:Nat}{n7:Bool} {a7 b7:ByteArray} {x7:Rat} {K7:Nat}{n8:Bool} {a8 b8:ByteArray} {x8:Rat} {K8:Nat} (h1':IsR n1 a1 b1 x1 K1) (k1:K1≤10000000) (h2':IsR n2 a2 b2 x2 K2) (k2:K2≤10000000) (h3':IsR n3 a3 b3 x3 K3) (k3:K3≤10000000) (h4':IsR n4 a4 b4 x4 K4) (k4:K4≤10000000) (h5':IsR n5 a5 b5 x5 K5) (k5:K5≤10000000) (h6':IsR n6 a6 b6 x6 K6) (k6:K6≤10000000) (h7':IsR n7 a7 b7 x7 K7) (k7:K7≤10000000) (h8':IsR n8 a8 b8 x8 K8) (k8:K8≤10000000)  : ((decide (IntKind.wrap .i64 (Int.sign (Rat.num ((x3 - x1)*(x6 - x2) - (x4 - x2)*(x5 - x1)))*Int.sign (Rat.num ((x3 - x1)*(x8 - x2) - (x4 - x2)*(x7 - x1)))) < (0:Int))=true)→(decide (IntKind.wrap .i64 (Int.sign (Rat.num ((x7 - x5)*(x2 - x6) - (x8 - x6)*(x1 - x5)))*Int.sign (Rat.num ((x7 - x5)*(x4 - x6) - (x8 - x6)*(x3 - x5)))) < (0:Int))=true)→CSpec Tryd.prog 24 #[(ag [rr n1 a1 b1,rr n2 a2 b2]),(ag [rr n3 a3 b3,rr n4 a4 b4]),(ag [rr n5 a5 b5,rr n6 a6 b6]),(ag [rr n7 a7 b7,rr n8 a8 b8])] (.bool true))∧((decide (IntKind.wrap .i64 (Int.sign (Rat.num ((x3 - x1)*(x6 - x2) - (x4 - x2)*(x5 - x1)))*Int.sign (Rat.num ((x3 - x1)*(x8 - x2) - (x4 - x2)*(x7 - x1)))) < (0:Int))=false)→(onB x1 x2 x3 x4 x5 x6 (Int.sign (Rat.num ((x3 - x1)*(x6 - x2) - (x4 - x2)*(x5 - x1))))=true)→CSpec Tryd.prog 24 #[(ag [rr n1 a1 b1,rr n2 a2 b2]),(ag [rr n3 a3 b3,rr n4 a4 b4]),(ag [rr n5 a5 b5,rr n6 a6 b6]),(ag [rr n7 a7 b7,rr n8 a8 b8])] (.bool true))∧((decide (IntKind.wrap .i64 (Int.sign (Rat.num ((x3 - x1)*(x6 - x2) - (x4 - x2)*(x5 - x1)))*Int.sign (Rat.num ((x3 - x1)*(x8 - x2) - (x4 - x2)*(x7 - x1)))) < (0:Int))=false)→(onB x1 x2 x3 x4 x5 x6 (Int.sign (Rat.num ((x3 - x1)*(x6 - x2) - (x4 - x2)*(x5 - x1))))=false)→(onB x1 x2 x3 x4 x7 x8 (Int.sign (Rat.num ((x3 - x1)*(x8 - x2) - (x4 - x2)*(x7 - x1))))=true)→CSpec Tryd.prog 24 #[(ag [rr n1 a1 b1,rr n2 a2 b2]),(ag [rr n3 a3 b3,rr n4 a4 b4]),(ag [rr n5 a5 b5,rr n6 a6 b6]),(ag [rr n7 a7 b7,rr n8 a8 b8])] (.bool true))∧((decide (IntKind.wrap .i64 (Int.sign (Rat.num ((x3 - x1)*(x6 - x2) - (x4 - x2)*(x5 - x1)))*Int.sign (Rat.num ((x3 - x1)*(x8 - x2) - (x4 - x2)*(x7 - x1)))) < (0:Int))=false)→(onB x1 x2 x3 x4 x5 x6 (Int.sign (Rat.num ((x3 - x1)*(x6 - x2) - (x4 - x2)*(x5 - x1))))=false)→(onB x1 x2 x3 x4 x7 x8 (Int.sign (Rat.num ((x3 - x1)*(x8 - x2) - (x4 - x2)*(x7 - x1))))=false)→(onB x5 x6 x7 x8 x1 x2 (Int.sign (Rat.num ((x7 - x5)*(x2 - x6) - (x8 - x6)*(x1 - x5))))=true)→CSpec Tryd.prog 24 #[(ag [rr n1 a1 b1,rr n2 a2 b2]),(ag [rr n3 a3 b3,rr n4 a4 b4]),(ag [rr n5 a5 b5,rr n6 a6 b6]),(ag [rr n7 a7 b7,rr n8 a8 b8])] (.bool true))∧((decide (IntKind.wrap .i64 (Int.sign (Rat.num ((x3 - x1)*(x6 - x2) - (x4 - x2)*(x5 - x1)))*Int.sign (Rat.num ((x3 - x1)*(x8 - x2) - (x4 - x2)*(x7 - x1)))) < (0:Int))=true)→(decide (IntKind.wrap .i64 (Int.sign (Rat.num ((x7 - x5)*(x2 - x6) - (x8 - x6)*(x1 - x5)))*Int.sign (Rat.num ((x7 - x5)*(x4 - x6) - (x8 - x6)*(x3 - x5)))) < (0:Int))=false)→(onB x1 x2 x3 x4 x5 x6 (Int.sign (Rat.num ((x3 - x1)*(x6 - x2) - (x4 - x2)*(x5 - x1))))=true)→CSpec Tryd.prog 24 #[(ag [rr n1 a1 b1,rr n2 a2 b2]),(ag [rr n3 a3 b3,rr n4 a4 b4]),(ag [rr n5 a5 b5,rr n6 a6 b6]),(ag [rr n7 a7 b7,rr n8 a8 b8])] (.bool true))∧((decide (IntKind.wrap .i64 (Int.sign (Rat.num ((x3 - x1)*(x6 - x2) - (x4 - x2)*(x5 - x1)))*Int.sign (Rat.num ((x3 - x1)*(x8 - x2) - (x4 - x2)*(x7 - x1)))) < (0:Int))=true)→(decide (IntKind.wrap .i64 (Int.sign (Rat.num ((x7 - x5)*(x2 - x6) - (x8 - x6)*(x1 - x5)))*Int.sign (Rat.num ((x7 - x5)*(x4 - x6) - (x8 - x6)*(x3 - x5)))) < (0:Int))=false)→(onB x1 x2 x3 x4 x5 x6 (Int.sign (Rat.num ((x3 - x1)*(x6 - x2) - (x4 - x2)*(x5 - x1))))=false)→(onB x1 x2 x3 x4 x7 x8 (Int.sign (Rat.num ((x3 - x1)*(x8 - x2) - (x4 - x2)*(x7 - x1))))=true)→CSpec Tryd.prog 24 #[(ag [rr n1 a1 b1,rr n2 a2 b2]),(ag [rr n3 a3 b3,rr n4 a4 b4]),(ag [rr n5 a5 b5,rr n6 a6 b6]),(ag [rr n7 a7 b7,rr n8 a8 b8])] (.bool true))∧((decide (IntKind.wrap .i64 (Int.sign (Rat.num ((x3 - x1)*(x6 - x2) - (x4 - x2)*(x5 - x1)))*Int.sign (Rat.num ((x3 - x1)*(x8 - x2) - (x4 - x2)*(x7 - x1)))) < (0:Int))=true)→(decide (IntKind.wrap .i64 (Int.sign (Rat.num ((x7 - x5)*(x2 - x6) - (x8 - x6)*(x1 - x5)))*Int.sign (Rat.num ((x7 - x5)*(x4 - x6) - (x8 - x6)*(x3 - x5)))) < (0:Int))=false)→(onB x1 x2 x3 x4 x5 x6 (Int.sign (Rat.num ((x3 - x1)*(x6 - x2) - (x4 - x2)*(x5 - x1))))=false)→(onB x1 x2 x3 x4 x7 x8 (Int.sign (Rat.num ((x3 - x1)*(x8 - x2) - (x4 - x2)*(x7 - x1))))=false)→(onB x5 x6 x7 x8 x1 x2 (Int.sign (Rat.num ((x7 - x5)*(x2 - x6) - (x8 - x6)*(x1 - x5))))=true)→CSpec Tryd.prog 24 #[(ag [rr n1 a1 b1,rr n2 a2 b2]),(ag [rr n3 a3 b3,rr n4 a4 b4]),(ag [rr n5 a5 b5,rr n6 a6 b6]),(ag [rr n7 a7 b7,rr n8 a8 b8])] (.bool true)):=by
 have e0:=fun (r:List Ob) (t:Holds Tryd.prog r)=>(hC (side_k h1' (by omega) h2' (by omega) h3' (by omega) h4' (by omega) h5' (by omega) h6' (by omega)) (hC (side_k h1' (by omega) h2' (by omega) h3' (by omega) h4' (by omega) h7' (by omega) h8' (by omega)) (hC (side_k h5' (by omega) h6' (by omega) h7' (by omega) h8' (by omega) h1' (by omega) h2' (by omega)) (hC (side_k h5' (by omega) h6' (by omega) h7' (by omega) h8' (by omega) h3' (by omega) h4' (by omega)) t))))
 refine ⟨?_,?_,?_,?_,?_,?_,?_⟩
 ·intro g0 g1
  exact fn_ok Tryd.func24 (sc:=[(2,3,.is (.c (.bool true))),(2,8,.is (.c (.bool true)))]++crT_sc n1 a1 b1 x1 K1 n2 a2 b2 x2 K2 n3 a3 b3 x3 K3 n4 a4 b4 x4 K4 n5 a5 b5 x5 K5 n6 a6 b6 x6 K6 n7 a7 b7 x7 K7 n8 a8 b8 x8 K8) (sb:=[]) (by kernel_rfl) (e0 _ (hP (isB g0) (hP (isB g1) hN)))
 ·intro g2 g3
  exact fn_ok Tryd.func24 (sc:=[(2,3,.is (.c (.bool false))),(5,5,.fix (.bool true))]++crT_sc n1 a1 b1 x1 K1 n2 a2 b2 x2 K2 n3 a3 b3 x3 K3 n4 a4 b4 x4 K4 n5 a5 b5 x5 K5 n6 a6 b6 x6 K6 n7 a7 b7 x7 K7 n8 a8 b8 x8 K8) (sb:=[]) (by kernel_rfl) (e0 _ (hP (isB g2) (hC (cbool (on_k (s:=Int.sign (Rat.num ((x3 - x1)*(x6 - x2) - (x4 - x2)*(x5 - x1)))) h1' k1 h2' k2 h3' k3 h4' k4 h5' k5 h6' k6) g3) hN)))
 ·intro g2 g4 g5
  exact fn_ok Tryd.func24 (sc:=[(2,3,.is (.c (.bool false))),(5,5,.fix (.bool false)),(5,12,.fix (.bool true))]++crT_sc n1 a1 b1 x1 K1 n2 a2 b2 x2 K2 n3 a3 b3 x3 K3 n4 a4 b4 x4 K4 n5 a5 b5 x5 K5 n6 a6 b6 x6 K6 n7 a7 b7 x7 K7 n8 a8 b8 x8 K8) (sb:=[]) (by kernel_rfl) (e0 _ (hP (isB g2) (hC (cbool (on_k (s:=Int.sign (Rat.num ((x3 - x1)*(x6 - x2) - (x4 - x2)*(x5 - x1)))) h1' k1 h2' k2 h3' k3 h4' k4 h5' k5 h6' k6) g4) (hC (cbool (on_k (s:=Int.sign (Rat.num ((x3 - x1)*(x8 - x2) - (x4 - x2)*(x7 - x1)))) h1' k1 h2' k2 h3' k3 h4' k4 h7' k7 h8' k8) g5) hN))))
 ·intro g2 g4 g6 g7
  exact fn_ok Tryd.func24 (sc:=[(2,3,.is (.c (.bool false))),(5,5,.fix (.bool false)),(5,12,.fix (.bool false))]++crT_sc n1 a1 b1 x1 K1 n2 a2 b2 x2 K2 n3 a3 b3 x3 K3 n4 a4 b4 x4 K4 n5 a5 b5 x5 K5 n6 a6 b6 x6 K6 n7 a7 b7 x7 K7 n8 a8 b8 x8 K8) (sb:=[]) (by kernel_rfl) (e0 _ (hP (isB g2) (hC (cbool (on_k (s:=Int.sign (Rat.num ((x3 - x1)*(x6 - x2) - (x4 - x2)*(x5 - x1)))) h1' k1 h2' k2 h3' k3 h4' k4 h5' k5 h6' k6) g4) (hC (cbool (on_k (s:=Int.sign (Rat.num ((x3 - x1)*(x8 - x2) - (x4 - x2)*(x7 - x1)))) h1' k1 h2' k2 h3' k3 h4' k4 h7' k7 h8' k8) g6) (hC (cbool (on_k (s:=Int.sign (Rat.num ((x7 - x5)*(x2 - x6) - (x8 - x6)*(x1 - x5)))) h5' k5 h6' k6 h7' k7 h8' k8 h1' k1 h2' k2) g7) hN)))))
 ·intro g0 g8 g3
  exact fn_ok Tryd.func24 (sc:=[(2,3,.is (.c (.bool true))),(2,8,.is (.c (.bool false))),(5,5,.fix (.bool true))]++crT_sc n1 a1 b1 x1 K1 n2 a2 b2 x2 K2 n3 a3 b3 x3 K3 n4 a4 b4 x4 K4 n5 a5 b5 x5 K5 n6 a6 b6 x6 K6 n7 a7 b7 x7 K7 n8 a8 b8 x8 K8) (sb:=[]) (by kernel_rfl) (e0 _ (hP (isB g0) (hP (isB g8) (hC (cbool (on_k (s:=Int.sign (Rat.num ((x3 - x1)*(x6 - x2) - (x4 - x2)*(x5 - x1)))) h1' k1 h2' k2 h3' k3 h4' k4 h5' k5 h6' k6) g3) hN))))
 ·intro g0 g8 g4 g5
  exact fn_ok Tryd.func24 (sc:=[(2,3,.is (.c (.bool true))),(2,8,.is (.c (.bool false))),(5,5,.fix (.bool false)),(5,12,.fix (.bool true))]++crT_sc n1 a1 b1 x1 K1 n2 a2 b2 x2 K2 n3 a3 b3 x3 K3 n4 a4 b4 x4 K4 n5 a5 b5 x5 K5 n6 a6 b6 x6 K6 n7 a7 b7 x7 K7 n8 a8 b8 x8 K8) (sb:=[]) (by kernel_rfl) (e0 _ (hP (isB g0) (hP (isB g8) (hC (cbool (on_k (s:=Int.sign (Rat.num ((x3 - x1)*(x6 - x2) - (x4 - x2)*(x5 - x1)))) h1' k1 h2' k2 h3' k3 h4' k4 h5' k5 h6' k6) g4) (hC (cbool (on_k (s:=Int.sign (Rat.num ((x3 - x1)*(x8 - x2) - (x4 - x2)*(x7 - x1)))) h1' k1 h2' k2 h3' k3 h4' k4 h7' k7 h8' k8) g5) hN)))))
 intro g0 g8 g4 g6 g7
 exact fn_ok Tryd.func24 (sc:=[(2,3,.is (.c (.bool true))),(2,8,.is (.c (.bool false))),(5,5,.fix (.bool false)),(5,12,.fix (.bool false))]++crT_sc n1 a1 b1 x1 K1 n2 a2 b2 x2 K2 n3 a3 b3 x3 K3 n4 a4 b4 x4 K4 n5 a5 b5 x5 K5 n6 a6 b6 x6 K6 n7 a7 b7 x7 K7 n8 a8 b8 x8 K8) (sb:=[]) (by kernel_rfl) (e0 _ (hP (isB g0) (hP (isB g8) (hC (cbool (on_k (s:=Int.sign (Rat.num ((x3 - x1)*(x6 - x2) - (x4 - x2)*(x5 - x1)))) h1' k1 h2' k2 h3' k3 h4' k4 h5' k5 h6' k6) g4) (hC (cbool (on_k (s:=Int.sign (Rat.num ((x3 - x1)*(x8 - x2) - (x4 - x2)*(x7 - x1)))) h1' k1 h2' k2 h3' k3 h4' k4 h7' k7 h8' k8) g6) (hC (cbool (on_k (s:=Int.sign (Rat.num ((x7 - x5)*(x2 - x6) - (x8 - x6)*(x1 - x5)))) h5' k5 h6' k6 h7' k7 h8' k8 h1' k1 h2' k2) g7) hN))))))
noncomputable def crK_sc (n1:Bool) (a1 b1:ByteArray) (x1:Rat) (K1:Nat) (n2:Bool) (a2 b2:ByteArray) (x2:Rat) (K2:Nat) (n3:Bool) (a3 b3:ByteArray) (x3:Rat) (K3:Nat) (n4:Bool) (a4 b4:ByteArray) (x4:Rat) (K4:Nat) (n5:Bool) (a5 b5:ByteArray) (x5:Rat) (K5:Nat) (n6:Bool) (a6 b6:ByteArray) (x6:Rat) (K6:Nat) (n7:Bool) (a7 b7:ByteArray) (x7:Rat) (K7:Nat) (n8:Bool) (a8 b8:ByteArray) (x8:Rat) (K8:Nat):Script:=[(1,3,.fix (.int .i64 (Int.sign (Rat.num ((x3 - x1)*(x6 - x2) - (x4 - x2)*(x5 - x1)))))),(1,7,.fix (.int .i64 (Int.sign (Rat.num ((x3 - x1)*(x8 - x2) - (x4 - x2)*(x7 - x1)))))),(1,11,.fix (.int .i64 (Int.sign (Rat.num ((x7 - x5)*(x2 - x6) - (x8 - x6)*(x1 - x5)))))),(1,15,.fix (.int .i64 (Int.sign (Rat.num ((x7 - x5)*(x4 - x6) - (x8 - x6)*(x3 - x5)))))),(5,5,.fix (.bool false)),(5,12,.fix (.bool false)),(5,20,.fix (.bool false)),(5,28,.fix (.bool (onB x5 x6 x7 x8 x3 x4 (Int.sign (Rat.num ((x7 - x5)*(x4 - x6) - (x8 - x6)*(x3 - x5)))))))]
theorem crK {n1:Bool} {a1 b1:ByteArray} {x1:Rat} {K1:Nat}{n2:Bool} {a2 b2:ByteArray} {x2:Rat} {K2:Nat}{n3:Bool} {a3 b3:ByteArray} {x3:Rat} {K3:Nat}{n4:Bool} {a4 b4:ByteArray} {x4:Rat} {K4:Nat}{n5:Bool} {a5 b5:ByteArray} {x5:Rat} {K5:Nat}{n6:Bool} {a6 b6:ByteArray} {x6:Rat} {K6:Nat}{n7:Bool} {a7 b7:ByteArray} {x7:Rat} {K7:Nat}{n8:Bool} {a8 b8:ByteArray} {x8:Rat} {K8:Nat} (h1':IsR n1 a1 b1 x1 K1) (k1:K1≤10000000) (h2':IsR n2 a2 b2 x2 K2) (k2:K2≤10000000) (h3':IsR n3 a3 b3 x3 K3) (k3:K3≤10000000) (h4':IsR n4 a4 b4 x4 K4) (k4:K4≤10000000) (h5':IsR n5 a5 b5 x5 K5) (k5:K5≤10000000) (h6':IsR n6 a6 b6 x6 K6) (k6:K6≤10000000) (h7':IsR n7 a7 b7 x7 K7) (k7:K7≤10000000) (h8':IsR n8 a8 b8 x8 K8) (k8:K8≤10000000) (g1:onB x1 x2 x3 x4 x5 x6 (Int.sign (Rat.num ((x3 - x1)*(x6 - x2) - (x4 - x2)*(x5 - x1))))=false) (g2:onB x1 x2 x3 x4 x7 x8 (Int.sign (Rat.num ((x3 - x1)*(x8 - x2) - (x4 - x2)*(x7 - x1))))=false) (g3:onB x5 x6 x7 x8 x1 x2 (Int.sign (Rat.num ((x7 - x5)*(x2 - x6) - (x8 - x6)*(x1 - x5))))=false):((decide (IntKind.wrap .i64 (Int.sign (Rat.num ((x3 - x1)*(x6 - x2) - (x4 - x2)*(x5 - x1)))*Int.sign (Rat.num ((x3 - x1)*(x8 - x2) - (x4 - x2)*(x7 - x1)))) < (0:Int))=false)→CSpec Tryd.prog 24 #[(ag [rr n1 a1 b1,rr n2 a2 b2]),(ag [rr n3 a3 b3,rr n4 a4 b4]),(ag [rr n5 a5 b5,rr n6 a6 b6]),(ag [rr n7 a7 b7,rr n8 a8 b8])] (.bool (onB x5 x6 x7 x8 x3 x4 (Int.sign (Rat.num ((x7 - x5)*(x4 - x6) - (x8 - x6)*(x3 - x5)))))))∧((decide (IntKind.wrap .i64 (Int.sign (Rat.num ((x3 - x1)*(x6 - x2) - (x4 - x2)*(x5 - x1)))*Int.sign (Rat.num ((x3 - x1)*(x8 - x2) - (x4 - x2)*(x7 - x1)))) < (0:Int))=true)→(decide (IntKind.wrap .i64 (Int.sign (Rat.num ((x7 - x5)*(x2 - x6) - (x8 - x6)*(x1 - x5)))*Int.sign (Rat.num ((x7 - x5)*(x4 - x6) - (x8 - x6)*(x3 - x5)))) < (0:Int))=false)→CSpec Tryd.prog 24 #[(ag [rr n1 a1 b1,rr n2 a2 b2]),(ag [rr n3 a3 b3,rr n4 a4 b4]),(ag [rr n5 a5 b5,rr n6 a6 b6]),(ag [rr n7 a7 b7,rr n8 a8 b8])] (.bool (onB x5 x6 x7 x8 x3 x4 (Int.sign (Rat.num ((x7 - x5)*(x4 - x6) - (x8 - x6)*(x3 - x5))))))):=by
 have e0:=fun (r:List Ob) (t:Holds Tryd.prog r)=>(hC (cbool (on_k (s:=Int.sign (Rat.num ((x3 - x1)*(x6 - x2) - (x4 - x2)*(x5 - x1)))) h1' k1 h2' k2 h3' k3 h4' k4 h5' k5 h6' k6) g1) (hC (cbool (on_k (s:=Int.sign (Rat.num ((x3 - x1)*(x8 - x2) - (x4 - x2)*(x7 - x1)))) h1' k1 h2' k2 h3' k3 h4' k4 h7' k7 h8' k8) g2) (hC (cbool (on_k (s:=Int.sign (Rat.num ((x7 - x5)*(x2 - x6) - (x8 - x6)*(x1 - x5)))) h5' k5 h6' k6 h7' k7 h8' k8 h1' k1 h2' k2) g3) (hC (on_k (s:=Int.sign (Rat.num ((x7 - x5)*(x4 - x6) - (x8 - x6)*(x3 - x5)))) h5' k5 h6' k6 h7' k7 h8' k8 h3' k3 h4' k4) t))))
 have e1:=fun (r:List Ob) (t:Holds Tryd.prog r)=>(hC (side_k h1' (by omega) h2' (by omega) h3' (by omega) h4' (by omega) h5' (by omega) h6' (by omega)) (hC (side_k h1' (by omega) h2' (by omega) h3' (by omega) h4' (by omega) h7' (by omega) h8' (by omega)) (hC (side_k h5' (by omega) h6' (by omega) h7' (by omega) h8' (by omega) h1' (by omega) h2' (by omega)) (hC (side_k h5' (by omega) h6' (by omega) h7' (by omega) h8' (by omega) h3' (by omega) h4' (by omega)) t))))
 refine ⟨?_,?_⟩
 ·intro g0
  exact fn_ok Tryd.func24 (sc:=[(2,3,.is (.c (.bool false)))]++crK_sc n1 a1 b1 x1 K1 n2 a2 b2 x2 K2 n3 a3 b3 x3 K3 n4 a4 b4 x4 K4 n5 a5 b5 x5 K5 n6 a6 b6 x6 K6 n7 a7 b7 x7 K7 n8 a8 b8 x8 K8) (sb:=[]) (by kernel_rfl) (e1 _ (hP (isB g0) (e0 _ hN)))
 intro g4 g5
 exact fn_ok Tryd.func24 (sc:=[(2,3,.is (.c (.bool true))),(2,8,.is (.c (.bool false)))]++crK_sc n1 a1 b1 x1 K1 n2 a2 b2 x2 K2 n3 a3 b3 x3 K3 n4 a4 b4 x4 K4 n5 a5 b5 x5 K5 n6 a6 b6 x6 K6 n7 a7 b7 x7 K7 n8 a8 b8 x8 K8) (sb:=[]) (by kernel_rfl) (e1 _ (hP (isB g4) (hP (isB g5) (e0 _ hN))))
theorem cross_k {n1:Bool} {a1 b1:ByteArray} {x1:Rat} {K1:Nat}{n2:Bool} {a2 b2:ByteArray} {x2:Rat} {K2:Nat}{n3:Bool} {a3 b3:ByteArray} {x3:Rat} {K3:Nat}{n4:Bool} {a4 b4:ByteArray} {x4:Rat} {K4:Nat}{n5:Bool} {a5 b5:ByteArray} {x5:Rat} {K5:Nat}{n6:Bool} {a6 b6:ByteArray} {x6:Rat} {K6:Nat}{n7:Bool} {a7 b7:ByteArray} {x7:Rat} {K7:Nat}{n8:Bool} {a8 b8:ByteArray} {x8:Rat} {K8:Nat} (h1':IsR n1 a1 b1 x1 K1) (k1:K1≤10000000) (h2':IsR n2 a2 b2 x2 K2) (k2:K2≤10000000) (h3':IsR n3 a3 b3 x3 K3) (k3:K3≤10000000) (h4':IsR n4 a4 b4 x4 K4) (k4:K4≤10000000) (h5':IsR n5 a5 b5 x5 K5) (k5:K5≤10000000) (h6':IsR n6 a6 b6 x6 K6) (k6:K6≤10000000) (h7':IsR n7 a7 b7 x7 K7) (k7:K7≤10000000) (h8':IsR n8 a8 b8 x8 K8) (k8:K8≤10000000):CSpec Tryd.prog 24 #[ag [rr n1 a1 b1,rr n2 a2 b2],ag [rr n3 a3 b3,rr n4 a4 b4],ag [rr n5 a5 b5,rr n6 a6 b6],ag [rr n7 a7 b7,rr n8 a8 b8]] (.bool (crsB x1 x2 x3 x4 x5 x6 x7 x8)):=by
 unfold crsB
 obtain ⟨c0,c1,c2,c3,c4,c5,c6⟩:=crT h1' k1 h2' k2 h3' k3 h4' k4 h5' k5 h6' k6 h7' k7 h8' k8
 cases e1:decide (IntKind.wrap .i64 (sgI x1 x2 x3 x4 x5 x6*sgI x1 x2 x3 x4 x7 x8) < 0) with
 | false =>
   cases o1:onB x1 x2 x3 x4 x5 x6 (sgI x1 x2 x3 x4 x5 x6) with
   | true=>exact c1 e1 o1
   | false =>
     cases o2:onB x1 x2 x3 x4 x7 x8 (sgI x1 x2 x3 x4 x7 x8) with
     | true=>exact c2 e1 o1 o2
     | false =>
       cases o3:onB x5 x6 x7 x8 x1 x2 (sgI x5 x6 x7 x8 x1 x2) with
       | true=>exact c3 e1 o1 o2 o3
       | false=>exact (crK h1' k1 h2' k2 h3' k3 h4' k4 h5' k5 h6' k6 h7' k7 h8' k8 o1 o2 o3).1 e1
 | true =>
   cases e2:decide (IntKind.wrap .i64 (sgI x5 x6 x7 x8 x1 x2*sgI x5 x6 x7 x8 x3 x4) < 0) with
   | true=>exact c0 e1 e2
   | false =>
     cases o1:onB x1 x2 x3 x4 x5 x6 (sgI x1 x2 x3 x4 x5 x6) with
     | true=>exact c4 e1 e2 o1
     | false =>
       cases o2:onB x1 x2 x3 x4 x7 x8 (sgI x1 x2 x3 x4 x7 x8) with
       | true=>exact c5 e1 e2 o1 o2
       | false =>
         cases o3:onB x5 x6 x7 x8 x1 x2 (sgI x5 x6 x7 x8 x1 x2) with
         | true=>exact c6 e1 e2 o1 o2 o3
         | false=>exact (crK h1' k1 h2' k2 h3' k3 h4' k4 h5' k5 h6' k6 h7' k7 h8' k8 o1 o2 o3).2 e1 e2
theorem sgn_cases (x:Rat):(x < 0∧Int.sign (Rat.num x) = -1)∨(x=0∧Int.sign (Rat.num x)=0)∨(0 < x∧Int.sign (Rat.num x)=1):=by
 rcases Int.lt_trichotomy (Rat.num x) 0 with h | h | h
 ·have e:=Int.sign_eq_neg_one_of_neg h
  exact .inl ⟨sign_lt.1 (by rw [e]; decide),e⟩
 ·exact .inr (.inl ⟨Rat.num_eq_zero.1 h,by rw [h]; rfl⟩)
 have e:=Int.sign_eq_one_of_pos h
 exact .inr (.inr ⟨sign_gt.1 (by rw [e]; decide),e⟩)
theorem sgn_mulw (x y:Rat):IntKind.wrap .i64 (Int.sign (Rat.num x)*Int.sign (Rat.num y)) < 0↔x*y < 0:=by
 rcases sgn_cases x with ⟨h1,e1⟩ | ⟨h1,e1⟩ | ⟨h1,e1⟩<;>rcases sgn_cases y with ⟨h2,e2⟩ | ⟨h2,e2⟩ | ⟨h2,e2⟩<;>rw [e1,e2]
 ·have:=Rat.mul_pos (a:=-x) (b:=-y) (by grind) (by grind)
  exact ⟨fun h=>absurd h (by decide),fun h=>by grind⟩
 ·subst h2; exact ⟨fun h=>absurd h (by decide),fun h=>by grind⟩
 ·have:=Rat.mul_pos (a:=-x) (b:=y) (by grind) h2
  exact ⟨fun h=>by grind,fun h=>by decide⟩
 ·subst h1; exact ⟨fun h=>absurd h (by decide),fun h=>by grind⟩
 ·subst h1; exact ⟨fun h=>absurd h (by decide),fun h=>by grind⟩
 ·subst h1; exact ⟨fun h=>absurd h (by decide),fun h=>by grind⟩
 ·have:=Rat.mul_pos (a:=x) (b:=-y) h1 (by grind)
  exact ⟨fun h=>by grind,fun h=>by decide⟩
 ·subst h2; exact ⟨fun h=>absurd h (by decide),fun h=>by grind⟩
 have:=Rat.mul_pos h1 h2
 exact ⟨fun h=>absurd h (by decide),fun h=>by grind⟩
theorem sgn_zero (x:Rat):Int.sign (Rat.num x)=0↔x=0:=by
 rcases sgn_cases x with ⟨h1,e1⟩ | ⟨h1,e1⟩ | ⟨h1,e1⟩<;>rw [e1]
 ·exact ⟨fun h=>absurd h (by decide),fun h=>by grind⟩
 ·exact ⟨fun _=>h1,fun _=>rfl⟩
 exact ⟨fun h=>absurd h (by decide),fun h=>by grind⟩
theorem onB_iff {ax ay bx bY cx cy:Rat}:onB ax ay bx bY cx cy (sgI ax ay bx bY cx cy)=true↔OnSeg ax ay bx bY cx cy:=by
 unfold onB sgI OnSeg
 rw [Bool.and_eq_true,decide_eq_true_eq,decide_eq_true_eq,sgn_zero]
theorem crsB_iff {x1 x2 x3 x4 x5 x6 x7 x8:Rat}:crsB x1 x2 x3 x4 x5 x6 x7 x8=true↔Cross x1 x2 x3 x4 x5 x6 x7 x8:=by
 unfold crsB Cross
 rw [Bool.or_eq_true,Bool.or_eq_true,Bool.or_eq_true,Bool.or_eq_true,onB_iff,onB_iff,onB_iff,onB_iff,Bool.and_eq_true,decide_eq_true_eq,decide_eq_true_eq]
 unfold sgI
 rw [sgn_mulw,sgn_mulw]
def MustIn (L:List VR) (x y:Rat):Prop:=FanIn (pX L) (pY L) L.length x y
def MustOut (L:List VR) (x y:Rat):Prop:=¬ FanIn (pX L) (pY L) L.length x y
theorem innerT_k {L:List VR} {m c:Nat} {n1:Bool} {a1 b1:ByteArray} {n2:Bool} {a2 b2:ByteArray} {x1 x2:Rat} (hL:L.length=m+1) (ok:∀ v∈L,v.Ok) (h1':IsR n1 a1 b1 x1 1048576) (h2':IsR n2 a2 b2 x2 1048576)  (hm:m < 100000) (hq:MustIn L x1 x2):FSpec Tryd.prog 23 [.sl 0 0 (m+1) c,.c (ag [rr n1 a1 b1,rr n2 a2 b2])] [some ⟨false,vcs L⟩] (.c (.bool true)) [some ⟨false,vcs L⟩]:=by
 have h:=inner_k (c:=c) hL ok h1' h2' hm
 rwa [show fanB L x1 x2=true from @decide_eq_true _ (Classical.propDecidable _) hq] at h
theorem innerF_k {L:List VR} {m c:Nat} {n1:Bool} {a1 b1:ByteArray} {n2:Bool} {a2 b2:ByteArray} {x1 x2:Rat} (hL:L.length=m+1) (ok:∀ v∈L,v.Ok) (h1':IsR n1 a1 b1 x1 1048576) (h2':IsR n2 a2 b2 x2 1048576)  (hm:m < 100000) (hq:MustOut L x1 x2):FSpec Tryd.prog 23 [.sl 0 0 (m+1) c,.c (ag [rr n1 a1 b1,rr n2 a2 b2])] [some ⟨false,vcs L⟩] (.c (.bool false)) [some ⟨false,vcs L⟩]:=by
 have h:=inner_k (c:=c) hL ok h1' h2' hm
 rwa [show fanB L x1 x2=false from @decide_eq_false _ (Classical.propDecidable _) hq] at h
def tcI (L B:List VR) (m c l d i k:Nat):St:=⟨slots 56 0 [(0,.sl 0 0 (m+1) c),(1,.sl 1 0 (l+1) d),(5,.c (.int .i64 (((i:Nat):Int)))),(20,.c (.int .i64 (((m+1:Nat):Int)))),(21,.c (.int .i64 (((i:Nat):Int)))),(25,.c (.int .i64 (((l+1:Nat):Int)))),(26,.c (.int .i64 (((k:Nat):Int))))],[some ⟨false,vcs L⟩,some ⟨false,vcs B⟩]⟩
def tcO (L B:List VR) (m c l d i:Nat):St:=⟨slots 56 0 [(0,.sl 0 0 (m+1) c),(1,.sl 1 0 (l+1) d),(20,.c (.int .i64 (((m+1:Nat):Int)))),(21,.c (.int .i64 (((i:Nat):Int))))],[some ⟨false,vcs L⟩,some ⟨false,vcs B⟩]⟩
def tcB (L B:List VR):St:=⟨slots 56 0 [(4,.c (.bool true))],[some ⟨false,vcs L⟩,some ⟨false,vcs B⟩]⟩
theorem tc_a {L B:List VR} {u v p q:VR} {m c l d i k:Nat} (hu:L[i]? = some u) (hv:L[(i+1)%(m+1)]? = some v) (hp':B[k]? = some p) (hq':B[(k+1)%(l+1)]? = some q) (ou:u.Ok) (ov:v.Ok) (op:p.Ok) (oq:q.Ok) (hi:i < m+1) (hm:m < 64) (hk:k < l+1) (hl:l < 64) (e1:(i+1)%(m+1) < m+1) (e2:(k+1)%(l+1) < l+1) (h0:decide ((↑k:Int) < (↑(l+(1:Nat)):Int))=true) (h9:crsB (VR.x u) (VR.y u) (VR.x v) (VR.y v) (VR.x p) (VR.y p) (VR.x q) (VR.y q)=false):TSpec Tryd.prog (loopOf Tryd.f9 2) (tcI L B m c l d i k) (.normal) (tcI L B m c l d i (k+1)):=by
 have s1:=(vr1_s ou)
 have s2:=(vr2_s ou)
 have s3:=(vr1_s ov)
 have s4:=(vr2_s ov)
 have s5:=(vr1_s op)
 have s6:=(vr2_s op)
 have s7:=(vr1_s oq)
 have s8:=(vr2_s oq)
 exact tspec_dim (mask 56 0 [0,1,5,20,21,25,26]) 2 (sc:=[(7,0,.is (.c (.bool true))),(9,3,.fix (ag [[.bool (VR.n1 u)],[.string (VR.a1 u)],[.string (VR.b1 u)],[.bool (VR.n2 u)],[.string (VR.a2 u)],[.string (VR.b2 u)]])),(9,6,.is (.c (.int .i64 ((↑(i+(1:Nat)):Int))))),(9,9,.is (.c (.int .i64 ((↑((i+(1:Nat))%(m+(1:Nat))):Int))))),(9,11,.fix (ag [[.bool (VR.n1 v)],[.string (VR.a1 v)],[.string (VR.b1 v)],[.bool (VR.n2 v)],[.string (VR.a2 v)],[.string (VR.b2 v)]])),(9,15,.fix (ag [[.bool (VR.n1 p)],[.string (VR.a1 p)],[.string (VR.b1 p)],[.bool (VR.n2 p)],[.string (VR.a2 p)],[.string (VR.b2 p)]])),(9,18,.is (.c (.int .i64 ((↑(k+(1:Nat)):Int))))),(9,21,.is (.c (.int .i64 ((↑((k+(1:Nat))%(l+(1:Nat))):Int))))),(9,23,.fix (ag [[.bool (VR.n1 q)],[.string (VR.a1 q)],[.string (VR.b1 q)],[.bool (VR.n2 q)],[.string (VR.a2 q)],[.string (VR.b2 q)]])),(9,24,.fix (.bool false)),(11,0,.is (.c (.int .i64 ((↑(k+(1:Nat)):Int)))))]) (sb:=[]) (by kernel_rfl) (hP (isB h0) (hP (show (0:Int)≤(↑i:Int)∧(↑i:Int) < (↑(m+(1:Nat)):Int) by omega) (hP (vcs_ld hu) (hP (incn (i:=i) hi (by omega)) (hP (show V.c (Value.int .i64 (Int.tmod (↑(i+(1:Nat)):Int) (↑(m+(1:Nat)):Int))) = .c (.int .i64 ((↑((i+(1:Nat))%(m+(1:Nat))):Int))) from (rfl)) (hP (show (0:Int)≤(↑((i+(1:Nat))%(m+(1:Nat))):Int)∧(↑((i+(1:Nat))%(m+(1:Nat))):Int) < (↑(m+(1:Nat)):Int) by omega) (hP (vcs_ld hv) (hP (show (0:Int)≤(↑k:Int)∧(↑k:Int) < (↑(l+(1:Nat)):Int) by omega) (hP (vcs_ld hp') (hP (incn (i:=k) hk (by omega)) (hP (show V.c (Value.int .i64 (Int.tmod (↑(k+(1:Nat)):Int) (↑(l+(1:Nat)):Int))) = .c (.int .i64 ((↑((k+(1:Nat))%(l+(1:Nat))):Int))) from (rfl)) (hP (show (0:Int)≤(↑((k+(1:Nat))%(l+(1:Nat))):Int)∧(↑((k+(1:Nat))%(l+(1:Nat))):Int) < (↑(l+(1:Nat)):Int) by omega) (hP (vcs_ld hq') (hC (cbool (cross_k s1 (by decide +kernel) s2 (by decide +kernel) s3 (by decide +kernel) s4 (by decide +kernel) s5 (by decide +kernel) s6 (by decide +kernel) s7 (by decide +kernel) s8 (by decide +kernel)) h9) (hP (incn (i:=k) hk (by omega)) hN))))))))))))))) (flk vcs_f (flk vcs_f trivial))
theorem tc_b {L B:List VR} {u v p q:VR} {m c l d i k:Nat} (hu:L[i]? = some u) (hv:L[(i+1)%(m+1)]? = some v) (hp':B[k]? = some p) (hq':B[(k+1)%(l+1)]? = some q) (ou:u.Ok) (ov:v.Ok) (op:p.Ok) (oq:q.Ok) (hi:i < m+1) (hm:m < 64) (hk:k < l+1) (hl:l < 64) (e1:(i+1)%(m+1) < m+1) (e2:(k+1)%(l+1) < l+1) (h0:decide ((↑k:Int) < (↑(l+(1:Nat)):Int))=true) (h9:crsB (VR.x u) (VR.y u) (VR.x v) (VR.y v) (VR.x p) (VR.y p) (VR.x q) (VR.y q)=true):TSpec Tryd.prog (loopOf Tryd.f9 2) (tcI L B m c l d i k) (.ret) (tcB L B):=by
 have s1:=(vr1_s ou)
 have s2:=(vr2_s ou)
 have s3:=(vr1_s ov)
 have s4:=(vr2_s ov)
 have s5:=(vr1_s op)
 have s6:=(vr2_s op)
 have s7:=(vr1_s oq)
 have s8:=(vr2_s oq)
 exact tspec_dim (mask 56 0 [4]) 2 (sc:=[(7,0,.is (.c (.bool true))),(9,3,.fix (ag [[.bool (VR.n1 u)],[.string (VR.a1 u)],[.string (VR.b1 u)],[.bool (VR.n2 u)],[.string (VR.a2 u)],[.string (VR.b2 u)]])),(9,6,.is (.c (.int .i64 ((↑(i+(1:Nat)):Int))))),(9,9,.is (.c (.int .i64 ((↑((i+(1:Nat))%(m+(1:Nat))):Int))))),(9,11,.fix (ag [[.bool (VR.n1 v)],[.string (VR.a1 v)],[.string (VR.b1 v)],[.bool (VR.n2 v)],[.string (VR.a2 v)],[.string (VR.b2 v)]])),(9,15,.fix (ag [[.bool (VR.n1 p)],[.string (VR.a1 p)],[.string (VR.b1 p)],[.bool (VR.n2 p)],[.string (VR.a2 p)],[.string (VR.b2 p)]])),(9,18,.is (.c (.int .i64 ((↑(k+(1:Nat)):Int))))),(9,21,.is (.c (.int .i64 ((↑((k+(1:Nat))%(l+(1:Nat))):Int))))),(9,23,.fix (ag [[.bool (VR.n1 q)],[.string (VR.a1 q)],[.string (VR.b1 q)],[.bool (VR.n2 q)],[.string (VR.a2 q)],[.string (VR.b2 q)]])),(9,24,.fix (.bool true))]) (sb:=[]) (by kernel_rfl) (hP (isB h0) (hP (show (0:Int)≤(↑i:Int)∧(↑i:Int) < (↑(m+(1:Nat)):Int) by omega) (hP (vcs_ld hu) (hP (incn (i:=i) hi (by omega)) (hP (show V.c (Value.int .i64 (Int.tmod (↑(i+(1:Nat)):Int) (↑(m+(1:Nat)):Int))) = .c (.int .i64 ((↑((i+(1:Nat))%(m+(1:Nat))):Int))) from (rfl)) (hP (show (0:Int)≤(↑((i+(1:Nat))%(m+(1:Nat))):Int)∧(↑((i+(1:Nat))%(m+(1:Nat))):Int) < (↑(m+(1:Nat)):Int) by omega) (hP (vcs_ld hv) (hP (show (0:Int)≤(↑k:Int)∧(↑k:Int) < (↑(l+(1:Nat)):Int) by omega) (hP (vcs_ld hp') (hP (incn (i:=k) hk (by omega)) (hP (show V.c (Value.int .i64 (Int.tmod (↑(k+(1:Nat)):Int) (↑(l+(1:Nat)):Int))) = .c (.int .i64 ((↑((k+(1:Nat))%(l+(1:Nat))):Int))) from (rfl)) (hP (show (0:Int)≤(↑((k+(1:Nat))%(l+(1:Nat))):Int)∧(↑((k+(1:Nat))%(l+(1:Nat))):Int) < (↑(l+(1:Nat)):Int) by omega) (hP (vcs_ld hq') (hC (cbool (cross_k s1 (by decide +kernel) s2 (by decide +kernel) s3 (by decide +kernel) s4 (by decide +kernel) s5 (by decide +kernel) s6 (by decide +kernel) s7 (by decide +kernel) s8 (by decide +kernel)) h9) hN)))))))))))))) (flk vcs_f (flk vcs_f trivial))
theorem tc_c {L B:List VR} {m c l d i k:Nat}  (h0:decide ((↑k:Int) < (↑(l+(1:Nat)):Int))=false):TSpec Tryd.prog (loopOf Tryd.f9 2) (tcI L B m c l d i k) (.exit 2) (tcI L B m c l d i k):=by
 exact tspec_dim (mask 56 0 [0,1,5,20,21,25,26]) 2 (sc:=[(7,0,.is (.c (.bool false)))]) (sb:=[]) (by kernel_rfl) (hP (isB h0) hN) (flk vcs_f (flk vcs_f trivial))
theorem tc_d {L B:List VR} {m c l d i:Nat} (hi:i < m+1) (hm:m < 64) (hb:TSpec Tryd.prog (.block 2 (.loop (loopOf Tryd.f9 2))) (tcI L B m c l d i 0) .normal (tcI L B m c l d i (l+1))) (h0:decide ((↑i:Int) < (↑(m+(1:Nat)):Int))=true):TSpec Tryd.prog (loopOf Tryd.f9 0) (tcO L B m c l d i) (.normal) (tcO L B m c l d (i+1)):=by
 exact tspec_dim (mask 56 0 [0,1,20,21]) 2 (sc:=[(4,0,.is (.c (.bool true))),(2,99999,.mask (mask 56 0 [0,1,5,20,21,25,26])),(12,0,.is (.c (.int .i64 ((↑(i+(1:Nat)):Int)))))]) (sb:=[(2,.normal,tcI L B m c l d i (l+1))]) (by kernel_rfl) (hP (isB h0) (hP (show Flat [some { own:=false,cells:=vcs L },some { own:=false,cells:=vcs B }] from (flk vcs_f (flk vcs_f trivial))) (hP (hb) (hP (incn (i:=i) hi (by omega)) hN)))) (flk vcs_f (flk vcs_f trivial))
theorem tc_e {L B:List VR} {m c l d i:Nat} (hi:i < m+1) (hm:m < 64) (hb:TSpec Tryd.prog (.block 2 (.loop (loopOf Tryd.f9 2))) (tcI L B m c l d i 0) .ret (tcB L B)) (h0:decide ((↑i:Int) < (↑(m+(1:Nat)):Int))=true):TSpec Tryd.prog (loopOf Tryd.f9 0) (tcO L B m c l d i) (.ret) (tcB L B):=by
 exact tspec_dim (mask 56 0 [4]) 2 (sc:=[(4,0,.is (.c (.bool true))),(2,99999,.mask (mask 56 0 [0,1,5,20,21,25,26]))]) (sb:=[(2,.ret,tcB L B)]) (by kernel_rfl) (hP (isB h0) (hP (show Flat [some { own:=false,cells:=vcs L },some { own:=false,cells:=vcs B }] from (flk vcs_f (flk vcs_f trivial))) (hP (hb) hN))) (flk vcs_f (flk vcs_f trivial))
theorem tc_f {L B:List VR} {m c l d i:Nat}  (h0:decide ((↑i:Int) < (↑(m+(1:Nat)):Int))=false):TSpec Tryd.prog (loopOf Tryd.f9 0) (tcO L B m c l d i) (.exit 0) (tcO L B m c l d i):=by
 exact tspec_dim (mask 56 0 [0,1,20,21]) 2 (sc:=[(4,0,.is (.c (.bool false)))]) (sb:=[]) (by kernel_rfl) (hP (isB h0) hN) (flk vcs_f (flk vcs_f trivial))
theorem tch1 {L B:List VR} {u p:VR} {m c l d:Nat} (hL:L.length=m+1) (ok:∀ v∈L,v.Ok) (hB:B.length=l+1) (okB:∀ v∈B,v.Ok) (hm:m < 64) (hl:l < 64) (hu:L[0]? = some u) (hp':B[0]? = some p) (ou:u.Ok) (op:p.Ok) (q1:MustIn L p.x p.y)   : FSpec Tryd.prog 9 [.sl 0 0 (m+1) c,.sl 1 0 (l+1) d] [some ⟨false,vcs L⟩,some ⟨false,vcs B⟩] (.c (.bool true)) [some ⟨false,vcs L⟩,some ⟨false,vcs B⟩]:=by
 have s0:=(vr1_s op)
 have s1:=(vr2_s op)
 exact fspec_ok Tryd.func9 (sc:=[(1,3,.fix (ag [[.bool (VR.n1 p)],[.string (VR.a1 p)],[.string (VR.b1 p)],[.bool (VR.n2 p)],[.string (VR.a2 p)],[.string (VR.b2 p)]])),(1,4,.readf (.bool true))]) (sb:=[]) (keep:=[]) (by kernel_rfl) (hP (show Flat [some ⟨false,vcs L⟩,some ⟨false,vcs B⟩] from flk vcs_f (flk vcs_f trivial)) (hP (show (0:Int)≤(0:Int)∧(0:Int) < (↑(l+(1:Nat)):Int) by omega) (hP (vcs_l0 hp') (hP (show Flat [some { own:=false,cells:=vcs L }] from (flk vcs_f trivial)) (hF (innerT_k (c:=c) hL ok s0 s1 (by omega) q1) hN)))))
theorem tch2 {L B:List VR} {u p:VR} {m c l d:Nat} (hL:L.length=m+1) (ok:∀ v∈L,v.Ok) (hB:B.length=l+1) (okB:∀ v∈B,v.Ok) (hm:m < 64) (hl:l < 64) (hu:L[0]? = some u) (hp':B[0]? = some p) (ou:u.Ok) (op:p.Ok) (q1:MustOut L p.x p.y) (q2:MustIn B u.x u.y)   : FSpec Tryd.prog 9 [.sl 0 0 (m+1) c,.sl 1 0 (l+1) d] [some ⟨false,vcs L⟩,some ⟨false,vcs B⟩] (.c (.bool true)) [some ⟨false,vcs L⟩,some ⟨false,vcs B⟩]:=by
 have s0:=(vr1_s op)
 have s1:=(vr2_s op)
 have s2:=(vr1_s ou)
 have s3:=(vr2_s ou)
 exact fspec_ok Tryd.func9 (sc:=[(1,3,.fix (ag [[.bool (VR.n1 p)],[.string (VR.a1 p)],[.string (VR.b1 p)],[.bool (VR.n2 p)],[.string (VR.a2 p)],[.string (VR.b2 p)]])),(1,4,.readf (.bool false)),(1,9,.fix (ag [[.bool (VR.n1 u)],[.string (VR.a1 u)],[.string (VR.b1 u)],[.bool (VR.n2 u)],[.string (VR.a2 u)],[.string (VR.b2 u)]])),(1,10,.readf (.bool true))]) (sb:=[]) (keep:=[]) (by kernel_rfl) (hP (show Flat [some ⟨false,vcs L⟩,some ⟨false,vcs B⟩] from flk vcs_f (flk vcs_f trivial)) (hP (show (0:Int)≤(0:Int)∧(0:Int) < (↑(l+(1:Nat)):Int) by omega) (hP (vcs_l0 hp') (hP (show Flat [some { own:=false,cells:=vcs L }] from (flk vcs_f trivial)) (hF (innerF_k (c:=c) hL ok s0 s1 (by omega) q1) (hP (show (0:Int)≤(0:Int)∧(0:Int) < (↑(m+(1:Nat)):Int) by omega) (hP (vcs_l0 hu) (hP (show Flat [some { own:=false,cells:=vcs B }] from (flk vcs_f trivial)) (hF (innerT_k (c:=d) hB okB s2 s3 (by omega) q2) hN)))))))))
theorem tch3 {L B:List VR} {u p:VR} {m c l d:Nat} (hL:L.length=m+1) (ok:∀ v∈L,v.Ok) (hB:B.length=l+1) (okB:∀ v∈B,v.Ok) (hm:m < 64) (hl:l < 64) (hu:L[0]? = some u) (hp':B[0]? = some p) (ou:u.Ok) (op:p.Ok) (q1:MustOut L p.x p.y) (q2:MustOut B u.x u.y) (hb:TSpec Tryd.prog (.block 0 (.loop (loopOf Tryd.f9 0))) (tcO L B m c l d 0) .normal (tcO L B m c l d (m+1)))  : FSpec Tryd.prog 9 [.sl 0 0 (m+1) c,.sl 1 0 (l+1) d] [some ⟨false,vcs L⟩,some ⟨false,vcs B⟩] (.c (.bool false)) [some ⟨false,vcs L⟩,some ⟨false,vcs B⟩]:=by
 have s0:=(vr1_s op)
 have s1:=(vr2_s op)
 have s2:=(vr1_s ou)
 have s3:=(vr2_s ou)
 exact fspec_ok Tryd.func9 (sc:=[(1,3,.fix (ag [[.bool (VR.n1 p)],[.string (VR.a1 p)],[.string (VR.b1 p)],[.bool (VR.n2 p)],[.string (VR.a2 p)],[.string (VR.b2 p)]])),(1,4,.readf (.bool false)),(1,9,.fix (ag [[.bool (VR.n1 u)],[.string (VR.a1 u)],[.string (VR.b1 u)],[.bool (VR.n2 u)],[.string (VR.a2 u)],[.string (VR.b2 u)]])),(1,10,.readf (.bool false)),(0,99999,.mask (mask 56 0 [0,1,20,21]))]) (sb:=[(0,.normal,tcO L B m c l d (m+1))]) (keep:=[]) (by kernel_rfl) (hP (show Flat [some ⟨false,vcs L⟩,some ⟨false,vcs B⟩] from flk vcs_f (flk vcs_f trivial)) (hP (show (0:Int)≤(0:Int)∧(0:Int) < (↑(l+(1:Nat)):Int) by omega) (hP (vcs_l0 hp') (hP (show Flat [some { own:=false,cells:=vcs L }] from (flk vcs_f trivial)) (hF (innerF_k (c:=c) hL ok s0 s1 (by omega) q1) (hP (show (0:Int)≤(0:Int)∧(0:Int) < (↑(m+(1:Nat)):Int) by omega) (hP (vcs_l0 hu) (hP (show Flat [some { own:=false,cells:=vcs B }] from (flk vcs_f trivial)) (hF (innerF_k (c:=d) hB okB s2 s3 (by omega) q2) (hP (show Flat [some { own:=false,cells:=vcs L },some { own:=false,cells:=vcs B }] from (flk vcs_f (flk vcs_f trivial))) (hP (hb) hN)))))))))))
theorem tch4 {L B:List VR} {u p:VR} {m c l d:Nat} (hL:L.length=m+1) (ok:∀ v∈L,v.Ok) (hB:B.length=l+1) (okB:∀ v∈B,v.Ok) (hm:m < 64) (hl:l < 64) (hu:L[0]? = some u) (hp':B[0]? = some p) (ou:u.Ok) (op:p.Ok) (q1:MustOut L p.x p.y) (q2:MustOut B u.x u.y) (hb:TSpec Tryd.prog (.block 0 (.loop (loopOf Tryd.f9 0))) (tcO L B m c l d 0) .ret (tcB L B))  : FSpec Tryd.prog 9 [.sl 0 0 (m+1) c,.sl 1 0 (l+1) d] [some ⟨false,vcs L⟩,some ⟨false,vcs B⟩] (.c (.bool true)) [some ⟨false,vcs L⟩,some ⟨false,vcs B⟩]:=by
 have s0:=(vr1_s op)
 have s1:=(vr2_s op)
 have s2:=(vr1_s ou)
 have s3:=(vr2_s ou)
 exact fspec_ok Tryd.func9 (sc:=[(1,3,.fix (ag [[.bool (VR.n1 p)],[.string (VR.a1 p)],[.string (VR.b1 p)],[.bool (VR.n2 p)],[.string (VR.a2 p)],[.string (VR.b2 p)]])),(1,4,.readf (.bool false)),(1,9,.fix (ag [[.bool (VR.n1 u)],[.string (VR.a1 u)],[.string (VR.b1 u)],[.bool (VR.n2 u)],[.string (VR.a2 u)],[.string (VR.b2 u)]])),(1,10,.readf (.bool false)),(0,99999,.mask (mask 56 0 [0,1,20,21]))]) (sb:=[(0,.ret,tcB L B)]) (keep:=[]) (by kernel_rfl) (hP (show Flat [some ⟨false,vcs L⟩,some ⟨false,vcs B⟩] from flk vcs_f (flk vcs_f trivial)) (hP (show (0:Int)≤(0:Int)∧(0:Int) < (↑(l+(1:Nat)):Int) by omega) (hP (vcs_l0 hp') (hP (show Flat [some { own:=false,cells:=vcs L }] from (flk vcs_f trivial)) (hF (innerF_k (c:=c) hL ok s0 s1 (by omega) q1) (hP (show (0:Int)≤(0:Int)∧(0:Int) < (↑(m+(1:Nat)):Int) by omega) (hP (vcs_l0 hu) (hP (show Flat [some { own:=false,cells:=vcs B }] from (flk vcs_f trivial)) (hF (innerF_k (c:=d) hB okB s2 s3 (by omega) q2) (hP (show Flat [some { own:=false,cells:=vcs L },some { own:=false,cells:=vcs B }] from (flk vcs_f (flk vcs_f trivial))) (hP (hb) hN)))))))))))
section
open Classical
variable {L B:List VR} {m c l d:Nat} (hL:L.length=m+1) (ok:∀ v∈L,v.Ok) (hB:B.length=l+1) (okB:∀ v∈B,v.Ok) (hm:m < 64) (hl:l < 64)
def crsAt (L B:List VR) (m l i k:Nat):Prop:=Cross (pX L i) (pY L i) (pX L ((i+1)%(m+1))) (pY L ((i+1)%(m+1))) (pX B k) (pY B k) (pX B ((k+1)%(l+1))) (pY B ((k+1)%(l+1)))
include hL ok hB okB hm hl
theorem tc_in {i:Nat} (hi:i < m+1):((∀ k,0≤k→k < l+1 → ¬ crsAt L B m l i k)∧Rounds Tryd.prog (loopOf Tryd.f9 2) 2 (tcI L B m c l d i 0) .normal (tcI L B m c l d i (l+1))) ∨
 ((∃ k,0≤k∧k < l+1 ∧ ¬ ¬ crsAt L B m l i k)∧Rounds Tryd.prog (loopOf Tryd.f9 2) 2 (tcI L B m c l d i 0) .ret (tcB L B)):=by
 refine rounds_all (S:=fun k=>tcI L B m c l d i k) (fun k hk h=>?_) (fun k hk h=>?_) (tc_c (decide_eq_false (by omega))) (l+1) 0 (by omega)
 all_goals
  have p1:(i+1)%(m+1) < m+1:=Nat.mod_lt _ (by omega)
  have p2:(k+1)%(l+1) < l+1:=Nat.mod_lt _ (by omega)
  have hu:=List.getElem?_eq_getElem (l:=L) (i:=i) (by omega)
  have hv:=List.getElem?_eq_getElem (l:=L) (i:=(i+1)%(m+1)) (by omega)
  have hp:=List.getElem?_eq_getElem (l:=B) (i:=k) (by omega)
  have hq:=List.getElem?_eq_getElem (l:=B) (i:=(k+1)%(l+1)) (by omega)
  have e:=crsB_iff (x1:=pX L i) (x2:=pY L i) (x3:=pX L ((i+1)%(m+1))) (x4:=pY L ((i+1)%(m+1))) (x5:=pX B k) (x6:=pY B k) (x7:=pX B ((k+1)%(l+1))) (x8:=pY B ((k+1)%(l+1)))
  rw [pX_at hu,pY_at hu,pX_at hv,pY_at hv,pX_at hp,pY_at hp,pX_at hq,pY_at hq] at e
  unfold crsAt at h
  rw [pX_at hu,pY_at hu,pX_at hv,pY_at hv,pX_at hp,pY_at hp,pX_at hq,pY_at hq] at h
  have hlt:decide ((k:Int) < ((l+1:Nat):Int))=true:=decide_eq_true (by omega)
 ·exact tc_a hu hv hp hq (ok _ (List.mem_of_getElem? hu)) (ok _ (List.mem_of_getElem? hv)) (okB _ (List.mem_of_getElem? hp)) (okB _ (List.mem_of_getElem? hq)) hi hm hk hl p1 p2 hlt (by rw [← Bool.not_eq_true]; exact fun g=>h (e.1 g))
 exact tc_b hu hv hp hq (ok _ (List.mem_of_getElem? hu)) (ok _ (List.mem_of_getElem? hv)) (okB _ (List.mem_of_getElem? hp)) (okB _ (List.mem_of_getElem? hq)) hi hm hk hl p1 p2 hlt (e.2 (Classical.not_not.1 h))
theorem tc_out:((∀ i,0≤i→i < m+1 → ∀ k,0≤k→k < l+1 → ¬ crsAt L B m l i k)∧Rounds Tryd.prog (loopOf Tryd.f9 0) 0 (tcO L B m c l d 0) .normal (tcO L B m c l d (m+1))) ∨
 ((∃ i,0≤i∧i < m+1 ∧ ¬ ∀ k,0≤k→k < l+1 → ¬ crsAt L B m l i k)∧Rounds Tryd.prog (loopOf Tryd.f9 0) 0 (tcO L B m c l d 0) .ret (tcB L B)):=by
 refine rounds_all (S:=fun i=>tcO L B m c l d i) (fun i hi h=>?_) (fun i hi h=>?_) (tc_f (decide_eq_false (by omega))) (m+1) 0 (by omega)
 ·rcases tc_in (c:=c) (d:=d) hL ok hB okB hm hl hi with ⟨a,b⟩ | ⟨⟨k,a1,a2,a3⟩,b⟩
  ·exact tc_d hi hm b.spec (decide_eq_true (by omega))
  exact absurd (h k a1 a2) a3
 rcases tc_in (c:=c) (d:=d) hL ok hB okB hm hl hi with ⟨a,b⟩ | ⟨_,b⟩
 ·exact absurd a h
 exact tc_e hi hm b.spec (decide_eq_true (by omega))
noncomputable def tchB (L B:List VR):Bool:=decide (Touch (pX L) (pY L) L.length (pX B) (pY B) B.length)
theorem touch_k:FSpec Tryd.prog 9 [.sl 0 0 (m+1) c,.sl 1 0 (l+1) d] [some ⟨false,vcs L⟩,some ⟨false,vcs B⟩] (.c (.bool (tchB L B))) [some ⟨false,vcs L⟩,some ⟨false,vcs B⟩]:=by
 obtain ⟨u,hu⟩:∃ u,L[0]? = some u:=⟨_,List.getElem?_eq_getElem (by omega)⟩
 obtain ⟨p,hp⟩:∃ p,B[0]? = some p:=⟨_,List.getElem?_eq_getElem (by omega)⟩
 have ou:=ok _ (List.mem_of_getElem? hu)
 have op:=okB _ (List.mem_of_getElem? hp)
 unfold tchB
 by_cases c1:FanIn (pX L) (pY L) L.length (pX B 0) (pY B 0)
 ·rw [decide_eq_true (show Touch _ _ _ _ _ _ from .inl c1)]
  exact tch1 hL ok hB okB hm hl hu hp ou op (by rw [pX_at hp,pY_at hp] at c1; exact c1)
 have d1:MustOut L p.x p.y:=by have c1:=c1; rw [pX_at hp,pY_at hp] at c1; exact c1
 by_cases c2:FanIn (pX B) (pY B) B.length (pX L 0) (pY L 0)
 ·rw [decide_eq_true (show Touch _ _ _ _ _ _ from .inr (.inl c2))]
  exact tch2 hL ok hB okB hm hl hu hp ou op d1 (by rw [pX_at hu,pY_at hu] at c2; exact c2)
 have d2:MustOut B u.x u.y:=by have c2:=c2; rw [pX_at hu,pY_at hu] at c2; exact c2
 rcases tc_out (c:=c) (d:=d) hL ok hB okB hm hl with ⟨a,b⟩ | ⟨⟨i,a1,a2,a3⟩,b⟩
 ·have hn : ¬ Touch (pX L) (pY L) L.length (pX B) (pY B) B.length := by
   rw [hL] at c1
   rw [hB] at c2
   rw [hL,hB]
   rintro (h | h | ⟨i,hi,k,hk,h⟩)
   ·exact c1 h
   ·exact c2 h
   exact a i (Nat.zero_le _) hi k (Nat.zero_le _) hk h
  rw [decide_eq_false hn]
  exact tch3 hL ok hB okB hm hl hu hp ou op d1 d2 b.spec
 have hy:Touch (pX L) (pY L) L.length (pX B) (pY B) B.length:=by
  rw [hL,hB]
  apply Classical.byContradiction
  intro hn
  exact a3 fun k _ hk h=>hn (.inr (.inr ⟨i,a2,k,hk,h⟩))
 rw [decide_eq_true hy]
 exact tch4 hL ok hB okB hm hl hu hp ou op d1 d2 b.spec
end
open Classical in
theorem tchB_iff {L B:List VR} (hp:MustPoly L) (hp':MustPoly B):tchB L B=true↔MustNo L B∧MustNo B L:=by
 obtain ⟨_,a2,a3⟩:=ring_ok hp
 obtain ⟨_,b2,b3⟩:=ring_ok hp'
 unfold tchB
 rw [decide_eq_true_eq]
 exact touch_iff a2 a3 b2 b3
end Go.Proofs.YtjefpjajkbldpaaDoor.G
end
section
namespace Go.Proofs.YtjefpjajkbldpaaDoor.G
open Go.Proofs.YtjefpjajkbldpaaDoor.U Go.RowKit
theorem re1 {n1:Bool} {a1 b1:ByteArray} {x1:Rat} {K1:Nat}{n2:Bool} {a2 b2:ByteArray} {x2:Rat} {K2:Nat}{n3:Bool} {a3 b3:ByteArray} {x3:Rat} {K3:Nat}{n4:Bool} {a4 b4:ByteArray} {x4:Rat} {K4:Nat}{n5:Bool} {a5 b5:ByteArray} {x5:Rat} {K5:Nat}{n6:Bool} {a6 b6:ByteArray} {x6:Rat} {K6:Nat} (h1':IsR n1 a1 b1 x1 K1) (k1:K1≤3000000) (h2':IsR n2 a2 b2 x2 K2) (k2:K2≤3000000) (h3':IsR n3 a3 b3 x3 K3) (k3:K3≤3000000) (h4':IsR n4 a4 b4 x4 K4) (k4:K4≤3000000) (h5':IsR n5 a5 b5 x5 K5) (k5:K5≤3000000) (h6':IsR n6 a6 b6 x6 K6) (k6:K6≤3000000) (h16:(x5 - x3)*(x5 - x3)+(x6 - x4)*(x6 - x4)≠(0:Rat)) (h19:decide (Int.sign (Rat.num (((x1 - x3)*(x5 - x3)+(x2 - x4)*(x6 - x4))/((x5 - x3)*(x5 - x3)+(x6 - x4)*(x6 - x4)))) < (0:Int))=true):CSpec Tryd.prog 30 #[(ag [rr n1 a1 b1,rr n2 a2 b2]),(ag [rr n3 a3 b3,rr n4 a4 b4]),(ag [rr n5 a5 b5,rr n6 a6 b6])] (Rv ((x3+(0:Rat)*(x5 - x3) - x1)*(x3+(0:Rat)*(x5 - x3) - x1)+(x4+(0:Rat)*(x6 - x4) - x2)*(x4+(0:Rat)*(x6 - x4) - x2))):=by
 have s0:=(sub_s (szr h1') (szr h3'))
 have s1:=(isR_s s0)
 have s2:=(sub_s (szr h2') (szr h4'))
 have s3:=(isR_s s2)
 have s4:=(sub_s (szr h5') (szr h3'))
 have s5:=(isR_s s4)
 have s6:=(sub_s (szr h6') (szr h4'))
 have s7:=(isR_s s6)
 have s8:=(mul_s s0 s4)
 have s9:=(mul_s s2 s6)
 have s10:=(add_s s8 s9)
 have s11:=(isR_s s10)
 have s12:=(mul_s s4 s4)
 have s13:=(mul_s s6 s6)
 have s14:=(add_s s12 s13)
 have s15:=(isR_s s14)
 have s17:=(div_s s10 s14)
 have s18:=(isR_s s17)
 have s20:=sz0_s
 have s21:=(isR_s s20)
 have s22:=sz1_s
 have s23:=(isR_s s22)
 have s24:=(mul_s s20 s4)
 have s25:=(isR_s s24)
 have s26:=(mul_s s20 s6)
 have s27:=(isR_s s26)
 have s28:=(add_s (szr h3') s24)
 have s29:=(isR_s s28)
 have s30:=(add_s (szr h4') s26)
 have s31:=(isR_s s30)
 have s32:=(sub_s s28 (szr h1'))
 have s33:=(isR_s s32)
 have s34:=(sub_s s30 (szr h2'))
 have s35:=(isR_s s34)
 exact fn_ok Tryd.func30 (sc:=[(1,2,.fix (ag [rc (x5 - x3),rc (x6 - x4)])),(2,2,.fix (ag [rc (x1 - x3),rc (x2 - x4)])),(2,4,.fix (Rv ((x1 - x3)*(x5 - x3)+(x2 - x4)*(x6 - x4)))),(2,7,.fix (Rv ((x5 - x3)*(x5 - x3)+(x6 - x4)*(x6 - x4)))),(2,8,.fix (.tuple #[Rv (((x1 - x3)*(x5 - x3)+(x2 - x4)*(x6 - x4))/((x5 - x3)*(x5 - x3)+(x6 - x4)*(x6 - x4))),.int .i64 (0:Int)])),(3,1,.fix (.int .i64 (Int.sign (Rat.num (((x1 - x3)*(x5 - x3)+(x2 - x4)*(x6 - x4))/((x5 - x3)*(x5 - x3)+(x6 - x4)*(x6 - x4))))))),(3,2,.is (.c (.bool true))),(4,0,.fix (Rv (0:Rat))),(5,1,.fix (Rv (1:Rat))),(5,2,.fix (.int .i64 (-1:Int))),(7,6,.fix (Rv ((0:Rat)*(x5 - x3)))),(7,7,.fix (Rv (x3+(0:Rat)*(x5 - x3)))),(7,13,.fix (Rv ((0:Rat)*(x6 - x4)))),(7,14,.fix (Rv (x4+(0:Rat)*(x6 - x4)))),(7,16,.fix (ag [rc (x3+(0:Rat)*(x5 - x3) - x1),rc (x4+(0:Rat)*(x6 - x4) - x2)])),(8,2,.fix (Rv ((x3+(0:Rat)*(x5 - x3) - x1)*(x3+(0:Rat)*(x5 - x3) - x1)+(x4+(0:Rat)*(x6 - x4) - x2)*(x4+(0:Rat)*(x6 - x4) - x2))))]) (sb:=[]) (by kernel_rfl) (hC (rv_k h3' (by omega) h4' (by omega) h5' (by omega) h6' (by omega)) (hC (rv_k h3' (by omega) h4' (by omega) h1' (by omega) h2' (by omega)) (hC (rdot_k s1 (by omega) s3 (by omega) s5 (by omega) s7 (by omega)) (hC (rdot_k s5 (by omega) s7 (by omega) s5 (by omega) s7 (by omega)) (hC (div_k s11 s15 (by omega) h16) (hC (sign_k s18 (by omega)) (hP (isB h19) (hC ri0_k (hC ri1_k (hC (cmp_k s21 s23 (by decide +kernel)) (hC (mul_k s21 s5 (by omega)) (hC (add_k h3' s25 (by omega)) (hC (mul_k s21 s7 (by omega)) (hC (add_k h4' s27 (by omega)) (hC (rv_k h1' (by omega) h2' (by omega) s29 (by omega) s31 (by omega)) (hC (rdot_k s33 (by omega) s35 (by omega) s33 (by omega) s35 (by omega)) hN))))))))))))))))
theorem re2 {n1:Bool} {a1 b1:ByteArray} {x1:Rat} {K1:Nat}{n2:Bool} {a2 b2:ByteArray} {x2:Rat} {K2:Nat}{n3:Bool} {a3 b3:ByteArray} {x3:Rat} {K3:Nat}{n4:Bool} {a4 b4:ByteArray} {x4:Rat} {K4:Nat}{n5:Bool} {a5 b5:ByteArray} {x5:Rat} {K5:Nat}{n6:Bool} {a6 b6:ByteArray} {x6:Rat} {K6:Nat} (h1':IsR n1 a1 b1 x1 K1) (k1:K1≤3000000) (h2':IsR n2 a2 b2 x2 K2) (k2:K2≤3000000) (h3':IsR n3 a3 b3 x3 K3) (k3:K3≤3000000) (h4':IsR n4 a4 b4 x4 K4) (k4:K4≤3000000) (h5':IsR n5 a5 b5 x5 K5) (k5:K5≤3000000) (h6':IsR n6 a6 b6 x6 K6) (k6:K6≤3000000) (h16:(x5 - x3)*(x5 - x3)+(x6 - x4)*(x6 - x4)≠(0:Rat)) (h19:decide (Int.sign (Rat.num (((x1 - x3)*(x5 - x3)+(x2 - x4)*(x6 - x4))/((x5 - x3)*(x5 - x3)+(x6 - x4)*(x6 - x4)))) < (0:Int))=false) (h22:decide ((0:Int) < cmpR (((x1 - x3)*(x5 - x3)+(x2 - x4)*(x6 - x4))/((x5 - x3)*(x5 - x3)+(x6 - x4)*(x6 - x4))) (1:Rat))=true):CSpec Tryd.prog 30 #[(ag [rr n1 a1 b1,rr n2 a2 b2]),(ag [rr n3 a3 b3,rr n4 a4 b4]),(ag [rr n5 a5 b5,rr n6 a6 b6])] (Rv ((x3+(1:Rat)*(x5 - x3) - x1)*(x3+(1:Rat)*(x5 - x3) - x1)+(x4+(1:Rat)*(x6 - x4) - x2)*(x4+(1:Rat)*(x6 - x4) - x2))):=by
 have s0:=(sub_s (szr h1') (szr h3'))
 have s1:=(isR_s s0)
 have s2:=(sub_s (szr h2') (szr h4'))
 have s3:=(isR_s s2)
 have s4:=(sub_s (szr h5') (szr h3'))
 have s5:=(isR_s s4)
 have s6:=(sub_s (szr h6') (szr h4'))
 have s7:=(isR_s s6)
 have s8:=(mul_s s0 s4)
 have s9:=(mul_s s2 s6)
 have s10:=(add_s s8 s9)
 have s11:=(isR_s s10)
 have s12:=(mul_s s4 s4)
 have s13:=(mul_s s6 s6)
 have s14:=(add_s s12 s13)
 have s15:=(isR_s s14)
 have s17:=(div_s s10 s14)
 have s18:=(isR_s s17)
 have s20:=sz1_s
 have s21:=(isR_s s20)
 have s23:=(mul_s s20 s4)
 have s24:=(isR_s s23)
 have s25:=(mul_s s20 s6)
 have s26:=(isR_s s25)
 have s27:=(add_s (szr h3') s23)
 have s28:=(isR_s s27)
 have s29:=(add_s (szr h4') s25)
 have s30:=(isR_s s29)
 have s31:=(sub_s s27 (szr h1'))
 have s32:=(isR_s s31)
 have s33:=(sub_s s29 (szr h2'))
 have s34:=(isR_s s33)
 exact fn_ok Tryd.func30 (sc:=[(1,2,.fix (ag [rc (x5 - x3),rc (x6 - x4)])),(2,2,.fix (ag [rc (x1 - x3),rc (x2 - x4)])),(2,4,.fix (Rv ((x1 - x3)*(x5 - x3)+(x2 - x4)*(x6 - x4)))),(2,7,.fix (Rv ((x5 - x3)*(x5 - x3)+(x6 - x4)*(x6 - x4)))),(2,8,.fix (.tuple #[Rv (((x1 - x3)*(x5 - x3)+(x2 - x4)*(x6 - x4))/((x5 - x3)*(x5 - x3)+(x6 - x4)*(x6 - x4))),.int .i64 (0:Int)])),(3,1,.fix (.int .i64 (Int.sign (Rat.num (((x1 - x3)*(x5 - x3)+(x2 - x4)*(x6 - x4))/((x5 - x3)*(x5 - x3)+(x6 - x4)*(x6 - x4))))))),(3,2,.is (.c (.bool false))),(5,1,.fix (Rv (1:Rat))),(5,2,.fix (.int .i64 (cmpR (((x1 - x3)*(x5 - x3)+(x2 - x4)*(x6 - x4))/((x5 - x3)*(x5 - x3)+(x6 - x4)*(x6 - x4))) (1:Rat)))),(5,3,.is (.c (.bool true))),(6,0,.fix (Rv (1:Rat))),(7,6,.fix (Rv ((1:Rat)*(x5 - x3)))),(7,7,.fix (Rv (x3+(1:Rat)*(x5 - x3)))),(7,13,.fix (Rv ((1:Rat)*(x6 - x4)))),(7,14,.fix (Rv (x4+(1:Rat)*(x6 - x4)))),(7,16,.fix (ag [rc (x3+(1:Rat)*(x5 - x3) - x1),rc (x4+(1:Rat)*(x6 - x4) - x2)])),(8,2,.fix (Rv ((x3+(1:Rat)*(x5 - x3) - x1)*(x3+(1:Rat)*(x5 - x3) - x1)+(x4+(1:Rat)*(x6 - x4) - x2)*(x4+(1:Rat)*(x6 - x4) - x2))))]) (sb:=[]) (by kernel_rfl) (hC (rv_k h3' (by omega) h4' (by omega) h5' (by omega) h6' (by omega)) (hC (rv_k h3' (by omega) h4' (by omega) h1' (by omega) h2' (by omega)) (hC (rdot_k s1 (by omega) s3 (by omega) s5 (by omega) s7 (by omega)) (hC (rdot_k s5 (by omega) s7 (by omega) s5 (by omega) s7 (by omega)) (hC (div_k s11 s15 (by omega) h16) (hC (sign_k s18 (by omega)) (hP (isB h19) (hC ri1_k (hC (cmp_k s18 s21 (by omega)) (hP (isB h22) (hC ri1_k (hC (mul_k s21 s5 (by omega)) (hC (add_k h3' s24 (by omega)) (hC (mul_k s21 s7 (by omega)) (hC (add_k h4' s26 (by omega)) (hC (rv_k h1' (by omega) h2' (by omega) s28 (by omega) s30 (by omega)) (hC (rdot_k s32 (by omega) s34 (by omega) s32 (by omega) s34 (by omega)) hN)))))))))))))))))
theorem re3 {n1:Bool} {a1 b1:ByteArray} {x1:Rat} {K1:Nat}{n2:Bool} {a2 b2:ByteArray} {x2:Rat} {K2:Nat}{n3:Bool} {a3 b3:ByteArray} {x3:Rat} {K3:Nat}{n4:Bool} {a4 b4:ByteArray} {x4:Rat} {K4:Nat}{n5:Bool} {a5 b5:ByteArray} {x5:Rat} {K5:Nat}{n6:Bool} {a6 b6:ByteArray} {x6:Rat} {K6:Nat} (h1':IsR n1 a1 b1 x1 K1) (k1:K1≤3000000) (h2':IsR n2 a2 b2 x2 K2) (k2:K2≤3000000) (h3':IsR n3 a3 b3 x3 K3) (k3:K3≤3000000) (h4':IsR n4 a4 b4 x4 K4) (k4:K4≤3000000) (h5':IsR n5 a5 b5 x5 K5) (k5:K5≤3000000) (h6':IsR n6 a6 b6 x6 K6) (k6:K6≤3000000) (h16:(x5 - x3)*(x5 - x3)+(x6 - x4)*(x6 - x4)≠(0:Rat)) (h19:decide (Int.sign (Rat.num (((x1 - x3)*(x5 - x3)+(x2 - x4)*(x6 - x4))/((x5 - x3)*(x5 - x3)+(x6 - x4)*(x6 - x4)))) < (0:Int))=false) (h22:decide ((0:Int) < cmpR (((x1 - x3)*(x5 - x3)+(x2 - x4)*(x6 - x4))/((x5 - x3)*(x5 - x3)+(x6 - x4)*(x6 - x4))) (1:Rat))=false):CSpec Tryd.prog 30 #[(ag [rr n1 a1 b1,rr n2 a2 b2]),(ag [rr n3 a3 b3,rr n4 a4 b4]),(ag [rr n5 a5 b5,rr n6 a6 b6])] (Rv ((x3+((x1 - x3)*(x5 - x3)+(x2 - x4)*(x6 - x4))/((x5 - x3)*(x5 - x3)+(x6 - x4)*(x6 - x4))*(x5 - x3) - x1)*(x3+((x1 - x3)*(x5 - x3)+(x2 - x4)*(x6 - x4))/((x5 - x3)*(x5 - x3)+(x6 - x4)*(x6 - x4))*(x5 - x3) - x1)+(x4+((x1 - x3)*(x5 - x3)+(x2 - x4)*(x6 - x4))/((x5 - x3)*(x5 - x3)+(x6 - x4)*(x6 - x4))*(x6 - x4) - x2)*(x4+((x1 - x3)*(x5 - x3)+(x2 - x4)*(x6 - x4))/((x5 - x3)*(x5 - x3)+(x6 - x4)*(x6 - x4))*(x6 - x4) - x2))):=by
 have s0:=(sub_s (szr h1') (szr h3'))
 have s1:=(isR_s s0)
 have s2:=(sub_s (szr h2') (szr h4'))
 have s3:=(isR_s s2)
 have s4:=(sub_s (szr h5') (szr h3'))
 have s5:=(isR_s s4)
 have s6:=(sub_s (szr h6') (szr h4'))
 have s7:=(isR_s s6)
 have s8:=(mul_s s0 s4)
 have s9:=(mul_s s2 s6)
 have s10:=(add_s s8 s9)
 have s11:=(isR_s s10)
 have s12:=(mul_s s4 s4)
 have s13:=(mul_s s6 s6)
 have s14:=(add_s s12 s13)
 have s15:=(isR_s s14)
 have s17:=(div_s s10 s14)
 have s18:=(isR_s s17)
 have s20:=sz1_s
 have s21:=(isR_s s20)
 have s23:=(mul_s s17 s4)
 have s24:=(isR_s s23)
 have s25:=(mul_s s17 s6)
 have s26:=(isR_s s25)
 have s27:=(add_s (szr h3') s23)
 have s28:=(isR_s s27)
 have s29:=(add_s (szr h4') s25)
 have s30:=(isR_s s29)
 have s31:=(sub_s s27 (szr h1'))
 have s32:=(isR_s s31)
 have s33:=(sub_s s29 (szr h2'))
 have s34:=(isR_s s33)
 exact fn_ok Tryd.func30 (sc:=[(1,2,.fix (ag [rc (x5 - x3),rc (x6 - x4)])),(2,2,.fix (ag [rc (x1 - x3),rc (x2 - x4)])),(2,4,.fix (Rv ((x1 - x3)*(x5 - x3)+(x2 - x4)*(x6 - x4)))),(2,7,.fix (Rv ((x5 - x3)*(x5 - x3)+(x6 - x4)*(x6 - x4)))),(2,8,.fix (.tuple #[Rv (((x1 - x3)*(x5 - x3)+(x2 - x4)*(x6 - x4))/((x5 - x3)*(x5 - x3)+(x6 - x4)*(x6 - x4))),.int .i64 (0:Int)])),(3,1,.fix (.int .i64 (Int.sign (Rat.num (((x1 - x3)*(x5 - x3)+(x2 - x4)*(x6 - x4))/((x5 - x3)*(x5 - x3)+(x6 - x4)*(x6 - x4))))))),(3,2,.is (.c (.bool false))),(5,1,.fix (Rv (1:Rat))),(5,2,.fix (.int .i64 (cmpR (((x1 - x3)*(x5 - x3)+(x2 - x4)*(x6 - x4))/((x5 - x3)*(x5 - x3)+(x6 - x4)*(x6 - x4))) (1:Rat)))),(5,3,.is (.c (.bool false))),(7,6,.fix (Rv (((x1 - x3)*(x5 - x3)+(x2 - x4)*(x6 - x4))/((x5 - x3)*(x5 - x3)+(x6 - x4)*(x6 - x4))*(x5 - x3)))),(7,7,.fix (Rv (x3+((x1 - x3)*(x5 - x3)+(x2 - x4)*(x6 - x4))/((x5 - x3)*(x5 - x3)+(x6 - x4)*(x6 - x4))*(x5 - x3)))),(7,13,.fix (Rv (((x1 - x3)*(x5 - x3)+(x2 - x4)*(x6 - x4))/((x5 - x3)*(x5 - x3)+(x6 - x4)*(x6 - x4))*(x6 - x4)))),(7,14,.fix (Rv (x4+((x1 - x3)*(x5 - x3)+(x2 - x4)*(x6 - x4))/((x5 - x3)*(x5 - x3)+(x6 - x4)*(x6 - x4))*(x6 - x4)))),(7,16,.fix (ag [rc (x3+((x1 - x3)*(x5 - x3)+(x2 - x4)*(x6 - x4))/((x5 - x3)*(x5 - x3)+(x6 - x4)*(x6 - x4))*(x5 - x3) - x1),rc (x4+((x1 - x3)*(x5 - x3)+(x2 - x4)*(x6 - x4))/((x5 - x3)*(x5 - x3)+(x6 - x4)*(x6 - x4))*(x6 - x4) - x2)])),(8,2,.fix (Rv ((x3+((x1 - x3)*(x5 - x3)+(x2 - x4)*(x6 - x4))/((x5 - x3)*(x5 - x3)+(x6 - x4)*(x6 - x4))*(x5 - x3) - x1)*(x3+((x1 - x3)*(x5 - x3)+(x2 - x4)*(x6 - x4))/((x5 - x3)*(x5 - x3)+(x6 - x4)*(x6 - x4))*(x5 - x3) - x1)+(x4+((x1 - x3)*(x5 - x3)+(x2 - x4)*(x6 - x4))/((x5 - x3)*(x5 - x3)+(x6 - x4)*(x6 - x4))*(x6 - x4) - x2)*(x4+((x1 - x3)*(x5 - x3)+(x2 - x4)*(x6 - x4))/((x5 - x3)*(x5 - x3)+(x6 - x4)*(x6 - x4))*(x6 - x4) - x2))))]) (sb:=[]) (by kernel_rfl) (hC (rv_k h3' (by omega) h4' (by omega) h5' (by omega) h6' (by omega)) (hC (rv_k h3' (by omega) h4' (by omega) h1' (by omega) h2' (by omega)) (hC (rdot_k s1 (by omega) s3 (by omega) s5 (by omega) s7 (by omega)) (hC (rdot_k s5 (by omega) s7 (by omega) s5 (by omega) s7 (by omega)) (hC (div_k s11 s15 (by omega) h16) (hC (sign_k s18 (by omega)) (hP (isB h19) (hC ri1_k (hC (cmp_k s18 s21 (by omega)) (hP (isB h22) (hC (mul_k s18 s5 (by omega)) (hC (add_k h3' s24 (by omega)) (hC (mul_k s18 s7 (by omega)) (hC (add_k h4' s26 (by omega)) (hC (rv_k h1' (by omega) h2' (by omega) s28 (by omega) s30 (by omega)) (hC (rdot_k s32 (by omega) s34 (by omega) s32 (by omega) s34 (by omega)) hN))))))))))))))))
theorem reach_k {n1:Bool} {a1 b1:ByteArray} {x1:Rat} {K1:Nat}{n2:Bool} {a2 b2:ByteArray} {x2:Rat} {K2:Nat}{n3:Bool} {a3 b3:ByteArray} {x3:Rat} {K3:Nat}{n4:Bool} {a4 b4:ByteArray} {x4:Rat} {K4:Nat}{n5:Bool} {a5 b5:ByteArray} {x5:Rat} {K5:Nat}{n6:Bool} {a6 b6:ByteArray} {x6:Rat} {K6:Nat} (h1':IsR n1 a1 b1 x1 K1) (k1:K1≤3000000) (h2':IsR n2 a2 b2 x2 K2) (k2:K2≤3000000) (h3':IsR n3 a3 b3 x3 K3) (k3:K3≤3000000) (h4':IsR n4 a4 b4 x4 K4) (k4:K4≤3000000) (h5':IsR n5 a5 b5 x5 K5) (k5:K5≤3000000) (h6':IsR n6 a6 b6 x6 K6) (k6:K6≤3000000) (hz:(x5 - x3)*(x5 - x3)+(x6 - x4)*(x6 - x4)≠0):CSpec Tryd.prog 30 #[ag [rr n1 a1 b1,rr n2 a2 b2],ag [rr n3 a3 b3,rr n4 a4 b4],ag [rr n5 a5 b5,rr n6 a6 b6]] (Rv (tedge x1 x2 x3 x4 x5 x6)):=by
 rw [tedge_reach (fun ⟨a,b⟩=>hz (by rw [a,b]; grind))]
 unfold reachV
 by_cases c:((x1 - x3)*(x5 - x3)+(x2 - x4)*(x6 - x4))/((x5 - x3)*(x5 - x3)+(x6 - x4)*(x6 - x4)) < 0
 ·rw [show clamp01 (((x1 - x3) * (x5 - x3) + (x2 - x4) * (x6 - x4)) / ((x5 - x3) * (x5 - x3) + (x6 - x4) * (x6 - x4))) = 0 from by
   unfold clamp01
   simp only [if_pos c]
   rw [if_neg (by decide)]]
  exact re1 h1' k1 h2' k2 h3' k3 h4' k4 h5' k5 h6' k6 hz (by rw [sgn_lt]; exact decide_eq_true c)
 by_cases c2:1 < ((x1 - x3)*(x5 - x3)+(x2 - x4)*(x6 - x4))/((x5 - x3)*(x5 - x3)+(x6 - x4)*(x6 - x4))
 ·rw [show clamp01 (((x1 - x3) * (x5 - x3) + (x2 - x4) * (x6 - x4)) / ((x5 - x3) * (x5 - x3) + (x6 - x4) * (x6 - x4))) = 1 from by
   unfold clamp01
   simp only [if_neg c]
   rw [if_pos c2]]
  exact re2 h1' k1 h2' k2 h3' k3 h4' k4 h5' k5 h6' k6 hz (by rw [sgn_lt]; exact decide_eq_false c) (decide_eq_true (cmpR_gt.2 c2))
 rw [show clamp01 (((x1 - x3)*(x5 - x3)+(x2 - x4)*(x6 - x4))/((x5 - x3)*(x5 - x3)+(x6 - x4)*(x6 - x4)))=((x1 - x3)*(x5 - x3)+(x2 - x4)*(x6 - x4))/((x5 - x3)*(x5 - x3)+(x6 - x4)*(x6 - x4)) from by
  unfold clamp01
  simp only [if_neg c]
  rw [if_neg c2]]
 exact re3 h1' k1 h2' k2 h3' k3 h4' k4 h5' k5 h6' k6 hz (by rw [sgn_lt]; exact decide_eq_false c) (decide_eq_false fun g=>c2 (cmpR_gt.1 g))
theorem numC_f {l:List Rat}:(numC l).all V.isC=true:=flnv
theorem numC_ap2 {l:List Rat} {x y:Rat}:appB (numC l) [.c (.bool (decide (Rat.num (x) < 0))),.c (.string (M.B (Int.natAbs (Rat.num (x))))),.c (.string (M.B (Rat.den (x)))),.c (.bool (decide (Rat.num (y) < 0))),.c (.string (M.B (Int.natAbs (Rat.num (y))))),.c (.string (M.B (Rat.den (y))))] l.length 2 3=true:=by
 simp only [appB,numC_len,numC_f]
 simp [V.isC,one,Nat.mul_comm]
theorem numC_snoc2 {l:List Rat} {x y:Rat}:numC l++[.c (.bool (decide (Rat.num (x) < 0))),.c (.string (M.B (Int.natAbs (Rat.num (x))))),.c (.string (M.B (Rat.den (x)))),.c (.bool (decide (Rat.num (y) < 0))),.c (.string (M.B (Int.natAbs (Rat.num (y))))),.c (.string (M.B (Rat.den (y))))]=numC (l++[x,y]):=by
 simp [numC,nv,rc]
def gpN (L B:List VR) (m c l d i k:Nat):St:=⟨slots 60 0 [(0,.sl 0 0 (m+1) c),(1,.sl 1 0 (l+1) d),(4,.p 2 0),(5,.c (.slice none 0 0)),(6,.c (.int .i64 (((i:Nat):Int)))),(9,.c (.int .i64 (((m+1:Nat):Int)))),(10,.c (.int .i64 (((i:Nat):Int)))),(14,.c (.int .i64 (((l+1:Nat):Int)))),(15,.c (.int .i64 (((k:Nat):Int))))],[some ⟨false,vcs L⟩,some ⟨false,vcs B⟩,some ⟨true,nv [[.bool false],[.string ⟨#[]⟩],[.string ⟨#[]⟩]]⟩]⟩
def gpR (L B:List VR) (Q:List V) (n m c l d i k:Nat):St:=⟨slots 60 0 [(0,.sl 0 0 (m+1) c),(1,.sl 1 0 (l+1) d),(4,.p 2 0),(5,.sd 3 n 3),(6,.c (.int .i64 (((i:Nat):Int)))),(9,.c (.int .i64 (((m+1:Nat):Int)))),(10,.c (.int .i64 (((i:Nat):Int)))),(14,.c (.int .i64 (((l+1:Nat):Int)))),(15,.c (.int .i64 (((k:Nat):Int))))],[some ⟨false,vcs L⟩,some ⟨false,vcs B⟩,some ⟨true,nv [[.bool false],[.string ⟨#[]⟩],[.string ⟨#[]⟩]]⟩,some ⟨true,Q⟩]⟩
def goN (L B:List VR) (m c l d i:Nat):St:=⟨slots 60 0 [(0,.sl 0 0 (m+1) c),(1,.sl 1 0 (l+1) d),(4,.p 2 0),(5,.c (.slice none 0 0)),(9,.c (.int .i64 (((m+1:Nat):Int)))),(10,.c (.int .i64 (((i:Nat):Int))))],[some ⟨false,vcs L⟩,some ⟨false,vcs B⟩,some ⟨true,nv [[.bool false],[.string ⟨#[]⟩],[.string ⟨#[]⟩]]⟩]⟩
def goR (L B:List VR) (Q:List V) (n m c l d i:Nat):St:=⟨slots 60 0 [(0,.sl 0 0 (m+1) c),(1,.sl 1 0 (l+1) d),(4,.p 2 0),(5,.sd 3 n 3),(9,.c (.int .i64 (((m+1:Nat):Int)))),(10,.c (.int .i64 (((i:Nat):Int))))],[some ⟨false,vcs L⟩,some ⟨false,vcs B⟩,some ⟨true,nv [[.bool false],[.string ⟨#[]⟩],[.string ⟨#[]⟩]]⟩,some ⟨true,Q⟩]⟩
theorem gp_a {L B:List VR} {u v p q:VR} {X:List Rat} {n m c l d i k:Nat} (hu:L[i]? = some u) (hv:L[(i+1)%(m+1)]? = some v) (hp':B[k]? = some p) (hq':B[(k+1)%(l+1)]? = some q) (ou:u.Ok) (ov:v.Ok) (op:p.Ok) (oq:q.Ok) (hi:i < m+1) (hm:m < 64) (hk:k < l+1) (hl:l < 64) (e1:(i+1)%(m+1) < m+1) (e2:(k+1)%(l+1) < l+1) (z1:(q.x - p.x)*(q.x - p.x)+(q.y - p.y)*(q.y - p.y)≠0) (z2:(v.x - u.x)*(v.x - u.x)+(v.y - u.y)*(v.y - u.y)≠0) (h0:decide ((↑k:Int) < (↑(l+(1:Nat)):Int))=true):TSpecN Tryd.prog 3 (loopOf Tryd.f13 2) (gpN L B m c l d i k) (.normal) (gpR L B (nv [rc (tedge u.x u.y p.x p.y q.x q.y),rc (tedge p.x p.y u.x u.y v.x v.y)]) 2 m c l d i (k+1)):=by
 have s1:=(vr1_s ou)
 have s2:=(vr2_s ou)
 have s3:=(vr1_s op)
 have s4:=(vr2_s op)
 have s5:=(vr1_s oq)
 have s6:=(vr2_s oq)
 have s7:=(vr1_s ov)
 have s8:=(vr2_s ov)
 exact tspecN_ren (mask 60 0 [0,1,4,5,6,9,10,14,15]) 3 [4] (sc:=[(6,0,.is (.c (.bool true))),(8,4,.fix (ag [[.bool (VR.n1 u)],[.string (VR.a1 u)],[.string (VR.b1 u)],[.bool (VR.n2 u)],[.string (VR.a2 u)],[.string (VR.b2 u)]])),(8,8,.fix (ag [[.bool (VR.n1 p)],[.string (VR.a1 p)],[.string (VR.b1 p)],[.bool (VR.n2 p)],[.string (VR.a2 p)],[.string (VR.b2 p)]])),(8,11,.is (.c (.int .i64 ((↑(k+(1:Nat)):Int))))),(8,14,.is (.c (.int .i64 ((↑((k+(1:Nat))%(l+(1:Nat))):Int))))),(8,16,.fix (ag [[.bool (VR.n1 q)],[.string (VR.a1 q)],[.string (VR.b1 q)],[.bool (VR.n2 q)],[.string (VR.a2 q)],[.string (VR.b2 q)]])),(8,17,.fix (Rv (tedge (VR.x u) (VR.y u) (VR.x p) (VR.y p) (VR.x q) (VR.y q)))),(8,21,.fix (ag [[.bool (VR.n1 p)],[.string (VR.a1 p)],[.string (VR.b1 p)],[.bool (VR.n2 p)],[.string (VR.a2 p)],[.string (VR.b2 p)]])),(8,25,.fix (ag [[.bool (VR.n1 u)],[.string (VR.a1 u)],[.string (VR.b1 u)],[.bool (VR.n2 u)],[.string (VR.a2 u)],[.string (VR.b2 u)]])),(8,28,.is (.c (.int .i64 ((↑(i+(1:Nat)):Int))))),(8,31,.is (.c (.int .i64 ((↑((i+(1:Nat))%(m+(1:Nat))):Int))))),(8,33,.fix (ag [[.bool (VR.n1 v)],[.string (VR.a1 v)],[.string (VR.b1 v)],[.bool (VR.n2 v)],[.string (VR.a2 v)],[.string (VR.b2 v)]])),(8,34,.fix (Rv (tedge (VR.x p) (VR.y p) (VR.x u) (VR.y u) (VR.x v) (VR.y v)))),(8,36,.app),(9,0,.is (.c (.int .i64 ((↑(k+(1:Nat)):Int)))))]) (sb:=[]) (by kernel_rfl) (hP (isB h0) (hP (show (0:Int)≤(↑i:Int)∧(↑i:Int) < (↑(m+(1:Nat)):Int) by omega) (hP (vcs_ld hu) (hP (show (0:Int)≤(↑k:Int)∧(↑k:Int) < (↑(l+(1:Nat)):Int) by omega) (hP (vcs_ld hp') (hP (incn (i:=k) hk (by omega)) (hP (show V.c (Value.int .i64 (Int.tmod (↑(k+(1:Nat)):Int) (↑(l+(1:Nat)):Int))) = .c (.int .i64 ((↑((k+(1:Nat))%(l+(1:Nat))):Int))) from (rfl)) (hP (show (0:Int)≤(↑((k+(1:Nat))%(l+(1:Nat))):Int)∧(↑((k+(1:Nat))%(l+(1:Nat))):Int) < (↑(l+(1:Nat)):Int) by omega) (hP (vcs_ld hq') (hC (reach_k s1 (by decide +kernel) s2 (by decide +kernel) s3 (by decide +kernel) s4 (by decide +kernel) s5 (by decide +kernel) s6 (by decide +kernel) z1) (hP (show (0:Int)≤(↑k:Int)∧(↑k:Int) < (↑(l+(1:Nat)):Int) by omega) (hP (vcs_ld hp') (hP (show (0:Int)≤(↑i:Int)∧(↑i:Int) < (↑(m+(1:Nat)):Int) by omega) (hP (vcs_ld hu) (hP (incn (i:=i) hi (by omega)) (hP (show V.c (Value.int .i64 (Int.tmod (↑(i+(1:Nat)):Int) (↑(m+(1:Nat)):Int))) = .c (.int .i64 ((↑((i+(1:Nat))%(m+(1:Nat))):Int))) from (rfl)) (hP (show (0:Int)≤(↑((i+(1:Nat))%(m+(1:Nat))):Int)∧(↑((i+(1:Nat))%(m+(1:Nat))):Int) < (↑(m+(1:Nat)):Int) by omega) (hP (vcs_ld hv) (hC (reach_k s3 (by decide +kernel) s4 (by decide +kernel) s1 (by decide +kernel) s2 (by decide +kernel) s7 (by decide +kernel) s8 (by decide +kernel) z2) (hP (Eq.refl true) (hP (show (2:Nat)≤(9223372036854775807:Nat)∧(80:Nat)≤(140737488355328:Nat) by decide) (hP (incn (i:=k) hk (by omega)) hN)))))))))))))))))))))) (flk vcs_f (flk vcs_f (flk flnv (flk flnv trivial))))
theorem gp_b {L B:List VR} {u v p q:VR} {X:List Rat} {n m c l d i k:Nat} (hu:L[i]? = some u) (hv:L[(i+1)%(m+1)]? = some v) (hp':B[k]? = some p) (hq':B[(k+1)%(l+1)]? = some q) (ou:u.Ok) (ov:v.Ok) (op:p.Ok) (oq:q.Ok) (hi:i < m+1) (hm:m < 64) (hk:k < l+1) (hl:l < 64) (e1:(i+1)%(m+1) < m+1) (e2:(k+1)%(l+1) < l+1) (z1:(q.x - p.x)*(q.x - p.x)+(q.y - p.y)*(q.y - p.y)≠0) (z2:(v.x - u.x)*(v.x - u.x)+(v.y - u.y)*(v.y - u.y)≠0) (hn:X.length≤1048576) (h0:decide ((↑k:Int) < (↑(l+(1:Nat)):Int))=true):TSpecN Tryd.prog 3 (loopOf Tryd.f13 2) (gpR L B (numC X) X.length m c l d i k) (.normal) (gpR L B (numC X++[.c (.bool (decide (Rat.num (tedge u.x u.y p.x p.y q.x q.y) < 0))),.c (.string (M.B (Int.natAbs (Rat.num (tedge u.x u.y p.x p.y q.x q.y))))),.c (.string (M.B (Rat.den (tedge u.x u.y p.x p.y q.x q.y)))),.c (.bool (decide (Rat.num (tedge p.x p.y u.x u.y v.x v.y) < 0))),.c (.string (M.B (Int.natAbs (Rat.num (tedge p.x p.y u.x u.y v.x v.y))))),.c (.string (M.B (Rat.den (tedge p.x p.y u.x u.y v.x v.y))))]) (X.length+2) m c l d i (k+1)):=by
 have s1:=(vr1_s ou)
 have s2:=(vr2_s ou)
 have s3:=(vr1_s op)
 have s4:=(vr2_s op)
 have s5:=(vr1_s oq)
 have s6:=(vr2_s oq)
 have s7:=(vr1_s ov)
 have s8:=(vr2_s ov)
 exact tspecN_ren (mask 60 0 [0,1,4,5,6,9,10,14,15]) 3 [5] (sc:=[(6,0,.is (.c (.bool true))),(8,4,.fix (ag [[.bool (VR.n1 u)],[.string (VR.a1 u)],[.string (VR.b1 u)],[.bool (VR.n2 u)],[.string (VR.a2 u)],[.string (VR.b2 u)]])),(8,8,.fix (ag [[.bool (VR.n1 p)],[.string (VR.a1 p)],[.string (VR.b1 p)],[.bool (VR.n2 p)],[.string (VR.a2 p)],[.string (VR.b2 p)]])),(8,11,.is (.c (.int .i64 ((↑(k+(1:Nat)):Int))))),(8,14,.is (.c (.int .i64 ((↑((k+(1:Nat))%(l+(1:Nat))):Int))))),(8,16,.fix (ag [[.bool (VR.n1 q)],[.string (VR.a1 q)],[.string (VR.b1 q)],[.bool (VR.n2 q)],[.string (VR.a2 q)],[.string (VR.b2 q)]])),(8,17,.fix (Rv (tedge (VR.x u) (VR.y u) (VR.x p) (VR.y p) (VR.x q) (VR.y q)))),(8,21,.fix (ag [[.bool (VR.n1 p)],[.string (VR.a1 p)],[.string (VR.b1 p)],[.bool (VR.n2 p)],[.string (VR.a2 p)],[.string (VR.b2 p)]])),(8,25,.fix (ag [[.bool (VR.n1 u)],[.string (VR.a1 u)],[.string (VR.b1 u)],[.bool (VR.n2 u)],[.string (VR.a2 u)],[.string (VR.b2 u)]])),(8,28,.is (.c (.int .i64 ((↑(i+(1:Nat)):Int))))),(8,31,.is (.c (.int .i64 ((↑((i+(1:Nat))%(m+(1:Nat))):Int))))),(8,33,.fix (ag [[.bool (VR.n1 v)],[.string (VR.a1 v)],[.string (VR.b1 v)],[.bool (VR.n2 v)],[.string (VR.a2 v)],[.string (VR.b2 v)]])),(8,34,.fix (Rv (tedge (VR.x p) (VR.y p) (VR.x u) (VR.y u) (VR.x v) (VR.y v)))),(8,36,.app),(9,0,.is (.c (.int .i64 ((↑(k+(1:Nat)):Int)))))]) (sb:=[]) (by kernel_rfl) (hP (isB h0) (hP (show (0:Int)≤(↑i:Int)∧(↑i:Int) < (↑(m+(1:Nat)):Int) by omega) (hP (vcs_ld hu) (hP (show (0:Int)≤(↑k:Int)∧(↑k:Int) < (↑(l+(1:Nat)):Int) by omega) (hP (vcs_ld hp') (hP (incn (i:=k) hk (by omega)) (hP (show V.c (Value.int .i64 (Int.tmod (↑(k+(1:Nat)):Int) (↑(l+(1:Nat)):Int))) = .c (.int .i64 ((↑((k+(1:Nat))%(l+(1:Nat))):Int))) from (rfl)) (hP (show (0:Int)≤(↑((k+(1:Nat))%(l+(1:Nat))):Int)∧(↑((k+(1:Nat))%(l+(1:Nat))):Int) < (↑(l+(1:Nat)):Int) by omega) (hP (vcs_ld hq') (hC (reach_k s1 (by decide +kernel) s2 (by decide +kernel) s3 (by decide +kernel) s4 (by decide +kernel) s5 (by decide +kernel) s6 (by decide +kernel) z1) (hP (show (0:Int)≤(↑k:Int)∧(↑k:Int) < (↑(l+(1:Nat)):Int) by omega) (hP (vcs_ld hp') (hP (show (0:Int)≤(↑i:Int)∧(↑i:Int) < (↑(m+(1:Nat)):Int) by omega) (hP (vcs_ld hu) (hP (incn (i:=i) hi (by omega)) (hP (show V.c (Value.int .i64 (Int.tmod (↑(i+(1:Nat)):Int) (↑(m+(1:Nat)):Int))) = .c (.int .i64 ((↑((i+(1:Nat))%(m+(1:Nat))):Int))) from (rfl)) (hP (show (0:Int)≤(↑((i+(1:Nat))%(m+(1:Nat))):Int)∧(↑((i+(1:Nat))%(m+(1:Nat))):Int) < (↑(m+(1:Nat)):Int) by omega) (hP (vcs_ld hv) (hC (reach_k s3 (by decide +kernel) s4 (by decide +kernel) s1 (by decide +kernel) s2 (by decide +kernel) s7 (by decide +kernel) s8 (by decide +kernel) z2) (hP (numC_ap2 (l:=X) (x:=tedge u.x u.y p.x p.y q.x q.y) (y:=tedge p.x p.y u.x u.y v.x v.y)) (hP (show List.length X+(2:Nat)≤(9223372036854775807:Nat)∧(List.length X+(2:Nat))*(40:Nat)≤(140737488355328:Nat) by omega) (hP (incn (i:=k) hk (by omega)) hN)))))))))))))))))))))) (flk vcs_f (flk vcs_f (flk flnv (flk (flap numC_f rfl) trivial))))
theorem gp_c {L B:List VR} {u v p q:VR} {X:List Rat} {n m c l d i k:Nat}  (h0:decide ((↑k:Int) < (↑(l+(1:Nat)):Int))=false):TSpecN Tryd.prog 3 (loopOf Tryd.f13 2) (gpR L B (numC X) n m c l d i k) (.exit 2) (gpR L B (numC X) n m c l d i k):=by
 exact tspecN_ren (mask 60 0 [0,1,4,5,6,9,10,14,15]) 3 [3] (sc:=[(6,0,.is (.c (.bool false)))]) (sb:=[]) (by kernel_rfl) (hP (isB h0) hN) (flk vcs_f (flk vcs_f (flk flnv (flk numC_f trivial))))
theorem go_a {L B:List VR} {X Y:List Rat} {p n m c l d i:Nat} (hi:i < m+1) (hm:m < 64) (hb:TSpecN Tryd.prog 3 (.block 2 (.loop (loopOf Tryd.f13 2))) (gpN L B m c l d i 0) .normal (gpR L B (numC Y) n m c l d i (l+1))) (h0:decide ((↑i:Int) < (↑(m+(1:Nat)):Int))=true):TSpecN Tryd.prog 3 (loopOf Tryd.f13 0) (goN L B m c l d i) (.normal) (goR L B (numC Y) n m c l d (i+1)):=by
 exact tspecN_ren (mask 60 0 [0,1,4,5,9,10]) 3 [3] (sc:=[(3,0,.is (.c (.bool true))),(2,99999,.maskN (mask 60 0 [0,1,4,5,6,9,10,14,15])),(10,0,.is (.c (.int .i64 ((↑(i+(1:Nat)):Int)))))]) (sb:=[(2,.normal,gpR L B (numC Y) n m c l d i (l+1))]) (by kernel_rfl) (hP (isB h0) (hP (show Flat [some { own:=false,cells:=vcs L },some { own:=false,cells:=vcs B },some ⟨Bool.true,nv [[.bool false],[.string ({ data:=#[] })],[.string ({ data:=#[] })]]⟩] from (flk vcs_f (flk vcs_f (flk rfl trivial)))) (hP (hb) (hP (incn (i:=i) hi (by omega)) hN)))) (flk vcs_f (flk vcs_f (flk flnv (flk numC_f trivial))))
theorem go_b {L B:List VR} {X Y:List Rat} {p n m c l d i:Nat} (hi:i < m+1) (hm:m < 64) (hb:TSpecN Tryd.prog 3 (.block 2 (.loop (loopOf Tryd.f13 2))) (gpR L B (numC X) p m c l d i 0) .normal (gpR L B (numC Y) n m c l d i (l+1))) (h0:decide ((↑i:Int) < (↑(m+(1:Nat)):Int))=true):TSpecN Tryd.prog 3 (loopOf Tryd.f13 0) (goR L B (numC X) p m c l d i) (.normal) (goR L B (numC Y) n m c l d (i+1)):=by
 exact tspecN_ren (mask 60 0 [0,1,4,5,9,10]) 3 [3] (sc:=[(3,0,.is (.c (.bool true))),(2,99999,.maskN (mask 60 0 [0,1,4,5,6,9,10,14,15])),(10,0,.is (.c (.int .i64 ((↑(i+(1:Nat)):Int)))))]) (sb:=[(2,.normal,gpR L B (numC Y) n m c l d i (l+1))]) (by kernel_rfl) (hP (isB h0) (hP (show Flat [some { own:=false,cells:=vcs L },some { own:=false,cells:=vcs B },some ⟨Bool.true,nv [[.bool false],[.string ({ data:=#[] })],[.string ({ data:=#[] })]]⟩,some { own:=true,cells:=numC X }] from (flk vcs_f (flk vcs_f (flk rfl (flk numC_f trivial))))) (hP (hb) (hP (incn (i:=i) hi (by omega)) hN)))) (flk vcs_f (flk vcs_f (flk flnv (flk numC_f trivial))))
theorem go_c {L B:List VR} {X Y:List Rat} {p n m c l d i:Nat}  (h0:decide ((↑i:Int) < (↑(m+(1:Nat)):Int))=false):TSpecN Tryd.prog 3 (loopOf Tryd.f13 0) (goR L B (numC Y) n m c l d i) (.exit 0) (goR L B (numC Y) n m c l d i):=by
 exact tspecN_ren (mask 60 0 [0,1,4,5,9,10]) 3 [3] (sc:=[(3,0,.is (.c (.bool false)))]) (sb:=[]) (by kernel_rfl) (hP (isB h0) hN) (flk vcs_f (flk vcs_f (flk flnv (flk numC_f trivial))))
noncomputable def tA (L B:List VR) (i k:Nat):Rat:=teF B (pX L i) (pY L i) k
noncomputable def tB (L B:List VR) (k i:Nat):Rat:=teF L (pX B k) (pY B k) i
noncomputable def gapR (L B:List VR) (i:Nat):Nat→List Rat
 | 0=>[]
 | k+1=>gapR L B i k++[tA L B i k,tB L B k i]
noncomputable def gapG (L B:List VR):Nat→List Rat
 | 0=>[]
 | i+1=>gapG L B i++gapR L B i B.length
theorem gapR_len {L B:List VR} {i:Nat}:∀ k,(gapR L B i k).length=2*k
 | 0=>rfl
 | k+1=>by
   show (gapR L B i k++_).length=_
   rw [List.length_append,gapR_len k]
   rfl
theorem gapG_len {L B:List VR}:∀ i,(gapG L B i).length=i*(2*B.length)
 | 0=>by rw [Nat.zero_mul]; rfl
 | i+1=>by
   show (gapG L B i++_).length=_
   rw [List.length_append,gapG_len i,gapR_len,← Nat.succ_mul]
theorem gapR_mem {L B:List VR} {i:Nat} {x:Rat}:∀ n,x∈gapR L B i n ↔ ∃ k,k < n∧(x=tA L B i k∨x=tB L B k i)
 | 0=>⟨fun h=>absurd h List.not_mem_nil,fun ⟨k,hk,_⟩=>absurd hk (Nat.not_lt_zero k)⟩
 | n+1=>by
   show x∈gapR L B i n++_↔_
   rw [List.mem_append,gapR_mem n]
   constructor
   ·rintro (⟨k,hk,h⟩ | h)
    ·exact ⟨k,by omega,h⟩
    refine ⟨n,by omega,?_⟩
    simpa using h
   rintro ⟨k,hk,h⟩
   by_cases e:k=n
   ·subst e
    right
    simpa using h
   exact .inl ⟨k,by omega,h⟩
theorem gapG_mem {L B:List VR} {x:Rat}:∀ n,x∈gapG L B n ↔ ∃ i,i < n ∧ ∃ k,k < B.length∧(x=tA L B i k∨x=tB L B k i)
 | 0=>⟨fun h=>absurd h List.not_mem_nil,fun ⟨k,hk,_⟩=>absurd hk (Nat.not_lt_zero k)⟩
 | n+1=>by
   show x∈gapG L B n++_↔_
   rw [List.mem_append,gapG_mem n,gapR_mem]
   constructor
   ·rintro (⟨k,hk,h⟩ | h)
    ·exact ⟨k,by omega,h⟩
    exact ⟨n,by omega,h⟩
   rintro ⟨k,hk,h⟩
   by_cases e:k=n
   ·subst e
    exact .inr h
   exact .inl ⟨k,by omega,h⟩
theorem isMin_list:∀ (l:List Rat) (a:Rat),IsMin (fun x=>x=a∨x∈l) (l.foldl mn a)
 | [],a=>⟨.inl rfl,fun x hx=>by
   rcases hx with rfl | hx
   ·exact Rat.le_refl
   cases hx⟩
 | b::l,a=>by
   obtain ⟨h1,h2⟩:=isMin_list l (mn a b)
   have e:mn a b=a∨mn a b=b:=by unfold mn; split<;>simp
   have ea:mn a b≤a:=by unfold mn; split<;>grind
   have eb:mn a b≤b:=by unfold mn; split<;>grind
   refine ⟨?_,fun x hx=>?_⟩
   ·rcases h1 with h1 | h1
    ·rcases e with e | e
     ·exact .inl (h1.trans e)
     exact .inr (List.mem_cons.2 (.inl (h1.trans e)))
    exact .inr (List.mem_cons_of_mem _ h1)
   have h0:=h2 _ (.inl rfl)
   show l.foldl mn (mn a b)≤x
   rcases hx with rfl | hx
   ·grind
   rcases List.mem_cons.1 hx with rfl | hx
   ·grind
   exact h2 x (.inr hx)
noncomputable def gMn (X:List Rat):Rat:=(X.drop 1).foldl mn (X.headD 0)
noncomputable def gMx (X:List Rat):Rat:=(X.drop 1).foldl mx (X.headD 0)
theorem gMn_min {X:List Rat} (h:X≠[]):IsMin (fun x=>x∈X) (gMn X):=by
 cases X with
 | nil=>exact absurd rfl h
 | cons a l=>exact isMin_congr (isMin_list l a) fun x=>List.mem_cons.symm
theorem sqV_gap {L B:List VR} (hp:MustPoly L) (hp':MustPoly B):sqV L B=gMn (gapG L B L.length):=by
 have a:=(ring_ok hp).2.1
 have b:=(ring_ok hp').2.1
 have h1:=tab_min (tA:=tA L B) (tB:=tB L B) (show 0 < L.length by omega) (show 0 < B.length by omega)
 have hne:gapG L B L.length≠[]:=by
  intro h
  have:=congrArg List.length h
  rw [gapG_len] at this
  rcases Nat.mul_eq_zero.1 this with h | h<;>omega
 exact isMin_eq h1 (isMin_congr (gMn_min hne) fun x=>gapG_mem _)
theorem aroundG_k {X:List Rat} {m cp:Nat} (hX:X.length=m+1) (hm:m < 2000000) (hs:∀ y∈X,Sz y 26000000):FSpec Tryd.prog 31 [.sl 0 0 (m+1) cp] [some ⟨false,numC X⟩] (.c (ag [rc (gMn X),rc (gMx X)])) [some ⟨false,numC X⟩]:=by
 cases X with
 | nil=>simp at hX
 | cons x r =>
   have hr:r.length=m:=by simpa using hX
   subst hr
   exact rAround_g r (by omega) (hs x List.mem_cons_self) (fun y hy=>hs y (List.mem_cons_of_mem _ hy)) (by decide)
theorem edge_nz {L:List VR} {i n:Nat} {u v:VR} (hp:MustPoly L) (hL:L.length=n) (hi:i < n) (hu:L[i]? = some u) (hv:L[(i+1)%n]? = some v):(v.x - u.x)*(v.x - u.x)+(v.y - u.y)*(v.y - u.y)≠0:=by
 subst hL
 obtain ⟨_,h3,hr⟩:=ring_ok hp
 have h:=edge_ne h3 hr hi
 rw [pX_at hu,pX_at hv,pY_at hu,pY_at hv] at h
 have:=sq2_pos h
 grind
def gpS (L B:List VR) (q:List Rat) (m c l d i k:Nat):St:=if q=[] then gpN L B m c l d i k else gpR L B (numC q) q.length m c l d i k
def goS (L B:List VR) (q:List Rat) (m c l d i:Nat):St:=if q=[] then goN L B m c l d i else goR L B (numC q) q.length m c l d i
section
variable {L B:List VR} {m c l d:Nat} (hL:L.length=m+1) (ok:∀ v∈L,v.Ok) (hB:B.length=l+1) (okB:∀ v∈B,v.Ok) (hm:m < 64) (hl:l < 64) (hp:MustPoly L) (hp':MustPoly B)
include hL ok hB okB hm hl hp hp'
theorem gp_in {i:Nat} (hi:i < m+1) (q0:List Rat) (hq0:q0.length≤500000):∀ (e k:Nat),k+e=l+1→(0 < e∨q0++gapR L B i k≠[]) →
 RoundsN Tryd.prog 3 (loopOf Tryd.f13 2) 2 (gpS L B (q0++gapR L B i k) m c l d i k) .normal (gpR L B (numC (q0++gapR L B i (l+1))) (q0++gapR L B i (l+1)).length m c l d i (l+1))
 | 0,k,hk,hq=>by
   obtain rfl:k=l+1:=by omega
   have hq':=hq.resolve_left (by omega)
   unfold gpS
   rw [if_neg hq']
   exact .stop (gp_c (u:=z0) (v:=z0) (p:=z0) (q:=z0) (decide_eq_false (by omega)))
 | e+1,k,hk,hq=>by
   have p1:(i+1)%(m+1) < m+1:=Nat.mod_lt _ (by omega)
   have p2:(k+1)%(l+1) < l+1:=Nat.mod_lt _ (by omega)
   obtain ⟨u,hu⟩:∃ u,L[i]? = some u:=⟨_,List.getElem?_eq_getElem (by omega)⟩
   obtain ⟨v,hv⟩:∃ v,L[(i+1)%(m+1)]? = some v:=⟨_,List.getElem?_eq_getElem (by omega)⟩
   obtain ⟨p,hpk⟩:∃ p,B[k]? = some p:=⟨_,List.getElem?_eq_getElem (by omega)⟩
   obtain ⟨q,hqk⟩:∃ q,B[(k+1)%(l+1)]? = some q:=⟨_,List.getElem?_eq_getElem (by omega)⟩
   have z1:=edge_nz hp' hB (show k < l+1 by omega) hpk hqk
   have z2:=edge_nz hp hL hi hu hv
   have ea:tedge u.x u.y p.x p.y q.x q.y=tA L B i k:=by
    unfold tA
    rw [teF_at hB hpk hqk,pX_at hu,pY_at hu]
   have eb:tedge p.x p.y u.x u.y v.x v.y=tB L B k i:=by
    unfold tB
    rw [teF_at hL hu hv,pX_at hpk,pY_at hpk]
   have hlt:decide ((k:Int) < ((l+1:Nat):Int))=true:=decide_eq_true (by omega)
   have es:q0++gapR L B i (k+1)=(q0++gapR L B i k)++[tA L B i k,tB L B k i]:=by
    show q0++(gapR L B i k++_)=_
    rw [List.append_assoc]
   have hne:q0++gapR L B i (k+1)≠[]:=by rw [es]; simp
   refine .step ?_ (gp_in hi q0 hq0 e (k+1) (by omega) (.inr hne))
   unfold gpS
   rw [if_neg hne,es]
   have hlen:(q0++gapR L B i k).length≤1048576:=by
    rw [List.length_append,gapR_len]
    omega
   generalize q0++gapR L B i k=Q at *
   split
   ·rename_i h0
    subst h0
    have st:=gp_a (X:=[]) (n:=0) (c:=c) (d:=d) hu hv hpk hqk (ok _ (List.mem_of_getElem? hu)) (ok _ (List.mem_of_getElem? hv)) (okB _ (List.mem_of_getElem? hpk)) (okB _ (List.mem_of_getElem? hqk)) hi hm (by omega) hl p1 p2 z1 z2 hlt
    rw [ea,eb] at st
    exact st
   have st:=gp_b (X:=Q) (n:=0) (c:=c) (d:=d) hu hv hpk hqk (ok _ (List.mem_of_getElem? hu)) (ok _ (List.mem_of_getElem? hv)) (okB _ (List.mem_of_getElem? hpk)) (okB _ (List.mem_of_getElem? hqk)) hi hm (by omega) hl p1 p2 z1 z2 hlen hlt
   rw [ea,eb,numC_snoc2] at st
   rw [List.length_append]
   exact st
theorem go_all:∀ (e i:Nat),i+e=m+1→(0 < e∨gapG L B i≠[]) →
 RoundsN Tryd.prog 3 (loopOf Tryd.f13 0) 0 (goS L B (gapG L B i) m c l d i) .normal (goR L B (numC (gapG L B (m+1))) (gapG L B (m+1)).length m c l d (m+1))
 | 0,i,hi,hq=>by
   obtain rfl:i=m+1:=by omega
   have hq':=hq.resolve_left (by omega)
   unfold goS
   rw [if_neg hq']
   exact .stop (go_c (X:=[]) (p:=0) (decide_eq_false (by omega)))
 | e+1,i,hi,hq=>by
   have hlt:decide ((i:Int) < ((m+1:Nat):Int))=true:=decide_eq_true (by omega)
   have hlen:(gapG L B i).length≤500000:=by
    rw [gapG_len,hB]
    have:=Nat.mul_le_mul (show i≤64 by omega) (show 2*(l+1)≤128 by omega)
    omega
   have hin:=RoundsN.spec (gp_in (c:=c) (d:=d) hL ok hB okB hm hl hp hp' (show i < m+1 by omega) (gapG L B i) hlen (l+1) 0 (by omega) (.inl (by omega)))
   have es:gapG L B i++gapR L B i (l+1)=gapG L B (i+1):=by
    show _=gapG L B i++gapR L B i B.length
    rw [hB]
   have hne:gapG L B (i+1)≠[]:=by
    intro h
    have:=congrArg List.length h
    rw [gapG_len,hB] at this
    rcases Nat.mul_eq_zero.1 this with h | h<;>omega
   rw [es,show gapG L B i++gapR L B i 0=gapG L B i from List.append_nil _] at hin
   refine .step ?_ (go_all e (i+1) (by omega) (.inr hne))
   unfold goS
   rw [if_neg hne]
   unfold gpS at hin
   split
   ·rename_i h0
    rw [if_pos h0] at hin
    exact go_a (X:=[]) (p:=0) (by omega) hm hin hlt
   rename_i h0
   rw [if_neg h0] at hin
   exact go_b (by omega) hm hin hlt
end
theorem gap0 {L B:List VR} {X:List Rat} {g m c l d:Nat} (hL:L.length=m+1) (ok:∀ v∈L,v.Ok) (hB:B.length=l+1) (okB:∀ v∈B,v.Ok) (hX:X.length=g+1) (hg:g < 2000000) (tX:∀ y∈X,Sz y 26000000) (hb:TSpecN Tryd.prog 2 (.block 0 (.loop (loopOf Tryd.f13 0))) (goN L B m c l d 0) .normal (goR L B (numC X) (g+1) m c l d (m+1)))  : FSpec Tryd.prog 13 [.sl 0 0 (m+1) c,.sl 1 0 (l+1) d] [some ⟨false,vcs L⟩,some ⟨false,vcs B⟩] (.c (Rv (gMn X))) [some ⟨false,vcs L⟩,some ⟨false,vcs B⟩]:=by
 exact fspec_ok Tryd.func13 (sc:=[(0,99999,.maskN (mask 60 0 [0,1,4,5,9,10])),(11,1,.readf (ag [rc (gMn X),rc (gMx X)]))]) (sb:=[(0,.normal,goR L B (numC X) (g+1) m c l d (m+1))]) (keep:=[]) (by kernel_rfl) (hP (show Flat [some ⟨false,vcs L⟩,some ⟨false,vcs B⟩] from flk vcs_f (flk vcs_f trivial)) (hP (show Flat [some { own:=false,cells:=vcs L },some { own:=false,cells:=vcs B },some ⟨Bool.true,nv [[.bool false],[.string ({ data:=#[] })],[.string ({ data:=#[] })]]⟩] from (flk vcs_f (flk vcs_f (flk rfl trivial)))) (hP (hb) (hP (show Flat [some { own:=false,cells:=numC X }] from (flk numC_f trivial)) (hP (fun (cp:Nat→Nat→Nat)=>(aroundG_k (cp:=cp (3:Nat) (3:Nat)) hX hg tX)) hN)))))
theorem gap_k {L B:List VR} {m c l d:Nat} (hL:L.length=m+1) (ok:∀ v∈L,v.Ok) (hB:B.length=l+1) (okB:∀ v∈B,v.Ok)  (hm:m < 64) (hl:l < 64) (hp:MustPoly L) (hp':MustPoly B):FSpec Tryd.prog 13 [.sl 0 0 (m+1) c,.sl 1 0 (l+1) d] [some ⟨false,vcs L⟩,some ⟨false,vcs B⟩] (.c (Rv (sqV L B))) [some ⟨false,vcs L⟩,some ⟨false,vcs B⟩]:=by
 have hne:gapG L B (m+1)≠[]:=by
  intro h
  have:=congrArg List.length h
  rw [gapG_len,hB] at this
  rcases Nat.mul_eq_zero.1 this with h | h<;>omega
 have hb:=RoundsN.spec (go_all (c:=c) (d:=d) hL ok hB okB hm hl hp hp' (m+1) 0 (by omega) (.inl (by omega)))
 have e0:goS L B (gapG L B 0) m c l d 0=goN L B m c l d 0:=rfl
 rw [e0] at hb
 have hlen:=gapG_len (L:=L) (B:=B) (m+1)
 have hpos:0 < (gapG L B (m+1)).length:=List.length_pos_iff.2 hne
 obtain ⟨g,hg⟩:∃ g,(gapG L B (m+1)).length=g+1:=⟨(gapG L B (m+1)).length - 1,by omega⟩
 rw [hg] at hb
 have hle:g < 2000000:=by
  rw [hB] at hlen
  have:=Nat.mul_le_mul (show m+1≤64 by omega) (show 2*(l+1)≤128 by omega)
  omega
 rw [sqV_gap hp hp',hL]
 refine gap0 hL ok hB okB hg hle (fun y hy=>?_) (fun C w0 β a w hn hok=>hb C w0 β a w (Nat.le_trans hn (by decide)) hok)
 obtain ⟨i,_,k,_,h | h⟩:=(gapG_mem _).1 hy
 ·rw [h]; exact teF_s okB (cxy_s ok i).1 (cxy_s ok i).2 k
 rw [h]; exact teF_s ok (cxy_s okB k).1 (cxy_s okB k).2 i
end Go.Proofs.YtjefpjajkbldpaaDoor.G
end
section
namespace Go.Proofs.YtjefpjajkbldpaaDoor.G
open Go.Proofs.YtjefpjajkbldpaaDoor.U Go.RowKit
def cn (p:Rat × Rat):VR:=⟨decide (p.1.num < 0),M.B p.1.num.natAbs,M.B p.1.den,decide (p.2.num < 0),M.B p.2.num.natAbs,M.B p.2.den⟩
def fX (P:List (Rat × Rat)) (i:Nat):Rat:=((P[i]?).map Prod.fst).getD 0
def fY (P:List (Rat × Rat)) (i:Nat):Rat:=((P[i]?).map Prod.snd).getD 0
theorem pX_cn (P:List (Rat × Rat)) (i:Nat):pX (P.map cn) i=fX P i:=by
 unfold pX fX
 rw [List.getElem?_map]
 cases P[i]? with
 | none=>rfl
 | some p=>exact qv_Rv p.1
theorem pY_cn (P:List (Rat × Rat)) (i:Nat):pY (P.map cn) i=fY P i:=by
 unfold pY fY
 rw [List.getElem?_map]
 cases P[i]? with
 | none=>rfl
 | some p=>exact qv_Rv p.2
def sqP:List (Rat × Rat):=[((0:Rat),(0:Rat)),((1:Rat),(0:Rat)),((1:Rat),(1:Rat)),((0:Rat),(1:Rat))]
def sqQ:List (Rat × Rat):=[((4:Rat),(5:Rat)),((5:Rat),(5:Rat)),((5:Rat),(6:Rat)),((4:Rat),(6:Rat))]
theorem cn_ok {P:List (Rat × Rat)} (h:∀ p∈P,Sz p.1 1∧Sz p.2 1):∀ v∈P.map cn,v.Ok:=by
 intro v hv
 obtain ⟨p,hp,rfl⟩:=List.mem_map.1 hv
 obtain ⟨h1,h2⟩:=h p hp
 have h1:=h1.mono (show 1≤1048576 by decide)
 have h2:=h2.mono (show 1≤1048576 by decide)
 exact ⟨h1.num,h1.den,h2.num,h2.den⟩
theorem cn_ring {P:List (Rat × Rat)} (hl:P.length=4) (h:∀ i,i < 4 → ∀ k,k < i → ∀ j,j < k→0 < sd (fX P) (fY P) j k i):MustPoly (P.map cn):=by
 have e:RingOk (pX (P.map cn)) (pY (P.map cn)) 4:=by
  intro i k j hi hk hj
  have:=h i hi k hk j hj
  unfold sd at this ⊢
  simp only [pX_cn,pY_cn]
  exact this
 unfold MustPoly ringN
 rw [List.length_map,hl,if_neg (by decide),if_neg (by decide),if_pos e]
theorem sqP_ok:∀ v∈sqP.map cn,v.Ok:=cn_ok (by
 intro p hp
 simp only [sqP,List.mem_cons,List.not_mem_nil,or_false] at hp
 rcases hp with rfl | rfl | rfl | rfl<;>exact ⟨⟨by decide,by decide⟩,⟨by decide,by decide⟩⟩)
theorem sqQ_ok:∀ v∈sqQ.map cn,v.Ok:=cn_ok (by
 intro p hp
 simp only [sqQ,List.mem_cons,List.not_mem_nil,or_false] at hp
 rcases hp with rfl | rfl | rfl | rfl<;>exact ⟨⟨by decide,by decide⟩,⟨by decide,by decide⟩⟩)
theorem sqP_ring:MustPoly (sqP.map cn):=cn_ring rfl (of_decide_eq_true (by kernel_rfl))
theorem sqQ_ring:MustPoly (sqQ.map cn):=cn_ring rfl (of_decide_eq_true (by kernel_rfl))
theorem sq_yes:MustYes (sqP.map cn) (sqQ.map cn):=by
 have h:∀ k,k < 4→sp (fX sqP) (fY sqP) 1 2 (fX sqQ k) (fY sqQ k) < 0:=of_decide_eq_true (by kernel_rfl)
 refine ⟨1,by decide,fun k hk=>?_⟩
 have:=h k hk
 unfold sp at this ⊢
 simp only [pX_cn,pY_cn]
 exact this
theorem sq_25:sqV (sqP.map cn) (sqQ.map cn)=25:=by
 unfold sqV nearV teF
 simp only [pX_cn,pY_cn,List.length_map]
 kernel_rfl
theorem sqPQ_k:FSpec Tryd.prog 6 [.sl 0 0 4 4,.sl 1 0 4 4] [some ⟨false,nv [rc (0:Rat),rc (0:Rat),rc (1:Rat),rc (0:Rat),rc (1:Rat),rc (1:Rat),rc (0:Rat),rc (1:Rat)]⟩,some ⟨false,nv [rc (4:Rat),rc (5:Rat),rc (5:Rat),rc (5:Rat),rc (5:Rat),rc (6:Rat),rc (4:Rat),rc (6:Rat)]⟩] (.c (.tuple #[Rv 25,.int .i64 0])) [some ⟨false,nv [rc (0:Rat),rc (0:Rat),rc (1:Rat),rc (0:Rat),rc (1:Rat),rc (1:Rat),rc (0:Rat),rc (1:Rat)]⟩,some ⟨false,nv [rc (4:Rat),rc (5:Rat),rc (5:Rat),rc (5:Rat),rc (5:Rat),rc (6:Rat),rc (4:Rat),rc (6:Rat)]⟩]:=by
 have h:=sqF_k (L:=sqP.map cn) (B:=sqQ.map cn) (m:=3) (c:=4) (l:=3) (d:=4) rfl sqP_ok rfl sqQ_ok (by decide) (by decide) sqP_ring sqQ_ring (.inl sq_yes)
 rw [sq_25] at h
 exact h
theorem apartBegunG_k    : CSpec Tryd.prog 4 #[] (.bool true):=by
 exact fn_ok Tryd.func4 (sc:=[(1,0,.sub true [] (V.sl (0:Nat) (0:Nat) (4:Nat) (4:Nat)) (some [some ⟨Bool.true,nv [rc ((0:Rat)),rc ((0:Rat)),rc ((1:Rat)),rc ((0:Rat)),rc ((1:Rat)),rc ((1:Rat)),rc ((0:Rat)),rc ((1:Rat))]⟩])),(1,1,.sub true [] (V.sl (0:Nat) (0:Nat) (4:Nat) (4:Nat)) (some [some ⟨Bool.true,nv [rc ((4:Rat)),rc ((5:Rat)),rc ((5:Rat)),rc ((5:Rat)),rc ((5:Rat)),rc ((6:Rat)),rc ((4:Rat)),rc ((6:Rat))]⟩])),(1,2,.read (.tuple #[Rv (25:Rat),.int .i64 (0:Int)])),(2,0,.fix (.bool true)),(2,7,.fix (Rv (25:Rat)))]) (sb:=[]) (by kernel_rfl) (hF squareA_k (hF squareB_k (hF sqPQ_k (hC polyBegun_k (hC ri25_k hN)))))
end Go.Proofs.YtjefpjajkbldpaaDoor.G
end
section
namespace Go.Proofs.YtjefpjajkbldpaaDoor.G
open Go.Proofs.YtjefpjajkbldpaaDoor.U Go.RowKit
theorem zring64_k {ao:Option Addr} {c:Nat}    : CSpec Tryd.prog 8 #[(.slice ao 0 c),(.int .i64 64)] (.int .i64 (3:Int)):=by
 exact fn_ok Tryd.func8 (sc:=[]) (sb:=[]) (by kernel_rfl) hN
theorem touchT_k {L B:List VR} {m c l d:Nat} (hL:L.length=m+1) (ok:∀ v∈L,v.Ok) (hB:B.length=l+1) (okB:∀ v∈B,v.Ok) (hm:m < 64) (hl:l < 64) (hp:MustPoly L) (hp':MustPoly B)  (h1:MustNo L B) (h2:MustNo B L):FSpec Tryd.prog 9 [.sl 0 0 (m+1) c,.sl 1 0 (l+1) d] [some ⟨false,vcs L⟩,some ⟨false,vcs B⟩] (.c (.bool true)) [some ⟨false,vcs L⟩,some ⟨false,vcs B⟩]:=by
 have h:=touch_k (c:=c) (d:=d) hL ok hB okB hm hl
 rwa [(tchB_iff hp hp').2 ⟨h1,h2⟩] at h
theorem touchF_k {L B:List VR} {m c l d:Nat} (hL:L.length=m+1) (ok:∀ v∈L,v.Ok) (hB:B.length=l+1) (okB:∀ v∈B,v.Ok) (hm:m < 64) (hl:l < 64) (hp:MustPoly L) (hp':MustPoly B)  (hx:MustApart L B):FSpec Tryd.prog 9 [.sl 0 0 (m+1) c,.sl 1 0 (l+1) d] [some ⟨false,vcs L⟩,some ⟨false,vcs B⟩] (.c (.bool false)) [some ⟨false,vcs L⟩,some ⟨false,vcs B⟩]:=by
 have h:=touch_k (c:=c) (d:=d) hL ok hB okB hm hl
 have e:tchB L B=false:=by
  rw [← Bool.not_eq_true]
  intro g
  obtain ⟨g1,g2⟩:=(tchB_iff hp hp').1 g
  exact hx.elim g1 g2
 rwa [e] at h
theorem nXn_s {L B:List VR} (ok:∀ v∈L,v.Ok):Sz (0 - nX L B) 7000000:=(sub_s sz0_s (nX_s ok)).mono (by decide)
theorem nYn_s {L B:List VR} (ok:∀ v∈L,v.Ok):Sz (0 - nY L B) 7000000:=(sub_s sz0_s (nY_s ok)).mono (by decide)
def lwI (L B:List VR) (D E:Rat) (F:Rat) (u:VR) (m c l d i k:Nat):St:=⟨slots 140 0 [(0,.sl 0 0 (m+1) c),(1,.sl 1 0 (l+1) d),(5,.c (.bool false)),(6,.c (.int .i64 0)),(7,.p 2 0),(8,.c (.int .i64 0)),(9,.p 3 0),(10,.c (.int .i64 0)),(13,.p 4 0),(97,.sl 0 0 (m+1) c),(98,.c (.int .i64 (((m+1:Nat):Int)))),(99,.c (.int .i64 (((i:Nat):Int)))),(103,.sl 1 0 (l+1) d),(104,.c (.int .i64 (((l+1:Nat):Int)))),(105,.c (.int .i64 (((k:Nat):Int))))],[some ⟨false,vcs L⟩,some ⟨false,vcs B⟩,some ⟨true,nv [rc D]⟩,some ⟨true,nv [rc E,rc F]⟩,some ⟨true,vw u⟩]⟩
def lwO (L B:List VR) (D E:Rat) (F:Rat) (m c l d i:Nat):St:=⟨slots 140 0 [(0,.sl 0 0 (m+1) c),(1,.sl 1 0 (l+1) d),(5,.c (.bool false)),(6,.c (.int .i64 0)),(7,.p 2 0),(8,.c (.int .i64 0)),(9,.p 3 0),(10,.c (.int .i64 0)),(97,.sl 0 0 (m+1) c),(98,.c (.int .i64 (((m+1:Nat):Int)))),(99,.c (.int .i64 (((i:Nat):Int))))],[some ⟨false,vcs L⟩,some ⟨false,vcs B⟩,some ⟨true,nv [rc D]⟩,some ⟨true,nv [rc E,rc F]⟩]⟩
theorem lw_a {L B:List VR} {u w:VR} {D E F:Rat} {m c l d i k:Nat} (sE:Sz E 7000000) (sF:Sz F 7000000) (hw:B[k]? = some w) (ou:u.Ok) (ow:w.Ok) (hk:k < l+1) (hl:l < 64) (h0:decide ((↑k:Int) < (↑(l+(1:Nat)):Int))=true) (h15:decide ((0:Int)≤cmpR (E*VR.x u+F*VR.y u) (E*VR.x w+F*VR.y w))=false):TSpec Tryd.prog (loopOf Tryd.f3 2) (lwI L B D E F u m c l d i k) (.normal) (lwI L B D E F u m c l d i (k+1)):=by
 have s1:=(isR_s sE)
 have s2:=(isR_s sF)
 have s3:=(vr1_s ou)
 have s4:=(vr2_s ou)
 have s5:=(vr1_s ow)
 have s6:=(vr2_s ow)
 have s7:=(mul_s sE (szr s3))
 have s8:=(mul_s sF (szr s4))
 have s9:=(add_s s7 s8)
 have s10:=(isR_s s9)
 have s11:=(mul_s sE (szr s5))
 have s12:=(mul_s sF (szr s6))
 have s13:=(add_s s11 s12)
 have s14:=(isR_s s13)
 exact tspec_dim (mask 140 0 [0,1,5,6,7,8,9,10,13,97,98,99,103,104,105]) 5 (sc:=[(17,0,.is (.c (.bool true))),(18,1,.fix (ag [[.bool (VR.n1 w)],[.string (VR.a1 w)],[.string (VR.b1 w)],[.bool (VR.n2 w)],[.string (VR.a2 w)],[.string (VR.b2 w)]])),(19,2,.fix (Rv (E*VR.x u+F*VR.y u))),(19,5,.fix (Rv (E*VR.x w+F*VR.y w))),(19,6,.fix (.int .i64 (cmpR (E*VR.x u+F*VR.y u) (E*VR.x w+F*VR.y w)))),(19,7,.is (.c (.bool false))),(21,0,.is (.c (.int .i64 ((↑(k+(1:Nat)):Int)))))]) (sb:=[]) (by kernel_rfl) (hP (isB h0) (hP (show (0:Int)≤(↑k:Int)∧(↑k:Int) < (↑(l+(1:Nat)):Int) by omega) (hP (vcs_ld hw) (hC (rdot_k s1 (by decide +kernel) s2 (by decide +kernel) s3 (by decide +kernel) s4 (by decide +kernel)) (hC (rdot_k s1 (by decide +kernel) s2 (by decide +kernel) s5 (by decide +kernel) s6 (by decide +kernel)) (hC (cmp_k s10 s14 (by decide +kernel)) (hP (isB h15) (hP (incn (i:=k) hk (by omega)) hN)))))))) (flk vcs_f (flk vcs_f (flk flnv (flk flnv (flk flnv trivial)))))
theorem lw_b {L B:List VR} {u w:VR} {D E F:Rat} {m c l d i k:Nat}  (h0:decide ((↑k:Int) < (↑(l+(1:Nat)):Int))=false):TSpec Tryd.prog (loopOf Tryd.f3 2) (lwI L B D E F u m c l d i k) (.exit 2) (lwI L B D E F u m c l d i k):=by
 exact tspec_dim (mask 140 0 [0,1,5,6,7,8,9,10,13,97,98,99,103,104,105]) 5 (sc:=[(17,0,.is (.c (.bool false)))]) (sb:=[]) (by kernel_rfl) (hP (isB h0) hN) (flk vcs_f (flk vcs_f (flk flnv (flk flnv (flk flnv trivial)))))
theorem lw_c {L B:List VR} {u:VR} {D E F:Rat} {m c l d i:Nat} (hu:L[i]? = some u) (ou:u.Ok) (hi:i < m+1) (hm:m < 64) (hb:TSpec Tryd.prog (.block 2 (.loop (loopOf Tryd.f3 2))) (lwI L B D E F u m c l d i 0) .normal (lwI L B D E F u m c l d i (l+1))) (h0:decide ((↑i:Int) < (↑(m+(1:Nat)):Int))=true):TSpec Tryd.prog (loopOf Tryd.f3 0) (lwO L B D E F m c l d i) (.normal) (lwO L B D E F m c l d (i+1)):=by
 exact tspec_dim (mask 140 0 [0,1,5,6,7,8,9,10,97,98,99]) 4 (sc:=[(14,0,.is (.c (.bool true))),(15,1,.fix (ag [[.bool (VR.n1 u)],[.string (VR.a1 u)],[.string (VR.b1 u)],[.bool (VR.n2 u)],[.string (VR.a2 u)],[.string (VR.b2 u)]])),(2,99999,.mask (mask 140 0 [0,1,5,6,7,8,9,10,13,97,98,99,103,104,105])),(22,0,.is (.c (.int .i64 ((↑(i+(1:Nat)):Int)))))]) (sb:=[(2,.normal,lwI L B D E F u m c l d i (l+1))]) (by kernel_rfl) (hP (isB h0) (hP (show (0:Int)≤(↑i:Int)∧(↑i:Int) < (↑(m+(1:Nat)):Int) by omega) (hP (vcs_ld hu) (hP (show Flat [some { own:=false,cells:=vcs L },some { own:=false,cells:=vcs B },some ⟨Bool.true,nv [rc (D)]⟩,some ⟨Bool.true,nv [rc (E),rc (F)]⟩,some ⟨Bool.true,nv [[.bool (VR.n1 u)],[.string (VR.a1 u)],[.string (VR.b1 u)],[.bool (VR.n2 u)],[.string (VR.a2 u)],[.string (VR.b2 u)]]⟩] from (flk vcs_f (flk vcs_f (flk rfl (flk rfl (flk rfl trivial)))))) (hP (hb) (hP (incn (i:=i) hi (by omega)) hN)))))) (flk vcs_f (flk vcs_f (flk flnv (flk flnv trivial))))
theorem lw_d {L B:List VR} {u:VR} {D E F:Rat} {m c l d i:Nat}  (h0:decide ((↑i:Int) < (↑(m+(1:Nat)):Int))=false):TSpec Tryd.prog (loopOf Tryd.f3 0) (lwO L B D E F m c l d i) (.exit 0) (lwO L B D E F m c l d i):=by
 exact tspec_dim (mask 140 0 [0,1,5,6,7,8,9,10,97,98,99]) 4 (sc:=[(14,0,.is (.c (.bool false)))]) (sb:=[]) (by kernel_rfl) (hP (isB h0) hN) (flk vcs_f (flk vcs_f (flk flnv (flk flnv trivial))))
theorem at1 {ao bo:Option Addr} {c n c2:Nat}   : CSpec Tryd.prog 3 #[(.slice ao 0 c),(.slice bo n c2)] (.bool true):=by
 exact fn_ok Tryd.func3 (sc:=[(1,0,.fix (.bool true)),(3,2,.fix (.tuple #[.bool false,.int .i64 (3:Int)])),(4,2,.fix (.tuple #[ag [[.bool false],[.string ({ data:=#[] })],[.string ({ data:=#[] })]],.int .i64 (3:Int)])),(5,2,.fix (.tuple #[ag [[.bool false],[.string ({ data:=#[] })],[.string ({ data:=#[] })],[.bool false],[.string ({ data:=#[] })],[.string ({ data:=#[] })]],.int .i64 (3:Int)])),(6,1,.fix (.int .i64 (3:Int)))]) (sb:=[]) (by kernel_rfl) (hC apartBegunG_k (hC (meet1_k (ao:=ao) (bo:=bo) (c:=c) (n:=n) (c2:=c2)) (hC (sq1_k (ao:=ao) (bo:=bo) (c:=c) (n:=n) (c2:=c2)) (hC (axis1_k (ao:=ao) (bo:=bo) (c:=c) (n:=n) (c2:=c2)) (hC (zring64_k (ao:=ao) (c:=c)) hN)))))
theorem at2 {L:List VR} {m c:Nat} {bo:Option Addr} {n c2:Nat} (hL:L.length=m+1) (ok:∀ v∈L,v.Ok) (hq:MustBad L)  (h0:decide (ringN L (64:Int)=(0:Int))=false) (h1:(!decide (ringN L (64:Int)=(0:Int)))=true) (h2:decide (ringN L (64:Int)=ringN L (64:Int))=true):FSpec Tryd.prog 3 [.sl 0 0 (m+1) c,.c (.slice bo n c2)] [some ⟨false,vcs L⟩] (.c (.bool true)) [some ⟨false,vcs L⟩]:=by
 exact fspec_ok Tryd.func3 (sc:=[(1,0,.fix (.bool true)),(3,2,.readf (.tuple #[.bool false,.int .i64 (ringN L (64:Int))])),(4,2,.readf (.tuple #[ag [[.bool false],[.string ({ data:=#[] })],[.string ({ data:=#[] })]],.int .i64 (ringN L (64:Int))])),(5,2,.readf (.tuple #[ag [[.bool false],[.string ({ data:=#[] })],[.string ({ data:=#[] })],[.bool false],[.string ({ data:=#[] })],[.string ({ data:=#[] })]],.int .i64 (ringN L (64:Int))])),(6,1,.readf (.int .i64 (ringN L (64:Int)))),(7,1,.is (.c (.bool false))),(9,1,.is (.c (.bool true))),(10,5,.is (.c (.bool true))),(10,15,.is (.c (.bool true))),(10,25,.is (.c (.bool true)))]) (sb:=[]) (keep:=[]) (by kernel_rfl) (hP (show Flat [some ⟨false,vcs L⟩] from flk vcs_f trivial) (hC apartBegunG_k (hP (show Flat [some { own:=false,cells:=vcs L }] from (flk vcs_f trivial)) (hF (meet2_k (c:=c) (bo:=bo) (n:=n) (c2:=c2) hL ok hq) (hP (show Flat [some { own:=false,cells:=vcs L }] from (flk vcs_f trivial)) (hF (sq2_k (c:=c) (bo:=bo) (n:=n) (c2:=c2) hL ok hq) (hP (show Flat [some { own:=false,cells:=vcs L }] from (flk vcs_f trivial)) (hF (axis2_k (c:=c) (bo:=bo) (n:=n) (c2:=c2) hL ok hq) (hP (show Flat [some { own:=false,cells:=vcs L }] from (flk vcs_f trivial)) (hF (ring_k (c:=c) (t:=(64:Int)) hL ok (by decide +kernel)) (hP (isB h0) (hP (isB h1) (hP (isB h2) (hP (isB h2) (hP (isB h2) hN)))))))))))))))
theorem at3 {L:List VR} {m c:Nat} {bo:Option Addr} {c2:Nat} (hL:L.length=m+1) (ok:∀ v∈L,v.Ok) (hq:MustPoly L)  (h0:decide (ringN L (64:Int)=(0:Int))=true):FSpec Tryd.prog 3 [.sl 0 0 (m+1) c,.c (.slice bo 0 c2)] [some ⟨false,vcs L⟩] (.c (.bool true)) [some ⟨false,vcs L⟩]:=by
 exact fspec_ok Tryd.func3 (sc:=[(1,0,.fix (.bool true)),(3,2,.readf (.tuple #[.bool false,.int .i64 (3:Int)])),(4,2,.readf (.tuple #[ag [[.bool false],[.string ({ data:=#[] })],[.string ({ data:=#[] })]],.int .i64 (3:Int)])),(5,2,.readf (.tuple #[ag [[.bool false],[.string ({ data:=#[] })],[.string ({ data:=#[] })],[.bool false],[.string ({ data:=#[] })],[.string ({ data:=#[] })]],.int .i64 (3:Int)])),(6,1,.readf (.int .i64 (ringN L (64:Int)))),(7,1,.is (.c (.bool true))),(8,1,.fix (.int .i64 (3:Int)))]) (sb:=[]) (keep:=[]) (by kernel_rfl) (hP (show Flat [some ⟨false,vcs L⟩] from flk vcs_f trivial) (hC apartBegunG_k (hP (show Flat [some { own:=false,cells:=vcs L }] from (flk vcs_f trivial)) (hF (meet3_k (c:=c) (bo:=bo) (c2:=c2) hL ok hq) (hP (show Flat [some { own:=false,cells:=vcs L }] from (flk vcs_f trivial)) (hF (sq3_k (c:=c) (bo:=bo) (c2:=c2) hL ok hq) (hP (show Flat [some { own:=false,cells:=vcs L }] from (flk vcs_f trivial)) (hF (axis3_k (c:=c) (bo:=bo) (c2:=c2) hL ok hq) (hP (show Flat [some { own:=false,cells:=vcs L }] from (flk vcs_f trivial)) (hF (ring_k (c:=c) (t:=(64:Int)) hL ok (by decide +kernel)) (hP (isB h0) (hC (zring64_k (ao:=bo) (c:=c2)) hN))))))))))))
theorem at4 {L B:List VR} {m c l d:Nat} (hL:L.length=m+1) (ok:∀ v∈L,v.Ok) (hB:B.length=l+1) (okB:∀ v∈B,v.Ok) (hq:MustPoly L) (hq':MustBad B)  (h0:decide (ringN L (64:Int)=(0:Int))=true) (h1:(!decide (ringN B (64:Int)=(0:Int)))=true) (h2:decide (ringN B (64:Int)=ringN B (64:Int))=true):FSpec Tryd.prog 3 [.sl 0 0 (m+1) c,.sl 1 0 (l+1) d] [some ⟨false,vcs L⟩,some ⟨false,vcs B⟩] (.c (.bool true)) [some ⟨false,vcs L⟩,some ⟨false,vcs B⟩]:=by
 exact fspec_ok Tryd.func3 (sc:=[(1,0,.fix (.bool true)),(3,2,.readf (.tuple #[.bool false,.int .i64 (ringN B (64:Int))])),(4,2,.readf (.tuple #[ag [[.bool false],[.string ({ data:=#[] })],[.string ({ data:=#[] })]],.int .i64 (ringN B (64:Int))])),(5,2,.readf (.tuple #[ag [[.bool false],[.string ({ data:=#[] })],[.string ({ data:=#[] })],[.bool false],[.string ({ data:=#[] })],[.string ({ data:=#[] })]],.int .i64 (ringN B (64:Int))])),(6,1,.readf (.int .i64 (ringN L (64:Int)))),(7,1,.is (.c (.bool true))),(8,1,.readf (.int .i64 (ringN B (64:Int)))),(9,1,.is (.c (.bool true))),(10,5,.is (.c (.bool true))),(10,15,.is (.c (.bool true))),(10,25,.is (.c (.bool true)))]) (sb:=[]) (keep:=[]) (by kernel_rfl) (hP (show Flat [some ⟨false,vcs L⟩,some ⟨false,vcs B⟩] from flk vcs_f (flk vcs_f trivial)) (hC apartBegunG_k (hP (show Flat [some { own:=false,cells:=vcs L },some { own:=false,cells:=vcs B }] from (flk vcs_f (flk vcs_f trivial))) (hF (meet4_k (c:=c) (d:=d) hL ok hB okB hq hq') (hP (show Flat [some { own:=false,cells:=vcs L },some { own:=false,cells:=vcs B }] from (flk vcs_f (flk vcs_f trivial))) (hF (sq4_k (c:=c) (d:=d) hL ok hB okB hq hq') (hP (show Flat [some { own:=false,cells:=vcs L },some { own:=false,cells:=vcs B }] from (flk vcs_f (flk vcs_f trivial))) (hF (axis4_k (c:=c) (d:=d) hL ok hB okB hq hq') (hP (show Flat [some { own:=false,cells:=vcs L }] from (flk vcs_f trivial)) (hF (ring_k (c:=c) (t:=(64:Int)) hL ok (by decide +kernel)) (hP (isB h0) (hP (show Flat [some { own:=false,cells:=vcs B }] from (flk vcs_f trivial)) (hF (ring_k (c:=d) (t:=(64:Int)) hB okB (by decide +kernel)) (hP (isB h1) (hP (isB h2) (hP (isB h2) (hP (isB h2) hN)))))))))))))))))
theorem at5 {L B:List VR} {m c l d:Nat} (hL:L.length=m+1) (ok:∀ v∈L,v.Ok) (hB:B.length=l+1) (okB:∀ v∈B,v.Ok) (hm:m < 64) (hl:l < 64) (hp:MustPoly L) (hp':MustPoly B) (y1':MustNo L B) (y2':MustNo B L)  (h0:decide (ringN L (64:Int)=(0:Int))=true) (h1:(!decide (ringN B (64:Int)=(0:Int)))=false):FSpec Tryd.prog 3 [.sl 0 0 (m+1) c,.sl 1 0 (l+1) d] [some ⟨false,vcs L⟩,some ⟨false,vcs B⟩] (.c (.bool true)) [some ⟨false,vcs L⟩,some ⟨false,vcs B⟩]:=by
 exact fspec_ok Tryd.func3 (sc:=[(1,0,.fix (.bool true)),(3,2,.readf (.tuple #[.bool true,.int .i64 (0:Int)])),(4,2,.readf (.tuple #[Rv (0:Rat),.int .i64 (0:Int)])),(5,2,.readf (.tuple #[ag [[.bool false],[.string ({ data:=#[] })],[.string ({ data:=#[] })],[.bool false],[.string ({ data:=#[] })],[.string ({ data:=#[] })]],.int .i64 (10:Int)])),(6,1,.readf (.int .i64 (ringN L (64:Int)))),(7,1,.is (.c (.bool true))),(8,1,.readf (.int .i64 (ringN B (64:Int)))),(9,1,.is (.c (.bool false))),(11,2,.readf (.bool true)),(12,7,.fix (Rv (0:Rat)))]) (sb:=[]) (keep:=[]) (by kernel_rfl) (hP (show Flat [some ⟨false,vcs L⟩,some ⟨false,vcs B⟩] from flk vcs_f (flk vcs_f trivial)) (hC apartBegunG_k (hP (show Flat [some { own:=false,cells:=vcs L },some { own:=false,cells:=vcs B }] from (flk vcs_f (flk vcs_f trivial))) (hF (meetT_k (c:=c) (d:=d) hL ok hB okB hm hl hp hp' y1' y2') (hP (show Flat [some { own:=false,cells:=vcs L },some { own:=false,cells:=vcs B }] from (flk vcs_f (flk vcs_f trivial))) (hF (sqT_k (c:=c) (d:=d) hL ok hB okB hm hl hp hp' y1' y2') (hP (show Flat [some { own:=false,cells:=vcs L },some { own:=false,cells:=vcs B }] from (flk vcs_f (flk vcs_f trivial))) (hF (axisT_k (c:=c) (d:=d) hL ok hB okB hm hl hp hp' y1' y2') (hP (show Flat [some { own:=false,cells:=vcs L }] from (flk vcs_f trivial)) (hF (ring_k (c:=c) (t:=(64:Int)) hL ok (by decide +kernel)) (hP (isB h0) (hP (show Flat [some { own:=false,cells:=vcs B }] from (flk vcs_f trivial)) (hF (ring_k (c:=d) (t:=(64:Int)) hB okB (by decide +kernel)) (hP (isB h1) (hP (show Flat [some { own:=false,cells:=vcs L },some { own:=false,cells:=vcs B }] from (flk vcs_f (flk vcs_f trivial))) (hF (touchT_k (c:=c) (d:=d) hL ok hB okB hm hl hp hp' y1' y2') (hC ri0_k hN)))))))))))))))))
theorem at6 {L B:List VR} {m c l d:Nat} (hL:L.length=m+1) (ok:∀ v∈L,v.Ok) (hB:B.length=l+1) (okB:∀ v∈B,v.Ok) (hm:m < 64) (hl:l < 64) (hp:MustPoly L) (hp':MustPoly B) (y1':MustYes L B) (hx':MustApart L B) (hb:TSpec Tryd.prog (.block 0 (.loop (loopOf Tryd.f3 0))) (lwO L B (sqV L B) (nX L B) (nY L B) m c l d 0) .normal (lwO L B (sqV L B) (nX L B) (nY L B) m c l d (m+1))) (h0:decide (ringN L (64:Int)=(0:Int))=true) (h1:(!decide (ringN B (64:Int)=(0:Int)))=false):FSpec Tryd.prog 3 [.sl 0 0 (m+1) c,.sl 1 0 (l+1) d] [some ⟨false,vcs L⟩,some ⟨false,vcs B⟩] (.c (.bool true)) [some ⟨false,vcs L⟩,some ⟨false,vcs B⟩]:=by
 exact fspec_ok Tryd.func3 (sc:=[(1,0,.fix (.bool true)),(3,2,.readf (.tuple #[.bool false,.int .i64 (0:Int)])),(4,2,.readf (.tuple #[Rv (sqV L B),.int .i64 (0:Int)])),(5,2,.readf (.tuple #[ag [rc (nX L B),rc (nY L B)],.int .i64 (0:Int)])),(6,1,.readf (.int .i64 (ringN L (64:Int)))),(7,1,.is (.c (.bool true))),(8,1,.readf (.int .i64 (ringN B (64:Int)))),(9,1,.is (.c (.bool false))),(11,2,.readf (.bool false)),(0,99999,.mask (mask 140 0 [0,1,5,6,7,8,9,10,97,98,99])),(23,14,.readf (Rv (sqV L B))),(23,15,.eqs)]) (sb:=[(0,.normal,lwO L B (sqV L B) (nX L B) (nY L B) m c l d (m+1))]) (keep:=[]) (by kernel_rfl) (hP (show Flat [some ⟨false,vcs L⟩,some ⟨false,vcs B⟩] from flk vcs_f (flk vcs_f trivial)) (hC apartBegunG_k (hP (show Flat [some { own:=false,cells:=vcs L },some { own:=false,cells:=vcs B }] from (flk vcs_f (flk vcs_f trivial))) (hF (meetF_k (c:=c) (d:=d) hL ok hB okB hm hl hp hp' hx') (hP (show Flat [some { own:=false,cells:=vcs L },some { own:=false,cells:=vcs B }] from (flk vcs_f (flk vcs_f trivial))) (hF (sqF_k (c:=c) (d:=d) hL ok hB okB hm hl hp hp' hx') (hP (show Flat [some { own:=false,cells:=vcs L },some { own:=false,cells:=vcs B }] from (flk vcs_f (flk vcs_f trivial))) (hF (axisA_k (c:=c) (d:=d) hL ok hB okB hm hl hp hp' y1') (hP (show Flat [some { own:=false,cells:=vcs L }] from (flk vcs_f trivial)) (hF (ring_k (c:=c) (t:=(64:Int)) hL ok (by decide +kernel)) (hP (isB h0) (hP (show Flat [some { own:=false,cells:=vcs B }] from (flk vcs_f trivial)) (hF (ring_k (c:=d) (t:=(64:Int)) hB okB (by decide +kernel)) (hP (isB h1) (hP (show Flat [some { own:=false,cells:=vcs L },some { own:=false,cells:=vcs B }] from (flk vcs_f (flk vcs_f trivial))) (hF (touchF_k (c:=c) (d:=d) hL ok hB okB hm hl hp hp' hx') (hP (show Flat [some { own:=false,cells:=vcs L },some { own:=false,cells:=vcs B },some ⟨Bool.true,nv [rc (sqV L B)]⟩,some ⟨Bool.true,nv [rc (nX L B),rc (nY L B)]⟩] from (flk vcs_f (flk vcs_f (flk rfl (flk rfl trivial))))) (hP (hb) (hP (show Flat [some { own:=false,cells:=vcs L },some { own:=false,cells:=vcs B }] from (flk vcs_f (flk vcs_f trivial))) (hF (gap_k (c:=c) (d:=d) hL ok hB okB hm hl hp hp') (hP (Eq.refl (Rv (sqV L B))) hN)))))))))))))))))))))
theorem at7 {L B:List VR} {m c l d:Nat} (hL:L.length=m+1) (ok:∀ v∈L,v.Ok) (hB:B.length=l+1) (okB:∀ v∈B,v.Ok) (hm:m < 64) (hl:l < 64) (hp:MustPoly L) (hp':MustPoly B) (y1':MustNo L B) (y2':MustYes B L) (hx':MustApart L B) (hb:TSpec Tryd.prog (.block 0 (.loop (loopOf Tryd.f3 0))) (lwO L B (sqV L B) (0 - nX B L) (0 - nY B L) m c l d 0) .normal (lwO L B (sqV L B) (0 - nX B L) (0 - nY B L) m c l d (m+1))) (h0:decide (ringN L (64:Int)=(0:Int))=true) (h1:(!decide (ringN B (64:Int)=(0:Int)))=false):FSpec Tryd.prog 3 [.sl 0 0 (m+1) c,.sl 1 0 (l+1) d] [some ⟨false,vcs L⟩,some ⟨false,vcs B⟩] (.c (.bool true)) [some ⟨false,vcs L⟩,some ⟨false,vcs B⟩]:=by
 exact fspec_ok Tryd.func3 (sc:=[(1,0,.fix (.bool true)),(3,2,.readf (.tuple #[.bool false,.int .i64 (0:Int)])),(4,2,.readf (.tuple #[Rv (sqV L B),.int .i64 (0:Int)])),(5,2,.readf (.tuple #[ag [rc ((0:Rat) - nX B L),rc ((0:Rat) - nY B L)],.int .i64 (0:Int)])),(6,1,.readf (.int .i64 (ringN L (64:Int)))),(7,1,.is (.c (.bool true))),(8,1,.readf (.int .i64 (ringN B (64:Int)))),(9,1,.is (.c (.bool false))),(11,2,.readf (.bool false)),(0,99999,.mask (mask 140 0 [0,1,5,6,7,8,9,10,97,98,99])),(23,14,.readf (Rv (sqV L B))),(23,15,.eqs)]) (sb:=[(0,.normal,lwO L B (sqV L B) (0 - nX B L) (0 - nY B L) m c l d (m+1))]) (keep:=[]) (by kernel_rfl) (hP (show Flat [some ⟨false,vcs L⟩,some ⟨false,vcs B⟩] from flk vcs_f (flk vcs_f trivial)) (hC apartBegunG_k (hP (show Flat [some { own:=false,cells:=vcs L },some { own:=false,cells:=vcs B }] from (flk vcs_f (flk vcs_f trivial))) (hF (meetF_k (c:=c) (d:=d) hL ok hB okB hm hl hp hp' hx') (hP (show Flat [some { own:=false,cells:=vcs L },some { own:=false,cells:=vcs B }] from (flk vcs_f (flk vcs_f trivial))) (hF (sqF_k (c:=c) (d:=d) hL ok hB okB hm hl hp hp' hx') (hP (show Flat [some { own:=false,cells:=vcs L },some { own:=false,cells:=vcs B }] from (flk vcs_f (flk vcs_f trivial))) (hF (axisB_k (c:=c) (d:=d) hL ok hB okB hm hl hp hp' y1' y2') (hP (show Flat [some { own:=false,cells:=vcs L }] from (flk vcs_f trivial)) (hF (ring_k (c:=c) (t:=(64:Int)) hL ok (by decide +kernel)) (hP (isB h0) (hP (show Flat [some { own:=false,cells:=vcs B }] from (flk vcs_f trivial)) (hF (ring_k (c:=d) (t:=(64:Int)) hB okB (by decide +kernel)) (hP (isB h1) (hP (show Flat [some { own:=false,cells:=vcs L },some { own:=false,cells:=vcs B }] from (flk vcs_f (flk vcs_f trivial))) (hF (touchF_k (c:=c) (d:=d) hL ok hB okB hm hl hp hp' hx') (hP (show Flat [some { own:=false,cells:=vcs L },some { own:=false,cells:=vcs B },some ⟨Bool.true,nv [rc (sqV L B)]⟩,some ⟨Bool.true,nv [rc ((0:Rat) - nX B L),rc ((0:Rat) - nY B L)]⟩] from (flk vcs_f (flk vcs_f (flk rfl (flk rfl trivial))))) (hP (hb) (hP (show Flat [some { own:=false,cells:=vcs L },some { own:=false,cells:=vcs B }] from (flk vcs_f (flk vcs_f trivial))) (hF (gap_k (c:=c) (d:=d) hL ok hB okB hm hl hp hp') (hP (Eq.refl (Rv (sqV L B))) hN)))))))))))))))))))))
section
variable {L B:List VR} {m c l d:Nat} (hL:L.length=m+1) (ok:∀ v∈L,v.Ok) (hB:B.length=l+1) (okB:∀ v∈B,v.Ok) (hm:m < 64) (hl:l < 64)
include hL ok hB okB hm hl
omit hL hm in
theorem lw_in {D E F:Rat} {u:VR} {i:Nat} (sE:Sz E 7000000) (sF:Sz F 7000000) (hu:L[i]? = some u) (hi:i < m+1) (hE:∀ k,k < l+1→E*pX L i+F*pY L i < E*pX B k+F*pY B k):Rounds Tryd.prog (loopOf Tryd.f3 2) 2 (lwI L B D E F u m c l d i 0) .normal (lwI L B D E F u m c l d i (l+1)):=by
 refine rounds_go (S:=fun k=>lwI L B D E F u m c l d i k) (fun k hk=>?_) (lw_b (w:=z0) (decide_eq_false (by omega))) (l+1) 0 (by omega)
 obtain ⟨w,hw⟩:∃ w,B[k]? = some w:=⟨_,List.getElem?_eq_getElem (by omega)⟩
 have h:=hE k hk
 rw [pX_at hu,pY_at hu,pX_at hw,pY_at hw] at h
 exact lw_a sE sF hw (ok _ (List.mem_of_getElem? hu)) (okB _ (List.mem_of_getElem? hw)) hk hl (decide_eq_true (by omega)) (decide_eq_false fun g=>Rat.not_le.2 h (cmpR_ge.1 g))
theorem lw_all {D E F:Rat} (sE:Sz E 7000000) (sF:Sz F 7000000) (hE:∀ i,i < m+1 → ∀ k,k < l+1→E*pX L i+F*pY L i < E*pX B k+F*pY B k):Rounds Tryd.prog (loopOf Tryd.f3 0) 0 (lwO L B D E F m c l d 0) .normal (lwO L B D E F m c l d (m+1)):=by
 refine rounds_go (S:=fun i=>lwO L B D E F m c l d i) (fun i hi=>?_) (lw_d (u:=z0) (decide_eq_false (by omega))) (m+1) 0 (by omega)
 obtain ⟨u,hu⟩:∃ u,L[i]? = some u:=⟨_,List.getElem?_eq_getElem (by omega)⟩
 exact lw_c hu (ok _ (List.mem_of_getElem? hu)) hi hm (lw_in (c:=c) (d:=d) ok hB okB hl sE sF hu hi (hE i hi)).spec (decide_eq_true (by omega))
end
theorem eq_t {L:List VR} (hp:MustPoly L):decide (ringN L 64=0)=true:=decide_eq_true hp
theorem eq_f {L:List VR} (hp:MustBad L):decide (ringN L 64=0)=false:=decide_eq_false hp
theorem axis_at {L B:List VR} (hp:MustPoly L) (hq:MustYes L B) {i k:Nat} (hi:i < L.length) (hk:k < B.length):nX L B*pX L i+nY L B*pY L i < nX L B*pX B k+nY L B*pY B k:=by
 obtain ⟨_,h3,hr⟩:=ring_ok hp
 obtain ⟨a1,a2,_⟩:=fstI_spec L.length hq
 exact axis_of h3 hr a1 a2 hi hk
theorem apart_w2 {L:List VR} {m c:Nat} {bo:Option Addr} {n c2:Nat} (hL:L.length=m+1) (ok:∀ v∈L,v.Ok)  (hq:MustBad L):FSpec Tryd.prog 3 [.sl 0 0 (m+1) c,.c (.slice bo n c2)] [some ⟨false,vcs L⟩] (.c (.bool true)) [some ⟨false,vcs L⟩]:=at2 hL ok hq (eq_f hq) (neq_t hq) (decide_eq_true rfl)
theorem apart_w3 {L:List VR} {m c:Nat} {bo:Option Addr} {c2:Nat} (hL:L.length=m+1) (ok:∀ v∈L,v.Ok)  (hq:MustPoly L):FSpec Tryd.prog 3 [.sl 0 0 (m+1) c,.c (.slice bo 0 c2)] [some ⟨false,vcs L⟩] (.c (.bool true)) [some ⟨false,vcs L⟩]:=at3 hL ok hq (eq_t hq)
theorem apart_w4 {L B:List VR} {m c l d:Nat} (hL:L.length=m+1) (ok:∀ v∈L,v.Ok) (hB:B.length=l+1) (okB:∀ v∈B,v.Ok)  (hp:MustPoly L):FSpec Tryd.prog 3 [.sl 0 0 (m+1) c,.sl 1 0 (l+1) d] [some ⟨false,vcs L⟩,some ⟨false,vcs B⟩] (.c (.bool true)) [some ⟨false,vcs L⟩,some ⟨false,vcs B⟩]:=by
 by_cases hp':MustPoly B
 ·have hm:m < 64:=by have:=(ring_ok hp).1; omega
  have hl:l < 64:=by have:=(ring_ok hp').1; omega
  by_cases h1:MustYes L B
  ·have hr:=(lw_all (c:=c) (d:=d) (D:=sqV L B) hL ok hB okB hm hl ((nX_s ok).mono (by decide)) ((nY_s ok).mono (by decide)) fun i hi k hk=>axis_at hp h1 (by omega) (by omega)).spec
   exact at6 hL ok hB okB hm hl hp hp' h1 (.inl h1) hr (eq_t hp) (neq_f hp')
  by_cases h2:MustYes B L
  ·have hr := (lw_all (c := c) (d := d) (D := sqV L B) hL ok hB okB hm hl (nXn_s (L := B) (B := L) okB) (nYn_s (L := B) (B := L) okB) fun i hi k hk => by
    have:=axis_at hp' h2 (i:=k) (k:=i) (by omega) (by omega)
    grind).spec
   exact at7 hL ok hB okB hm hl hp hp' h1 h2 (.inr h2) hr (eq_t hp) (neq_f hp')
  exact at5 hL ok hB okB hm hl hp hp' h1 h2 (eq_t hp) (neq_f hp')
 exact at4 hL ok hB okB hp hp' (eq_t hp) (neq_t hp') (decide_eq_true rfl)
end Go.Proofs.YtjefpjajkbldpaaDoor.G
end
section
namespace Go.Proofs.YtjefpjajkbldpaaDoor.G
open Go.Proofs.YtjefpjajkbldpaaDoor.U Go.RowKit
theorem vr_of2:∀ (C:List (List Value)),(∀ c∈C,O.Fits [.b,.s,.s,.b,.s,.s] c∧O.vsum c≤1048576) → ∃ L:List VR,C=L.map VR.c ∧ ∀ v∈L,v.Ok
 | [],_=>⟨[],rfl,fun v hv=>by cases hv⟩
 | c::C,h=>by
   obtain ⟨L,rfl,ok⟩:=vr_of2 C fun x hx=>h x (List.mem_cons_of_mem _ hx)
   obtain ⟨hf,hs⟩:=h c List.mem_cons_self
   obtain ⟨n1,c1,rfl,f1⟩:=O.fits_b hf
   obtain ⟨a1,c2,rfl,f2⟩:=O.fits_s f1
   obtain ⟨b1,c3,rfl,f3⟩:=O.fits_s f2
   obtain ⟨n2,c4,rfl,f4⟩:=O.fits_b f3
   obtain ⟨a2,c5,rfl,f5⟩:=O.fits_s f4
   obtain ⟨b2,c6,rfl,f6⟩:=O.fits_s f5
   obtain rfl:=O.fits_nil f6
   simp only [O.vsum,O.vlen] at hs
   refine ⟨⟨n1,a1,b1,n2,a2,b2⟩::L,rfl,fun v hv=>?_⟩
   rcases List.mem_cons.1 hv with rfl | hv
   ·exact ⟨by simp only; omega,by simp only; omega,by simp only; omega,by simp only; omega⟩
   exact ok v hv
theorem calls_rl {P:Program} {f:FuncId} {x r:Value} {l:List Value} {n c b o:Nat} {W:World} (h:FSpec P f [.sl 0 0 n c,.c x] [some ⟨false,l.map V.c⟩] (.c r) [some ⟨false,l.map V.c⟩]) (hl:Laid W) (hb:b < W.heap.size)
 (hc:∀ k v,l[k]? = some v→W.cell? ⟨b,o+k,none⟩=some v):Calls P f #[.slice (some ⟨b,o,none⟩) n c,x] W fun e w'=>e = .returned r∧Below W.heap.size W w':=by
 have rows:∀ i ri,row? [some (⟨false,l.map V.c⟩:U.Row)] i=some ri→i=0∧ri=⟨false,l.map V.c⟩:=by
  intro i ri hi
  cases i with
  | zero=>cases hi; exact ⟨rfl,rfl⟩
  | succ i=>simp [row?] at hi
 have hm:Mem (fun _=>⟨b,o,0⟩) [some (⟨false,l.map V.c⟩:U.Row)] W:=by
  refine ⟨fun i r hi=>?_,fun i j ri rj hi hj ho=>?_,fun i r hi v hv=>?_⟩
  ·obtain ⟨_,rfl⟩:=rows i r hi
   refine ⟨hb,fun k v hk=>?_,fun ho=>by cases ho⟩
   rw [List.getElem?_map,Option.map_eq_some_iff] at hk
   obtain ⟨u,hu,rfl⟩:=hk
   exact hc k u hu
  ·obtain ⟨_,rfl⟩:=rows i ri hi
   cases ho
  obtain ⟨_,rfl⟩:=rows i r hi
  obtain ⟨u,_,rfl⟩:=List.mem_map.1 hv
  exact ⟨fun id hid=>(by cases hid),rfl⟩
 refine (h W (fun _=>⟨b,o,0⟩) hl (fun i ri hi ho=>by obtain ⟨_,rfl⟩:=rows i ri hi; cases ho) hm).mono fun e w' hw=>?_
 obtain ⟨β',_,_,rfl,_,hfr,_⟩:=hw
 refine ⟨rfl,hfr.os,hfr.tape,hfr.output,hfr.size,fun k hk=>hfr.block k hk ?_⟩
 rintro ⟨i,ri,hi,ho,_⟩
 obtain ⟨_,rfl⟩:=rows i ri hi
 cases ho
def twoB (b1 o1 b2 o2:Nat):Env:=fun i=>match i with
 | 0=>⟨b1,o1,0⟩
 | _+1=>⟨b2,o2,0⟩
theorem calls_r2 {P:Program} {f:FuncId} {r:Value} {l1 l2:List Value} {n1 c1 b1 o1 n2 c2 b2 o2:Nat} {W:World} (h:FSpec P f [.sl 0 0 n1 c1,.sl 1 0 n2 c2] [some ⟨false,l1.map V.c⟩,some ⟨false,l2.map V.c⟩] (.c r) [some ⟨false,l1.map V.c⟩,some ⟨false,l2.map V.c⟩]) (hl:Laid W) (hb1:b1 < W.heap.size) (hb2:b2 < W.heap.size)
 (hc1:∀ k v,l1[k]? = some v→W.cell? ⟨b1,o1+k,none⟩=some v) (hc2:∀ k v,l2[k]? = some v→W.cell? ⟨b2,o2+k,none⟩=some v):Calls P f #[.slice (some ⟨b1,o1,none⟩) n1 c1,.slice (some ⟨b2,o2,none⟩) n2 c2] W fun e w'=>e = .returned r∧Below W.heap.size W w':=by
 have rows:∀ i ri,row? [some (⟨false,l1.map V.c⟩:U.Row),some ⟨false,l2.map V.c⟩] i=some ri→(i=0∧ri=⟨false,l1.map V.c⟩)∨(i=1∧ri=⟨false,l2.map V.c⟩):=by
  intro i ri hi
  match i,hi with
  | 0,hi=>cases hi; exact .inl ⟨rfl,rfl⟩
  | 1,hi=>cases hi; exact .inr ⟨rfl,rfl⟩
  | i+2,hi=>simp [row?] at hi
 have own:∀ i ri,row? [some (⟨false,l1.map V.c⟩:U.Row),some ⟨false,l2.map V.c⟩] i=some ri→ri.own=false:=by
  intro i ri hi
  rcases rows i ri hi with ⟨_,rfl⟩ | ⟨_,rfl⟩<;>rfl
 have hm:Mem (twoB b1 o1 b2 o2) [some (⟨false,l1.map V.c⟩:U.Row),some ⟨false,l2.map V.c⟩] W:=by
  refine ⟨fun i r hi=>?_,fun i j ri rj hi hj ho=>?_,fun i r hi v hv=>?_⟩
  ·rcases rows i r hi with ⟨rfl,rfl⟩ | ⟨rfl,rfl⟩
   ·refine ⟨hb1,fun k v hk=>?_,fun ho=>by cases ho⟩
    rw [List.getElem?_map,Option.map_eq_some_iff] at hk
    obtain ⟨u,hu,rfl⟩:=hk
    exact hc1 k u hu
   refine ⟨hb2,fun k v hk=>?_,fun ho=>by cases ho⟩
   rw [List.getElem?_map,Option.map_eq_some_iff] at hk
   obtain ⟨u,hu,rfl⟩:=hk
   exact hc2 k u hu
  ·rw [own i ri hi] at ho
   cases ho
  rcases rows i r hi with ⟨_,rfl⟩ | ⟨_,rfl⟩
  ·obtain ⟨u,_,rfl⟩:=List.mem_map.1 hv
   exact ⟨fun id hid=>(by cases hid),rfl⟩
  obtain ⟨u,_,rfl⟩:=List.mem_map.1 hv
  exact ⟨fun id hid=>(by cases hid),rfl⟩
 refine (h W (twoB b1 o1 b2 o2) hl (fun i ri hi ho=>by rw [own i ri hi] at ho; cases ho) hm).mono fun e w' hw=>?_
 obtain ⟨β',_,_,rfl,_,hfr,_⟩:=hw
 refine ⟨rfl,hfr.os,hfr.tape,hfr.output,hfr.size,fun k hk=>hfr.block k hk ?_⟩
 rintro ⟨i,ri,hi,ho,_⟩
 rw [own i ri hi] at ho
 cases ho
theorem apartTells_law (ao:Option Addr) (len cap:Nat) (bo:Option Addr) (len' cap':Nat) (W:World) (hl:Laid W)
 (alt:len=0 ∨ ∃ (b o:Nat) (C:List (List Value)),ao=some ⟨b,o,none⟩∧b < W.heap.size∧C.length=len∧len≤1048576∧(∀ c∈C,O.Fits [.b,.s,.s,.b,.s,.s] c∧O.vsum c≤1048576) ∧ ∀ k u,C.flatten[k]? = some u→W.cell? ⟨b,o+k,none⟩=some u)
 (alt':len' = 0 ∨ ∃ (b o:Nat) (C:List (List Value)),bo=some ⟨b,o,none⟩∧b < W.heap.size∧C.length=len' ∧ len' ≤ 1048576∧(∀ c∈C,O.Fits [.b,.s,.s,.b,.s,.s] c∧O.vsum c≤1048576) ∧ ∀ k u,C.flatten[k]? = some u→W.cell? ⟨b,o+k,none⟩=some u) :
 Calls Tryd.prog 3 #[.slice ao len cap,.slice bo len' cap'] W fun e w'=>e = .returned (.bool true)∧Below W.heap.size W w':=by
 rcases alt with rfl | ⟨b,o,C,rfl,hb,rfl,hlen,hC,hc⟩
 ·exact at1 W hl
 obtain ⟨L,rfl,ok⟩:=vr_of2 C hC
 rw [List.length_map] at hlen ⊢
 cases L with
 | nil=>exact at1 W hl
 | cons v L =>
   by_cases hq:MustPoly (v::L)
   ·have hno : Calls Tryd.prog 3 #[.slice (some ⟨b, o, none⟩) (L.length + 1) cap, .slice bo 0 cap'] W fun e w' => e = .returned (.bool true) ∧ Below W.heap.size W w' :=
     calls_rl (l:=((v::L).map VR.c).flatten) (apart_w3 (L:=v::L) (m:=L.length) (c:=cap) (bo:=bo) (c2:=cap') rfl ok hq) hl hb hc
    rcases alt' with rfl | ⟨b',o',C',rfl,hb',rfl,hlen',hC',hc'⟩
    ·exact hno
    obtain ⟨B,rfl,okB⟩:=vr_of2 C' hC'
    rw [List.length_map] at hlen' ⊢
    cases B with
    | nil=>exact hno
    | cons w B=>exact calls_r2 (l1:=((v::L).map VR.c).flatten) (l2:=((w::B).map VR.c).flatten) (apart_w4 (L:=v::L) (B:=w::B) (m:=L.length) (l:=B.length) (c:=cap) (d:=cap') rfl ok rfl okB hq) hl hb hb' hc hc'
   exact calls_rl (l:=((v::L).map VR.c).flatten) (apart_w2 (L:=v::L) (m:=L.length) (c:=cap) (bo:=bo) (n:=len') (c2:=cap') rfl ok hq) hl hb hc
end Go.Proofs.YtjefpjajkbldpaaDoor.G
end
