import Derived.Test.YtjefpjajkbldpaaDoorYGI
import Derived.Test.YtjefpjajkbldpaaDoorYNS
set_option maxRecDepth 100000
set_option linter.unusedVariables false
section
namespace Go.Proofs.YtjefpjajkbldpaaDoor.G
open Go.Proofs.YtjefpjajkbldpaaDoor.U Go.RowKit Go.Proofs.YtjefpjajkbldpaaDoorW.PrintWords Go.Proofs.YtjefpjajkbldpaaDoorW.PrintLast Go.Proofs.YtjefpjajkbldpaaDoorW.PrintMore
theorem odd_gcd {d t u v:Nat} (h:d=2^t*u) (hv:v%2=1):Nat.gcd d v=Nat.gcd u v:=by
 rw [h]
 refine Nat.Coprime.gcd_mul_left_cancel _ (Nat.Coprime.pow_left _ ?_)
 show Nat.gcd 2 v=1
 rw [Nat.gcd_rec,hv]
 decide
theorem tz_odd {v t:Nat} (h:Tz v t):v/2^t%2=1∧v=2^t*(v/2^t):=by
 obtain ⟨m,rfl⟩:=h
 rw [Nat.mul_div_cancel_left _ (Nat.pow_pos (by decide))]
 omega
theorem gcd_twos {a b t s u w:Nat} (ha:a=2^t*u) (hb:b=2^s*w) (hu:u%2=1) (hw:w%2=1):Nat.gcd a b=2^min t s*Nat.gcd u w:=by
 rcases Nat.le_total t s with h | h
 ·obtain ⟨d,rfl⟩:∃ d,s=t+d:=⟨s - t,by omega⟩
  rw [ha,hb,Nat.pow_add,Nat.mul_assoc,Nat.gcd_mul_left,Nat.min_eq_left h,Nat.gcd_comm u,odd_gcd rfl hu,Nat.gcd_comm]
 obtain ⟨d,rfl⟩:∃ d,t=s+d:=⟨t - s,by omega⟩
 rw [ha,hb,Nat.pow_add,Nat.mul_assoc,Nat.gcd_mul_left,Nat.min_eq_right h,odd_gcd rfl hw]
theorem nm_pos {L:List Nat} {off n c v:Nat} (h:Nm L off n c v) (hv:v≠0):0 < n:=by
 rcases Nat.eq_zero_or_pos n with h0 | h0
 ·have:=nm_lt h
  rw [h0] at this
  omega
 exact h0
theorem nm_zero {L:List Nat} {off n c:Nat} (h:Nm L off n c 0):n=0:=by
 rcases h.2.2.2.2 with h0 | h0
 ·exact h0
 have:0 < 18446744073709551616^(n - 1):=Nat.pow_pos (by decide)
 omega
def hS (sh:Bool) (o1 n1 c1 o2 n2 c2 tn tm:Nat) (X Y:List V):St:=if sh then hSt o1 n1 c1 o2 n2 c2 tn tm X Y else hSf o1 n1 c1 o2 n2 c2 tn tm X Y
def StepR (sh:Bool) (LX LY:List Nat) (o1 n1 c1 vx o2 n2 c2 vy tn tm:Nat):Prop :=
    (n1=1∧n2=1∧TSpec Tryd.prog (loopOf Tryd.f68 0) (hS sh o1 n1 c1 o2 n2 c2 tn tm (LX.map uu) (LY.map uu)) (.exit 0) (hS sh o1 n1 c1 o2 n2 c2 tn tm (LX.map uu) (LY.map uu))) ∨
    (vx=vy ∧ ∃ LZ:List Nat,TSpec Tryd.prog (loopOf Tryd.f68 0) (hS sh o1 n1 c1 o2 n2 c2 tn tm (LX.map uu) (LY.map uu)) (.exit 0) (hS sh o1 0 c1 o2 n2 c2 tn tm (LZ.map uu) (LY.map uu))) ∨
    (∃ sh' LX' o1' n1' c1' vx' LY' o2' n2' c2' vy',Nm LX' o1' n1' c1' vx' ∧ Nm LY' o2' n2' c2' vy' ∧ n1' ≤ max n1 n2∧n2' ≤ max n1 n2∧vx' % 2=1∧vy' % 2=1∧Nat.gcd vx' vy' = Nat.gcd vx vy∧vx' + vy' < vx+vy ∧
     TSpec Tryd.prog (loopOf Tryd.f68 0) (hS sh o1 n1 c1 o2 n2 c2 tn tm (LX.map uu) (LY.map uu)) .normal (hS sh' o1' n1' c1' o2' n2' c2' tn tm (LX'.map uu) (LY'.map uu)))
theorem ha_stepf {LX LY:List Nat} {o1 n1 c1 vx o2 n2 c2 vy:Nat} (tn tm:Nat) (hX:Nm LX o1 n1 c1 vx) (hY:Nm LY o2 n2 c2 vy) (hn1:n1 < 1125899906842624) (hn2:n2 < 1125899906842624) (ox:vx%2=1) (oy:vy%2=1):StepR false LX LY o1 n1 c1 vx o2 n2 c2 vy tn tm:=by
 have p1:=nm_pos hX (by omega)
 have p2:=nm_pos hY (by omega)
 by_cases hone:n1=1∧n2=1
 ·exact .inl ⟨hone.1,hone.2,ha_ef o1 n1 c1 o2 n2 c2 tn tm _ _ hone.1 hone.2 (uu_flat _) (uu_flat _)⟩
 by_cases hlt:vx < vy
 ·have hb:=below_spec hX hY hn1
  rw [decide_eq_true hlt] at hb
  obtain ⟨L',k,k1,k2,k3,k4⟩:=minus_spec hY hX hn2 (Nat.le_of_lt hlt)
  have kp:=nm_pos k3 (by omega)
  have kv:=k3.2.2.2.1
  obtain ⟨t,t1,t2,t3⟩:=evens_spec o2 k c2 true L' k3.1 (by omega) k3.2.1 (by omega)
  rw [kv] at t2
  obtain ⟨W,o',n',c',w1,w2,w3,w4⟩:=right_spec k3 (by omega) t1
  obtain ⟨q1,q2⟩:=tz_odd t2
  have hg:Nat.gcd ((vy - vx)/2^t) vx=Nat.gcd vx vy:=by
   rw [← odd_gcd q2 ox,Nat.gcd_sub_self_left (Nat.le_of_lt hlt),Nat.gcd_comm]
  have hle:(vy - vx)/2^t≤vy - vx:=Nat.div_le_self _ _
  refine .inr (.inr ⟨true,W,o',n',c',_,LX,o1,n1,c1,vx,w3,hX,by omega,by omega,q1,ox,hg,by omega,?_⟩)
  by_cases h1:1 < n1
  ·exact ha_sAf o1 n1 c1 o2 n2 c2 tn tm _ _ (L'.map uu) _ k t o' n' c' h1 kp (uu_flat _) (uu_flat _) (uu_flat _) (uu_flat _) (FSpec.embed [0,1] hb (by kernel_rfl) (by kernel_rfl) ⟨uu_flat _,uu_flat _,trivial⟩ ⟨uu_flat _,uu_flat _,trivial⟩) (FSpec.embed [1,0] k4 (by kernel_rfl) (by kernel_rfl) ⟨uu_flat _,uu_flat _,trivial⟩ ⟨uu_flat _,uu_flat _,trivial⟩) (FSpec.embed [1] t3 (by kernel_rfl) (by kernel_rfl) (uflat _ _) (uflat _ _)) (FSpec.embed [1] w4 (by kernel_rfl) (by kernel_rfl) (uflat _ _) (uflat _ _))
  exact ha_sBf o1 n1 c1 o2 n2 c2 tn tm _ _ (L'.map uu) _ k t o' n' c' (by omega) (by omega) kp (uu_flat _) (uu_flat _) (uu_flat _) (uu_flat _) (FSpec.embed [0,1] hb (by kernel_rfl) (by kernel_rfl) ⟨uu_flat _,uu_flat _,trivial⟩ ⟨uu_flat _,uu_flat _,trivial⟩) (FSpec.embed [1,0] k4 (by kernel_rfl) (by kernel_rfl) ⟨uu_flat _,uu_flat _,trivial⟩ ⟨uu_flat _,uu_flat _,trivial⟩) (FSpec.embed [1] t3 (by kernel_rfl) (by kernel_rfl) (uflat _ _) (uflat _ _)) (FSpec.embed [1] w4 (by kernel_rfl) (by kernel_rfl) (uflat _ _) (uflat _ _))
 have hb:=below_spec hX hY hn1
 rw [decide_eq_false hlt] at hb
 have hnn:n2≤n1:=by
  rcases Nat.lt_or_ge n1 n2 with h | h
  ·have:=nm_len_lt hX hY h
   omega
  exact h
 have h1:1 < n1:=by omega
 obtain ⟨L',k,k1,k2,k3,k4⟩:=minus_spec hX hY hn1 (by omega)
 by_cases heq:vx=vy
 ·have kz:k=0:=nm_zero (by rw [heq,Nat.sub_self] at k3; exact k3)
  subst kz
  exact .inr (.inl ⟨heq,L',ha_zf o1 n1 c1 o2 n2 c2 tn tm _ _ (L'.map uu) h1 (uu_flat _) (uu_flat _) (uu_flat _) (FSpec.embed [0,1] hb (by kernel_rfl) (by kernel_rfl) ⟨uu_flat _,uu_flat _,trivial⟩ ⟨uu_flat _,uu_flat _,trivial⟩) (FSpec.embed [0,1] k4 (by kernel_rfl) (by kernel_rfl) ⟨uu_flat _,uu_flat _,trivial⟩ ⟨uu_flat _,uu_flat _,trivial⟩)⟩)
 have kp:=nm_pos k3 (by omega)
 have kv:=k3.2.2.2.1
 obtain ⟨t,t1,t2,t3⟩:=evens_spec o1 k c1 true L' k3.1 (by omega) k3.2.1 (by omega)
 rw [kv] at t2
 obtain ⟨W,o',n',c',w1,w2,w3,w4⟩:=right_spec k3 (by omega) t1
 obtain ⟨q1,q2⟩:=tz_odd t2
 have hg:Nat.gcd ((vx - vy)/2^t) vy=Nat.gcd vx vy:=by
  rw [← odd_gcd q2 oy,Nat.gcd_sub_self_left (by omega)]
 have hle:(vx - vy)/2^t≤vx - vy:=Nat.div_le_self _ _
 refine .inr (.inr ⟨false,W,o',n',c',_,LY,o2,n2,c2,vy,w3,hY,by omega,by omega,q1,oy,hg,by omega,?_⟩)
 exact ha_nf o1 n1 c1 o2 n2 c2 tn tm _ _ (L'.map uu) _ k t o' n' c' h1 kp (uu_flat _) (uu_flat _) (uu_flat _) (uu_flat _) (FSpec.embed [0,1] hb (by kernel_rfl) (by kernel_rfl) ⟨uu_flat _,uu_flat _,trivial⟩ ⟨uu_flat _,uu_flat _,trivial⟩) (FSpec.embed [0,1] k4 (by kernel_rfl) (by kernel_rfl) ⟨uu_flat _,uu_flat _,trivial⟩ ⟨uu_flat _,uu_flat _,trivial⟩) (FSpec.embed [0] t3 (by kernel_rfl) (by kernel_rfl) (uflat _ _) (uflat _ _)) (FSpec.embed [0] w4 (by kernel_rfl) (by kernel_rfl) (uflat _ _) (uflat _ _))
theorem ha_stept {LX LY:List Nat} {o1 n1 c1 vx o2 n2 c2 vy:Nat} (tn tm:Nat) (hX:Nm LX o1 n1 c1 vx) (hY:Nm LY o2 n2 c2 vy) (hn1:n1 < 1125899906842624) (hn2:n2 < 1125899906842624) (ox:vx%2=1) (oy:vy%2=1):StepR true LX LY o1 n1 c1 vx o2 n2 c2 vy tn tm:=by
 have p1:=nm_pos hX (by omega)
 have p2:=nm_pos hY (by omega)
 by_cases hone:n1=1∧n2=1
 ·exact .inl ⟨hone.1,hone.2,ha_et o1 n1 c1 o2 n2 c2 tn tm _ _ hone.1 hone.2 (uu_flat _) (uu_flat _)⟩
 by_cases hlt:vx < vy
 ·have hb:=below_spec hX hY hn1
  rw [decide_eq_true hlt] at hb
  obtain ⟨L',k,k1,k2,k3,k4⟩:=minus_spec hY hX hn2 (Nat.le_of_lt hlt)
  have kp:=nm_pos k3 (by omega)
  have kv:=k3.2.2.2.1
  obtain ⟨t,t1,t2,t3⟩:=evens_spec o2 k c2 true L' k3.1 (by omega) k3.2.1 (by omega)
  rw [kv] at t2
  obtain ⟨W,o',n',c',w1,w2,w3,w4⟩:=right_spec k3 (by omega) t1
  obtain ⟨q1,q2⟩:=tz_odd t2
  have hg:Nat.gcd ((vy - vx)/2^t) vx=Nat.gcd vx vy:=by
   rw [← odd_gcd q2 ox,Nat.gcd_sub_self_left (Nat.le_of_lt hlt),Nat.gcd_comm]
  have hle:(vy - vx)/2^t≤vy - vx:=Nat.div_le_self _ _
  refine .inr (.inr ⟨false,W,o',n',c',_,LX,o1,n1,c1,vx,w3,hX,by omega,by omega,q1,ox,hg,by omega,?_⟩)
  by_cases h1:1 < n1
  ·exact ha_sAt o1 n1 c1 o2 n2 c2 tn tm _ _ (L'.map uu) _ k t o' n' c' h1 kp (uu_flat _) (uu_flat _) (uu_flat _) (uu_flat _) (FSpec.embed [1,0] hb (by kernel_rfl) (by kernel_rfl) ⟨uu_flat _,uu_flat _,trivial⟩ ⟨uu_flat _,uu_flat _,trivial⟩) (FSpec.embed [0,1] k4 (by kernel_rfl) (by kernel_rfl) ⟨uu_flat _,uu_flat _,trivial⟩ ⟨uu_flat _,uu_flat _,trivial⟩) (FSpec.embed [0] t3 (by kernel_rfl) (by kernel_rfl) (uflat _ _) (uflat _ _)) (FSpec.embed [0] w4 (by kernel_rfl) (by kernel_rfl) (uflat _ _) (uflat _ _))
  exact ha_sBt o1 n1 c1 o2 n2 c2 tn tm _ _ (L'.map uu) _ k t o' n' c' (by omega) (by omega) kp (uu_flat _) (uu_flat _) (uu_flat _) (uu_flat _) (FSpec.embed [1,0] hb (by kernel_rfl) (by kernel_rfl) ⟨uu_flat _,uu_flat _,trivial⟩ ⟨uu_flat _,uu_flat _,trivial⟩) (FSpec.embed [0,1] k4 (by kernel_rfl) (by kernel_rfl) ⟨uu_flat _,uu_flat _,trivial⟩ ⟨uu_flat _,uu_flat _,trivial⟩) (FSpec.embed [0] t3 (by kernel_rfl) (by kernel_rfl) (uflat _ _) (uflat _ _)) (FSpec.embed [0] w4 (by kernel_rfl) (by kernel_rfl) (uflat _ _) (uflat _ _))
 have hb:=below_spec hX hY hn1
 rw [decide_eq_false hlt] at hb
 have hnn:n2≤n1:=by
  rcases Nat.lt_or_ge n1 n2 with h | h
  ·have:=nm_len_lt hX hY h
   omega
  exact h
 have h1:1 < n1:=by omega
 obtain ⟨L',k,k1,k2,k3,k4⟩:=minus_spec hX hY hn1 (by omega)
 by_cases heq:vx=vy
 ·have kz:k=0:=nm_zero (by rw [heq,Nat.sub_self] at k3; exact k3)
  subst kz
  exact .inr (.inl ⟨heq,L',ha_zt o1 n1 c1 o2 n2 c2 tn tm _ _ (L'.map uu) h1 (uu_flat _) (uu_flat _) (uu_flat _) (FSpec.embed [1,0] hb (by kernel_rfl) (by kernel_rfl) ⟨uu_flat _,uu_flat _,trivial⟩ ⟨uu_flat _,uu_flat _,trivial⟩) (FSpec.embed [1,0] k4 (by kernel_rfl) (by kernel_rfl) ⟨uu_flat _,uu_flat _,trivial⟩ ⟨uu_flat _,uu_flat _,trivial⟩)⟩)
 have kp:=nm_pos k3 (by omega)
 have kv:=k3.2.2.2.1
 obtain ⟨t,t1,t2,t3⟩:=evens_spec o1 k c1 true L' k3.1 (by omega) k3.2.1 (by omega)
 rw [kv] at t2
 obtain ⟨W,o',n',c',w1,w2,w3,w4⟩:=right_spec k3 (by omega) t1
 obtain ⟨q1,q2⟩:=tz_odd t2
 have hg:Nat.gcd ((vx - vy)/2^t) vy=Nat.gcd vx vy:=by
  rw [← odd_gcd q2 oy,Nat.gcd_sub_self_left (by omega)]
 have hle:(vx - vy)/2^t≤vx - vy:=Nat.div_le_self _ _
 refine .inr (.inr ⟨true,W,o',n',c',_,LY,o2,n2,c2,vy,w3,hY,by omega,by omega,q1,oy,hg,by omega,?_⟩)
 exact ha_nt o1 n1 c1 o2 n2 c2 tn tm _ _ (L'.map uu) _ k t o' n' c' h1 kp (uu_flat _) (uu_flat _) (uu_flat _) (uu_flat _) (FSpec.embed [1,0] hb (by kernel_rfl) (by kernel_rfl) ⟨uu_flat _,uu_flat _,trivial⟩ ⟨uu_flat _,uu_flat _,trivial⟩) (FSpec.embed [1,0] k4 (by kernel_rfl) (by kernel_rfl) ⟨uu_flat _,uu_flat _,trivial⟩ ⟨uu_flat _,uu_flat _,trivial⟩) (FSpec.embed [1] t3 (by kernel_rfl) (by kernel_rfl) (uflat _ _) (uflat _ _)) (FSpec.embed [1] w4 (by kernel_rfl) (by kernel_rfl) (uflat _ _) (uflat _ _))
theorem ha_loop (tn tm N:Nat) (hN:N < 1125899906842624):∀ (fuel:Nat) (sh:Bool) (LX LY:List Nat) (o1 n1 c1 vx o2 n2 c2 vy:Nat),vx+vy < fuel→Nm LX o1 n1 c1 vx→Nm LY o2 n2 c2 vy→n1≤N→n2≤N→vx%2=1→vy%2=1 →
 ∃ sh' LX' o1' n1' c1' LY' o2' n2' c2' vy',Nm LY' o2' n2' c2' vy' ∧ n2' ≤ N ∧
   Rounds Tryd.prog (loopOf Tryd.f68 0) 0 (hS sh o1 n1 c1 o2 n2 c2 tn tm (LX.map uu) (LY.map uu)) .normal (hS sh' o1' n1' c1' o2' n2' c2' tn tm (LX'.map uu) (LY'.map uu)) ∧
   ((n1' = 1∧n2' = 1 ∧ ∃ vx',Nm LX' o1' n1' c1' vx' ∧ Nat.gcd vx' vy' = Nat.gcd vx vy)∨(n1' = 0∧vy' = Nat.gcd vx vy))
 | 0,_,_,_,_,_,_,_,_,_,_,_,h,_,_,_,_,_,_=>by omega
 | fuel+1,sh,LX,LY,o1,n1,c1,vx,o2,n2,c2,vy,hf,hX,hY,h1,h2,ox,oy=>by
   have key:StepR sh LX LY o1 n1 c1 vx o2 n2 c2 vy tn tm:=by
    cases sh with
    | false=>exact ha_stepf tn tm hX hY (by omega) (by omega) ox oy
    | true=>exact ha_stept tn tm hX hY (by omega) (by omega) ox oy
   rcases key with ⟨e1,e2,h⟩ | ⟨heq,LZ,h⟩ | ⟨sh',LX',o1',n1',c1',vx',LY',o2',n2',c2',vy',x1,x2,x3,x4,x5,x6,x7,x8,h⟩
   ·exact ⟨sh,LX,o1,n1,c1,LY,o2,n2,c2,vy,hY,h2,.stop h,.inl ⟨e1,e2,vx,hX,rfl⟩⟩
   ·exact ⟨sh,LZ,o1,0,c1,LY,o2,n2,c2,vy,hY,h2,.stop h,.inr ⟨rfl,by rw [heq,Nat.gcd_self]⟩⟩
   obtain ⟨sa,A,a1,a2,a3,Bq,b1,b2,b3,vb,y1,y2,y3,y4⟩:=ha_loop tn tm N hN fuel sh' LX' LY' o1' n1' c1' vx' o2' n2' c2' vy' (by omega) x1 x2 (by omega) (by omega) x5 x6
   refine ⟨sa,A,a1,a2,a3,Bq,b1,b2,b3,vb,y1,y2,.step h y3,?_⟩
   rw [x7] at y4
   exact y4
def by8 (w k:Nat):Nat:=w/2^(56 - 8*k)%256
def nb:List Nat→Nat
 | []=>0
 | x::r=>x*256^r.length+nb r
theorem nb_append:∀ (A Q:List Nat),nb (A++Q)=nb A*256^Q.length+nb Q
 | [],Q=>by simp [nb]
 | x::r,Q=>by
   rw [List.cons_append,nb,nb,nb_append r Q,List.length_append,Nat.pow_add,Nat.add_mul,Nat.mul_assoc,Nat.add_assoc]
theorem nb_zeros:∀ n,nb (List.replicate n 0)=0
 | 0=>rfl
 | n+1=>by rw [List.replicate_succ,nb,nb_zeros n,Nat.zero_mul]
theorem nb_by8 {w:Nat} (h:w < 18446744073709551616):nb ((List.range' 0 8).map (by8 w))=w:=by
 simp only [List.range',List.map_cons,List.map_nil,nb,by8,List.length_cons,List.length_nil]
 omega
theorem bv_nb:∀ l:List Nat,M.bv (l.map fun x:Nat=>(x:Int))=(nb l:Int)
 | []=>rfl
 | x::r=>by
   have h:=M.bv_append [(x:Int)] (r.map fun x:Nat=>(x:Int))
   rw [List.singleton_append] at h
   rw [List.map_cons,h,bv_nb r,nb,List.length_map]
   have:M.bv [(x:Int)]=x:=by simp [M.bv,M.lv]
   rw [this]
   push_cast
   rw [Int.mul_comm,Int.add_comm]
theorem V_str {l:List Nat} (h:∀ x∈l,x < 256):M.V (strOfNums (l.map fun x:Nat=>(x:Int)))=nb l:=by
 have h1:=M.V_strOfNums (xs:=l.map fun x:Nat=>(x:Int)) fun x hx=>by
  obtain ⟨y,hy,rfl⟩:=List.mem_map.1 hx
  have:=h y hy
  omega
 rw [bv_nb] at h1
 exact_mod_cast h1
def tb (L:List Nat) (o:Nat):Nat→List Nat
 | 0=>[]
 | i+1=>(List.range' 0 8).map (by8 (L.getD (o+i) 0))++tb L o i
theorem tb_len (L:List Nat) (o:Nat):∀ i,(tb L o i).length=8*i
 | 0=>rfl
 | i+1=>by simp [tb,tb_len L o i]; omega
theorem tb_lt (L:List Nat) (o:Nat):∀ i,∀ x∈tb L o i,x < 256
 | 0=>fun x h=>by simp [tb] at h
 | i+1=>fun x h=>by
   rw [tb,List.mem_append] at h
   rcases h with h | h
   ·obtain ⟨k,_,rfl⟩:=List.mem_map.1 h
    exact Nat.mod_lt _ (by decide)
   exact tb_lt L o i x h
theorem tb_val {L:List Nat} {o:Nat} (hw:Wd L):∀ {i},o+i≤L.length→nb (tb L o i)=lw (win L o i)
 | 0,_=>by simp [tb,nb,win,lw]
 | i+1,h=>by
   rw [tb,nb_append,nb_by8 (getD_lt hw (by omega)),tb_len,tb_val hw (by omega),win_succ (by omega),lw_append,win_len (by omega)]
   have:lw [L.getD (o+i) 0]=L.getD (o+i) 0:=by simp [lw]
   rw [this,Nat.pow_mul,show (256:Nat)^8=18446744073709551616 by decide,Nat.mul_comm,Nat.add_comm]
theorem ub_flat (L:List Nat):∀ v:V,v∈L.map ub→v.isC=true:=fun v hv=>by
 obtain ⟨x,_,rfl⟩:=List.mem_map.1 hv
 rfl
theorem ub_set {pre post:List Nat} {x v:Nat} {k:Nat} (h:pre.length=k):((pre++x::post).map ub).set k (ub v)=(pre++v::post).map ub:=by
 subst h
 rw [← List.map_set,List.set_append_right _ _ (Nat.le_refl _)]
 simp
theorem h4_loopf (o n c tn tm:Nat) (LX LY post:List Nat) (i w:Nat) (hn:n < 1125899906842624) (hi:i < n):∀ (r k:Nat) (pre:List Nat),k+r=8→pre.length=8*(n - 1 - i)+k→pre.length+r+post.length=8*n →
 Rounds Tryd.prog (loopOf Tryd.f68 4) 4 (g4f o n c tn tm (LX.map uu) (LY.map uu) ((pre++(List.replicate r 0++post)).map ub) i w k) .normal (g4f o n c tn tm (LX.map uu) (LY.map uu) ((pre++((List.range' k r).map (by8 w)++post)).map ub) i w 8)
 | 0,k,pre,hk,hp,hl=>by
   have:k=8:=by omega
   subst this
   exact .stop (h4_endf o n c tn tm _ _ _ i w (uu_flat LX) (uu_flat LY) (ub_flat _))
 | r+1,k,pre,hk,hp,hl=>by
   have h:=h4_gof o n c tn tm _ _ ((pre++(List.replicate (r+1) 0++post)).map ub) i w k (uu_flat LX) (uu_flat LY) (ub_flat _) hn hi (by omega) (by simp; omega)
   rw [List.replicate_succ,List.cons_append,ub_set hp,show w/2^(56 - 8*k)%256=by8 w k from rfl] at h
   have ih:=h4_loopf o n c tn tm LX LY post i w hn hi r (k+1) (pre++[by8 w k]) (by omega) (by simp; omega) (by simp; omega)
   rw [List.replicate_succ,List.cons_append,List.range'_succ,List.map_cons,List.cons_append]
   refine .step h ?_
   simpa using ih
theorem h2_loopf (o n c tn tm:Nat) (LX LY:List Nat) (hn:n < 1125899906842624) (hl:o+n≤LY.length):∀ (r i:Nat),r+i=n →
 Rounds Tryd.prog (loopOf Tryd.f68 2) 2 (g2f o n c tn tm (LX.map uu) (LY.map uu) ((List.replicate (8*r) 0++tb LY o i).map ub) i) .normal (g2f o n c tn tm (LX.map uu) (LY.map uu) ((tb LY o n).map ub) n)
 | 0,i,h=>by
   have:i=n:=by omega
   subst this
   exact .stop (h2_endf o i c tn tm _ _ _ (uu_flat LX) (uu_flat LY) (ub_flat _))
 | r+1,i,h=>by
   have h4:=h4_loopf o n c tn tm LX LY (tb LY o i) i (LY.getD (o+i) 0) hn (by omega) 8 0 (List.replicate (8*r) 0) (by omega) (by simp; omega) (by rw [tb_len]; simp; omega)
   have hs:=h2_gof o n c tn tm _ _ _ _ i (LY.getD (o+i) 0) (uu_flat LX) (uu_flat LY) (ub_flat _) (ub_flat _) hn (by omega) (uget (by omega)) h4.spec
   rw [show List.replicate (8*(r+1)) 0=List.replicate (8*r) 0++List.replicate 8 0 by rw [List.replicate_append_replicate]; rfl,List.append_assoc]
   exact .step hs (h2_loopf o n c tn tm LX LY hn hl r (i+1) (by omega))
theorem h4_loopt (o n c tn tm:Nat) (LX LY post:List Nat) (i w:Nat) (hn:n < 1125899906842624) (hi:i < n):∀ (r k:Nat) (pre:List Nat),k+r=8→pre.length=8*(n - 1 - i)+k→pre.length+r+post.length=8*n →
 Rounds Tryd.prog (loopOf Tryd.f68 4) 4 (g4t o n c tn tm (LX.map uu) (LY.map uu) ((pre++(List.replicate r 0++post)).map ub) i w k) .normal (g4t o n c tn tm (LX.map uu) (LY.map uu) ((pre++((List.range' k r).map (by8 w)++post)).map ub) i w 8)
 | 0,k,pre,hk,hp,hl=>by
   have:k=8:=by omega
   subst this
   exact .stop (h4_endt o n c tn tm _ _ _ i w (uu_flat LX) (uu_flat LY) (ub_flat _))
 | r+1,k,pre,hk,hp,hl=>by
   have h:=h4_got o n c tn tm _ _ ((pre++(List.replicate (r+1) 0++post)).map ub) i w k (uu_flat LX) (uu_flat LY) (ub_flat _) hn hi (by omega) (by simp; omega)
   rw [List.replicate_succ,List.cons_append,ub_set hp,show w/2^(56 - 8*k)%256=by8 w k from rfl] at h
   have ih:=h4_loopt o n c tn tm LX LY post i w hn hi r (k+1) (pre++[by8 w k]) (by omega) (by simp; omega) (by simp; omega)
   rw [List.replicate_succ,List.cons_append,List.range'_succ,List.map_cons,List.cons_append]
   refine .step h ?_
   simpa using ih
theorem h2_loopt (o n c tn tm:Nat) (LX LY:List Nat) (hn:n < 1125899906842624) (hl:o+n≤LY.length):∀ (r i:Nat),r+i=n →
 Rounds Tryd.prog (loopOf Tryd.f68 2) 2 (g2t o n c tn tm (LX.map uu) (LY.map uu) ((List.replicate (8*r) 0++tb LY o i).map ub) i) .normal (g2t o n c tn tm (LX.map uu) (LY.map uu) ((tb LY o n).map ub) n)
 | 0,i,h=>by
   have:i=n:=by omega
   subst this
   exact .stop (h2_endt o i c tn tm _ _ _ (uu_flat LX) (uu_flat LY) (ub_flat _))
 | r+1,i,h=>by
   have h4:=h4_loopt o n c tn tm LX LY (tb LY o i) i (LY.getD (o+i) 0) hn (by omega) 8 0 (List.replicate (8*r) 0) (by omega) (by simp; omega) (by rw [tb_len]; simp; omega)
   have hs:=h2_got o n c tn tm _ _ _ _ i (LY.getD (o+i) 0) (uu_flat LX) (uu_flat LY) (ub_flat _) (ub_flat _) hn (by omega) (uget (by omega)) h4.spec
   rw [show List.replicate (8*(r+1)) 0=List.replicate (8*r) 0++List.replicate 8 0 by rw [List.replicate_append_replicate]; rfl,List.append_assoc]
   exact .step hs (h2_loopt o n c tn tm LX LY hn hl r (i+1) (by omega))
theorem ha_finf (a b:ByteArray) (N1 N2 tn tm p1 q1 r1 p2 q2 r2 o1 n1 c1 o2 n2 c2 vy G:Nat) (A Bq A' B' LX LY:List Nat)
 (hl1:FSpec Tryd.prog 72 [.c (.string a)] [] (.sl 0 0 N1 N1) [some ⟨true,A.map uu⟩]) (hl2:FSpec Tryd.prog 72 [.c (.string b)] [] (.sl 0 0 N2 N2) [some ⟨true,Bq.map uu⟩])
 (he1:FSpec Tryd.prog 73 [.sl 0 0 N1 N1] [some ⟨true,A.map uu⟩] (.c (.int .i64 (tn:Nat))) [some ⟨true,A.map uu⟩]) (he2:FSpec Tryd.prog 73 [.sl 0 0 N2 N2] [some ⟨true,Bq.map uu⟩] (.c (.int .i64 (tm:Nat))) [some ⟨true,Bq.map uu⟩])
 (hr1:FSpec Tryd.prog 74 [.sl 0 0 N1 N1,.c (.int .i64 (tn:Nat))] [some ⟨true,A.map uu⟩] (.sl 0 p1 q1 r1) [some ⟨true,A'.map uu⟩]) (hr2:FSpec Tryd.prog 74 [.sl 0 0 N2 N2,.c (.int .i64 (tm:Nat))] [some ⟨true,Bq.map uu⟩] (.sl 0 p2 q2 r2) [some ⟨true,B'.map uu⟩])
 (h0:Rounds Tryd.prog (loopOf Tryd.f68 0) 0 (hSf p1 q1 r1 p2 q2 r2 tn tm (A'.map uu) (B'.map uu)) .normal (hSf o1 n1 c1 o2 n2 c2 tn tm (LX.map uu) (LY.map uu)))
 (hY:Nm LY o2 n2 c2 vy) (hn:n2 < 100000000000) (htn:tn < 1000000000000) (hcase:(n1=1∧n2=1 ∧ ∃ vx,Nm LX o1 n1 c1 vx∧Nat.gcd vx vy=G)∨(n1=0∧vy=G)) :
 CSpec Tryd.prog 68 #[.string a,.string b] (.string (M.B (G*2^min tn tm))):=by
 have hmn:min tn tm=8*(min tn tm/8)+min tn tm%8:=by omega
 have hr8:min tn tm%8 < 8:=Nat.mod_lt _ (by decide)
 have hl2':=FSpec.embed (M:=[some ⟨true,A.map uu⟩]) (M':=[some ⟨true,A.map uu⟩,some ⟨true,Bq.map uu⟩]) [] hl2 (by kernel_rfl) (by kernel_rfl) trivial (uflat _ _)
 have he1':=FSpec.embed (M:=[some ⟨true,A.map uu⟩,some ⟨true,Bq.map uu⟩]) (M':=[some ⟨true,A.map uu⟩,some ⟨true,Bq.map uu⟩]) [0] he1 (by kernel_rfl) (by kernel_rfl) (uflat _ _) (uflat _ _)
 have he2':=FSpec.embed (M:=[some ⟨true,A.map uu⟩,some ⟨true,Bq.map uu⟩]) (M':=[some ⟨true,A.map uu⟩,some ⟨true,Bq.map uu⟩]) [1] he2 (by kernel_rfl) (by kernel_rfl) (uflat _ _) (uflat _ _)
 have hr1':=FSpec.embed (M:=[some ⟨true,A.map uu⟩,some ⟨true,Bq.map uu⟩]) (M':=[some ⟨true,A'.map uu⟩,some ⟨true,Bq.map uu⟩]) [0] hr1 (by kernel_rfl) (by kernel_rfl) (uflat _ _) (uflat _ _)
 have hr2':=FSpec.embed (M:=[some ⟨true,A'.map uu⟩,some ⟨true,Bq.map uu⟩]) (M':=[some ⟨true,A'.map uu⟩,some ⟨true,B'.map uu⟩]) [1] hr2 (by kernel_rfl) (by kernel_rfl) (uflat _ _) (uflat _ _)
 have hs2:∃ xs:List Int,strOfNums ((2^(min tn tm%8)::List.replicate (min tn tm/8) 0).map fun x:Nat=>(x:Int))=strOfNums xs∧xs.length=min tn tm/8+1∧(((List.replicate (min tn tm/8+1) (V.c (.int .u8 0))).set 0 (ub (2^(min tn tm%8)))).drop 0).take (min tn tm/8+1)=xs.map fun n=>.c (.int .u8 n):=by
  refine ⟨_,rfl,by simp,?_⟩
  rw [List.replicate_succ,List.set_cons_zero,List.drop_zero,List.take_of_length_le (by simp)]
  simp [ub,List.map_replicate]
 have hp8:2^(min tn tm%8) < 256:=Nat.pow_lt_pow_right (n:=8) (by decide) hr8
 have v2:M.V (strOfNums ((2^(min tn tm%8)::List.replicate (min tn tm/8) 0).map fun x:Nat=>(x:Int)))=2^min tn tm:=by
  rw [V_str (fun x hx=>by
   rcases List.mem_cons.1 hx with rfl | hx
   ·exact hp8
   rw [List.eq_of_mem_replicate hx]; decide),nb,nb_zeros,List.length_replicate,Nat.add_zero,show (256:Nat)=2^8 by decide,← Nat.pow_mul,← Nat.pow_add]
  congr 1
  omega
 have z2:(strOfNums ((2^(min tn tm%8)::List.replicate (min tn tm/8) 0).map fun x:Nat=>(x:Int))).size=min tn tm/8+1:=by
  rw [strOfNums_size]; simp
 have fin : ∀ (Y : List Nat) (o n c : Nat), Wd Y → o + n ≤ Y.length → lw (win Y o n) = G → n < 100000000000 → ∃ s1, (∃ xs : List Int, s1 = strOfNums xs ∧ xs.length = 8 * n ∧ (((tb Y o n).map ub).drop 0).take (8 * n) = xs.map fun n => .c (.int .u8 n)) ∧
  CSpec Tryd.prog 27 #[.string s1,.string (strOfNums ((2^(min tn tm%8)::List.replicate (min tn tm/8) 0).map fun x:Nat=>(x:Int)))] (.string (M.B (G*2^min tn tm))):=by
  intro Y o n c hw hl hv hn
  refine ⟨strOfNums ((tb Y o n).map fun x:Nat=>(x:Int)),⟨_,rfl,by simp [tb_len],?_⟩,?_⟩
  ·rw [List.drop_zero,List.take_of_length_le (by simp [tb_len]),List.map_map]
   rfl
  have h:=mul_c (strOfNums ((tb Y o n).map fun x:Nat=>(x:Int))) (strOfNums ((2^(min tn tm%8)::List.replicate (min tn tm/8) 0).map fun x:Nat=>(x:Int))) (by rw [strOfNums_size]; simp [tb_len]; omega) (by rw [z2]; omega)
  rw [v2,V_str (tb_lt Y o n),tb_val hw hl,hv] at h
  exact h
 have hrep:∀ n,(List.replicate (8*n) 0).map ub=List.replicate (8*n) (V.c (.int .u8 0)):=fun n=>by
  rw [List.map_replicate]; rfl
 rcases hcase with ⟨e1,e2,vx,hX,hg⟩ | ⟨e1,hg⟩
 ·have w1:=hX.2.2.2.1
  have w2:=hY.2.2.2.1
  have l1:=hX.2.1
  have l2:=hY.2.1
  subst e1 e2
  have x1:LX.getD o1 0=vx:=by
   rw [win_cons (by omega) (by omega)] at w1
   simpa [win,lw] using w1
  have y1:LY.getD o2 0=vy:=by
   rw [win_cons (by omega) (by omega)] at w2
   simpa [win,lw] using w2
  have hx64:vx < 18446744073709551616:=by rw [← x1]; exact getD_lt hX.1 (by omega)
  have hpos:0 < vx:=by
   rcases hX.2.2.2.2 with h | h
   ·omega
   rw [Nat.sub_self,Nat.pow_zero] at h
   omega
  have hG:G < 18446744073709551616:=by
   have:=Nat.gcd_le_left vy hpos
   omega
  have hset:(LY.map uu).set o2 (uu G)=(LY.set o2 G).map uu:=by rw [List.map_set]
  have hw':Wd (LY.set o2 G):=wd_set hY.1 hG
  have hl':o2+1≤(LY.set o2 G).length:=by simpa using l2
  have hv':lw (win (LY.set o2 G) o2 1)=G:=by
   have:(LY.set o2 G).getD o2 0=G:=by
    rw [List.getD_eq_getElem?_getD,List.getElem?_set_self (by omega)]; rfl
   rw [win_cons (by omega) (by omega),lw,this,Nat.sub_self]
   simp [win,lw]
  obtain ⟨s1,k1,k2⟩:=fin (LY.set o2 G) o2 1 c2 hw' hl' hv' (by omega)
  have h2:=h2_loopf o2 1 c2 tn tm LX (LY.set o2 G) (by omega) hl' 1 0 (by omega)
  simp only [tb,List.append_nil] at h2
  rw [hrep] at h2
  have hgc:=common_c vx vy
  rw [hg] at hgc
  exact cspec_of (ha_fnof a b s1 _ _ N1 N2 tn tm p1 q1 r1 p2 q2 r2 o1 1 c1 o2 1 c2 (min tn tm/8) (min tn tm%8) _ vx vy G _ _ _ _ _ _ _ (uu_flat A) (uu_flat Bq) (uu_flat A') (uu_flat B') (uu_flat LX) (uu_flat LY) (ub_flat _)
   hl1 hl2' he1' he2' hr1' hr2' h0.spec (by omega) (by omega) hr8 rfl hmn rfl rfl (by rw [← x1]; exact uget (by omega)) (by rw [← y1]; exact uget (by omega)) hgc (by rw [hset]; exact h2.spec) k1 hs2 k2)
 subst e1
 obtain ⟨s1,k1,k2⟩:=fin LY o2 n2 c2 hY.1 hY.2.1 (by rw [← hg]; exact hY.2.2.2.1) hn
 have h2:=h2_loopf o2 n2 c2 tn tm LX LY (by omega) hY.2.1 n2 0 (by omega)
 simp only [tb,List.append_nil] at h2
 rw [hrep] at h2
 exact cspec_of (ha_fnbf a b s1 _ _ N1 N2 tn tm p1 q1 r1 p2 q2 r2 o1 0 c1 o2 n2 c2 (min tn tm/8) (min tn tm%8) _ _ _ _ _ _ _ _ (uu_flat A) (uu_flat Bq) (uu_flat A') (uu_flat B') (uu_flat LX) (uu_flat LY) (ub_flat _)
  hl1 hl2' he1' he2' hr1' hr2' h0.spec (by omega) (by omega) hr8 rfl hmn rfl h2.spec k1 hs2 k2)
theorem ha_fint (a b:ByteArray) (N1 N2 tn tm p1 q1 r1 p2 q2 r2 o1 n1 c1 o2 n2 c2 vy G:Nat) (A Bq A' B' LX LY:List Nat)
 (hl1:FSpec Tryd.prog 72 [.c (.string a)] [] (.sl 0 0 N1 N1) [some ⟨true,A.map uu⟩]) (hl2:FSpec Tryd.prog 72 [.c (.string b)] [] (.sl 0 0 N2 N2) [some ⟨true,Bq.map uu⟩])
 (he1:FSpec Tryd.prog 73 [.sl 0 0 N1 N1] [some ⟨true,A.map uu⟩] (.c (.int .i64 (tn:Nat))) [some ⟨true,A.map uu⟩]) (he2:FSpec Tryd.prog 73 [.sl 0 0 N2 N2] [some ⟨true,Bq.map uu⟩] (.c (.int .i64 (tm:Nat))) [some ⟨true,Bq.map uu⟩])
 (hr1:FSpec Tryd.prog 74 [.sl 0 0 N1 N1,.c (.int .i64 (tn:Nat))] [some ⟨true,A.map uu⟩] (.sl 0 p1 q1 r1) [some ⟨true,A'.map uu⟩]) (hr2:FSpec Tryd.prog 74 [.sl 0 0 N2 N2,.c (.int .i64 (tm:Nat))] [some ⟨true,Bq.map uu⟩] (.sl 0 p2 q2 r2) [some ⟨true,B'.map uu⟩])
 (h0:Rounds Tryd.prog (loopOf Tryd.f68 0) 0 (hSf p1 q1 r1 p2 q2 r2 tn tm (A'.map uu) (B'.map uu)) .normal (hSt o1 n1 c1 o2 n2 c2 tn tm (LX.map uu) (LY.map uu)))
 (hY:Nm LY o2 n2 c2 vy) (hn:n2 < 100000000000) (htn:tn < 1000000000000) (hcase:(n1=1∧n2=1 ∧ ∃ vx,Nm LX o1 n1 c1 vx∧Nat.gcd vx vy=G)∨(n1=0∧vy=G)) :
 CSpec Tryd.prog 68 #[.string a,.string b] (.string (M.B (G*2^min tn tm))):=by
 have hmn:min tn tm=8*(min tn tm/8)+min tn tm%8:=by omega
 have hr8:min tn tm%8 < 8:=Nat.mod_lt _ (by decide)
 have hl2':=FSpec.embed (M:=[some ⟨true,A.map uu⟩]) (M':=[some ⟨true,A.map uu⟩,some ⟨true,Bq.map uu⟩]) [] hl2 (by kernel_rfl) (by kernel_rfl) trivial (uflat _ _)
 have he1':=FSpec.embed (M:=[some ⟨true,A.map uu⟩,some ⟨true,Bq.map uu⟩]) (M':=[some ⟨true,A.map uu⟩,some ⟨true,Bq.map uu⟩]) [0] he1 (by kernel_rfl) (by kernel_rfl) (uflat _ _) (uflat _ _)
 have he2':=FSpec.embed (M:=[some ⟨true,A.map uu⟩,some ⟨true,Bq.map uu⟩]) (M':=[some ⟨true,A.map uu⟩,some ⟨true,Bq.map uu⟩]) [1] he2 (by kernel_rfl) (by kernel_rfl) (uflat _ _) (uflat _ _)
 have hr1':=FSpec.embed (M:=[some ⟨true,A.map uu⟩,some ⟨true,Bq.map uu⟩]) (M':=[some ⟨true,A'.map uu⟩,some ⟨true,Bq.map uu⟩]) [0] hr1 (by kernel_rfl) (by kernel_rfl) (uflat _ _) (uflat _ _)
 have hr2':=FSpec.embed (M:=[some ⟨true,A'.map uu⟩,some ⟨true,Bq.map uu⟩]) (M':=[some ⟨true,A'.map uu⟩,some ⟨true,B'.map uu⟩]) [1] hr2 (by kernel_rfl) (by kernel_rfl) (uflat _ _) (uflat _ _)
 have hs2:∃ xs:List Int,strOfNums ((2^(min tn tm%8)::List.replicate (min tn tm/8) 0).map fun x:Nat=>(x:Int))=strOfNums xs∧xs.length=min tn tm/8+1∧(((List.replicate (min tn tm/8+1) (V.c (.int .u8 0))).set 0 (ub (2^(min tn tm%8)))).drop 0).take (min tn tm/8+1)=xs.map fun n=>.c (.int .u8 n):=by
  refine ⟨_,rfl,by simp,?_⟩
  rw [List.replicate_succ,List.set_cons_zero,List.drop_zero,List.take_of_length_le (by simp)]
  simp [ub,List.map_replicate]
 have hp8:2^(min tn tm%8) < 256:=Nat.pow_lt_pow_right (n:=8) (by decide) hr8
 have v2:M.V (strOfNums ((2^(min tn tm%8)::List.replicate (min tn tm/8) 0).map fun x:Nat=>(x:Int)))=2^min tn tm:=by
  rw [V_str (fun x hx=>by
   rcases List.mem_cons.1 hx with rfl | hx
   ·exact hp8
   rw [List.eq_of_mem_replicate hx]; decide),nb,nb_zeros,List.length_replicate,Nat.add_zero,show (256:Nat)=2^8 by decide,← Nat.pow_mul,← Nat.pow_add]
  congr 1
  omega
 have z2:(strOfNums ((2^(min tn tm%8)::List.replicate (min tn tm/8) 0).map fun x:Nat=>(x:Int))).size=min tn tm/8+1:=by
  rw [strOfNums_size]; simp
 have fin : ∀ (Y : List Nat) (o n c : Nat), Wd Y → o + n ≤ Y.length → lw (win Y o n) = G → n < 100000000000 → ∃ s1, (∃ xs : List Int, s1 = strOfNums xs ∧ xs.length = 8 * n ∧ (((tb Y o n).map ub).drop 0).take (8 * n) = xs.map fun n => .c (.int .u8 n)) ∧
  CSpec Tryd.prog 27 #[.string s1,.string (strOfNums ((2^(min tn tm%8)::List.replicate (min tn tm/8) 0).map fun x:Nat=>(x:Int)))] (.string (M.B (G*2^min tn tm))):=by
  intro Y o n c hw hl hv hn
  refine ⟨strOfNums ((tb Y o n).map fun x:Nat=>(x:Int)),⟨_,rfl,by simp [tb_len],?_⟩,?_⟩
  ·rw [List.drop_zero,List.take_of_length_le (by simp [tb_len]),List.map_map]
   rfl
  have h:=mul_c (strOfNums ((tb Y o n).map fun x:Nat=>(x:Int))) (strOfNums ((2^(min tn tm%8)::List.replicate (min tn tm/8) 0).map fun x:Nat=>(x:Int))) (by rw [strOfNums_size]; simp [tb_len]; omega) (by rw [z2]; omega)
  rw [v2,V_str (tb_lt Y o n),tb_val hw hl,hv] at h
  exact h
 have hrep:∀ n,(List.replicate (8*n) 0).map ub=List.replicate (8*n) (V.c (.int .u8 0)):=fun n=>by
  rw [List.map_replicate]; rfl
 rcases hcase with ⟨e1,e2,vx,hX,hg⟩ | ⟨e1,hg⟩
 ·have w1:=hX.2.2.2.1
  have w2:=hY.2.2.2.1
  have l1:=hX.2.1
  have l2:=hY.2.1
  subst e1 e2
  have x1:LX.getD o1 0=vx:=by
   rw [win_cons (by omega) (by omega)] at w1
   simpa [win,lw] using w1
  have y1:LY.getD o2 0=vy:=by
   rw [win_cons (by omega) (by omega)] at w2
   simpa [win,lw] using w2
  have hx64:vx < 18446744073709551616:=by rw [← x1]; exact getD_lt hX.1 (by omega)
  have hpos:0 < vx:=by
   rcases hX.2.2.2.2 with h | h
   ·omega
   rw [Nat.sub_self,Nat.pow_zero] at h
   omega
  have hG:G < 18446744073709551616:=by
   have:=Nat.gcd_le_left vy hpos
   omega
  have hset:(LY.map uu).set o2 (uu G)=(LY.set o2 G).map uu:=by rw [List.map_set]
  have hw':Wd (LY.set o2 G):=wd_set hY.1 hG
  have hl':o2+1≤(LY.set o2 G).length:=by simpa using l2
  have hv':lw (win (LY.set o2 G) o2 1)=G:=by
   have:(LY.set o2 G).getD o2 0=G:=by
    rw [List.getD_eq_getElem?_getD,List.getElem?_set_self (by omega)]; rfl
   rw [win_cons (by omega) (by omega),lw,this,Nat.sub_self]
   simp [win,lw]
  obtain ⟨s1,k1,k2⟩:=fin (LY.set o2 G) o2 1 c2 hw' hl' hv' (by omega)
  have h2:=h2_loopt o2 1 c2 tn tm LX (LY.set o2 G) (by omega) hl' 1 0 (by omega)
  simp only [tb,List.append_nil] at h2
  rw [hrep] at h2
  have hgc:=common_c vx vy
  rw [hg] at hgc
  exact cspec_of (ha_fnot a b s1 _ _ N1 N2 tn tm p1 q1 r1 p2 q2 r2 o1 1 c1 o2 1 c2 (min tn tm/8) (min tn tm%8) _ vx vy G _ _ _ _ _ _ _ (uu_flat A) (uu_flat Bq) (uu_flat A') (uu_flat B') (uu_flat LX) (uu_flat LY) (ub_flat _)
   hl1 hl2' he1' he2' hr1' hr2' h0.spec (by omega) (by omega) hr8 rfl hmn rfl rfl (by rw [← x1]; exact uget (by omega)) (by rw [← y1]; exact uget (by omega)) hgc (by rw [hset]; exact h2.spec) k1 hs2 k2)
 subst e1
 obtain ⟨s1,k1,k2⟩:=fin LY o2 n2 c2 hY.1 hY.2.1 (by rw [← hg]; exact hY.2.2.2.1) hn
 have h2:=h2_loopt o2 n2 c2 tn tm LX LY (by omega) hY.2.1 n2 0 (by omega)
 simp only [tb,List.append_nil] at h2
 rw [hrep] at h2
 exact cspec_of (ha_fnbt a b s1 _ _ N1 N2 tn tm p1 q1 r1 p2 q2 r2 o1 0 c1 o2 n2 c2 (min tn tm/8) (min tn tm%8) _ _ _ _ _ _ _ _ (uu_flat A) (uu_flat Bq) (uu_flat A') (uu_flat B') (uu_flat LX) (uu_flat LY) (ub_flat _)
  hl1 hl2' he1' he2' hr1' hr2' h0.spec (by omega) (by omega) hr8 rfl hmn rfl h2.spec k1 hs2 k2)
theorem halves_c (a b:ByteArray) (ha:a.size≤68719476736) (hb:b.size≤68719476736) (ca:M.B (M.V a)=a) (cb:M.B (M.V b)=b) (za:M.V a≠0) (zb:M.V b≠0) :
 CSpec Tryd.prog 68 #[.string a,.string b] (.string (M.B (Nat.gcd (M.V a) (M.V b)))):=by
 obtain ⟨A,a1,a2,a3⟩:=limbs_spec a (by omega) ca
 obtain ⟨Q,b1,b2,b3⟩:=limbs_spec b (by omega) cb
 have av:=a2.2.2.2.1
 have bv:=b2.2.2.2.1
 obtain ⟨tn,t1,t2,t3⟩:=evens_spec 0 ((a.size+7)/8) ((a.size+7)/8) true A a2.1 (by omega) a2.2.1 (by omega)
 obtain ⟨tm,s1,s2,s3⟩:=evens_spec 0 ((b.size+7)/8) ((b.size+7)/8) true Q b2.1 (by omega) b2.2.1 (by omega)
 rw [av] at t2
 rw [bv] at s2
 obtain ⟨A',p1,q1,r1,g1,g2,g3,g4⟩:=right_spec a2 (by omega) t1
 obtain ⟨Q',p2,q2,r2,i1,i2,i3,i4⟩:=right_spec b2 (by omega) s1
 obtain ⟨oa,ea⟩:=tz_odd t2
 obtain ⟨ob,eb⟩:=tz_odd s2
 have hg:=gcd_twos ea eb oa ob
 obtain ⟨sh,LX,o1,n1,c1,LY,o2,n2,c2,vy,y1,y2,y3,y4⟩:=ha_loop tn tm 8589934593 (by omega) _ false A' Q' p1 q1 r1 _ p2 q2 r2 _ (Nat.lt_succ_self _) g3 i3 (by omega) (by omega) oa ob
 have hcase:(n1=1∧n2=1 ∧ ∃ vx,Nm LX o1 n1 c1 vx∧Nat.gcd vx vy=Nat.gcd (M.V a/2^tn) (M.V b/2^tm))∨(n1=0∧vy=Nat.gcd (M.V a/2^tn) (M.V b/2^tm)):=y4
 rw [hg,Nat.mul_comm]
 cases sh with
 | false=>exact ha_finf a b _ _ tn tm p1 q1 r1 p2 q2 r2 o1 n1 c1 o2 n2 c2 vy _ A Q A' Q' LX LY a3 b3 t3 s3 g4 i4 y3 y1 (by omega) (by omega) hcase
 | true=>exact ha_fint a b _ _ tn tm p1 q1 r1 p2 q2 r2 o1 n1 c1 o2 n2 c2 vy _ A Q A' Q' LX LY a3 b3 t3 s3 g4 i4 y3 y1 (by omega) (by omega) hcase
end Go.Proofs.YtjefpjajkbldpaaDoor.G
end
section
namespace Go.Proofs.YtjefpjajkbldpaaDoor.G
open Go.Proofs.YtjefpjajkbldpaaDoor.U Go.RowKit
theorem str_neq (a b:ByteArray):(!(a.toList==b.toList))=decide (a≠b):=by
 rw [ByteArray.toList_eq,ByteArray.toList_eq]
 by_cases h:a=b
 ·subst h; simp
 have:¬ a.data=b.data:=fun hh=>h (by
  cases a; cases b
  exact congrArg _ hh)
 simp [h,this]
theorem str_ne_f {a:ByteArray} (h:a=⟨#[]⟩):V.c (.bool (!(a.toList==ByteArray.toList ⟨#[]⟩)))=V.c (.bool false):=by rw [str_neq,h]; simp
theorem str_ne_t {a:ByteArray} (h:a≠⟨#[]⟩):V.c (.bool (!(a.toList==ByteArray.toList ⟨#[]⟩)))=V.c (.bool true):=by rw [str_neq]; simp [h]
theorem size_lt {a b:ByteArray} (h:a.size < b.size):V.c (.bool (decide ((a.size:Int) < (b.size:Int))))=V.c (.bool true):=by congr 2; exact decide_eq_true (by omega)
theorem size_lt_f {a b:ByteArray} (h:¬ a.size < b.size):V.c (.bool (decide ((a.size:Int) < (b.size:Int))))=V.c (.bool false):=by congr 2; exact decide_eq_false (by omega)
theorem size_le8 {a:ByteArray} (h:a.size≤8):V.c (.bool (decide ((a.size:Int)≤8)))=V.c (.bool true):=by congr 2; exact decide_eq_true (by omega)
theorem size_le8_f {a:ByteArray} (h:¬ a.size≤8):V.c (.bool (decide ((a.size:Int)≤8)))=V.c (.bool false):=by congr 2; exact decide_eq_false (by omega)
theorem size_le9 {a b:ByteArray} (h:a.size≤b.size+8):V.c (.bool (decide ((a.size:Int)≤((b.size+8:Nat):Int))))=V.c (.bool true):=by congr 2; exact decide_eq_true (by omega)
theorem size_le9_f {a b:ByteArray} (h:¬ a.size≤b.size+8):V.c (.bool (decide ((a.size:Int)≤((b.size+8:Nat):Int))))=V.c (.bool false):=by congr 2; exact decide_eq_false (by omega)
theorem size_8 {b:ByteArray} (h:b.size < 1125899906842624):V.c (Value.int IntKind.i64 (IntKind.wrap IntKind.i64 ((b.size:Int)+8)))=V.c (Value.int IntKind.i64 ((b.size+8:Nat):Int)):=by
 congr 2
 simp [IntKind.wrap,IntKind.signed,IntKind.bits]; omega
theorem sv_concat {P:Program} {S:St} {x y:Operand} {a b r:ByteArray} {d:Option Tmp} {ty ty2 ty3:TypeId} {ps:String} {af:Array Edge} {g:Option (Nat × Bool)}
 (h1:St.rho S x = .string a) (h2:St.rho S y = .string b) (hs:a.size+b.size≤9223372036854775807) (hr:a++b=r) :
 sval P (execOp (St.rho S) { dst:=d,op:=.binOp .add ty x y ty2,type:=ty3,pos:=ps,after:=af,guard:=g })=some (.value (.string r)):=by
 have hb:binOp .add ty (.string a) (.string b)=pure (.string r):=by
  show Op.stringOp .add a b=_
  unfold Op.stringOp
  simp only
  rw [if_neg (by simp [IntKind.max,IntKind.signed,IntKind.bits]; omega),hr]
 have hg:∀ u v,eqGuard .add ty u v (.string a) (.string b)=pure ():=fun u v=>rfl
 simp only [execOp,h1,h2,hg,hb]
 rfl
def gS (a b:ByteArray):St:=⟨slots 57 0 [(0,.c (.string a)),(1,.c (.string b))],[]⟩
def gR (r:ByteArray):St:=⟨slots 57 0 [(4,.c (.string r))],[]⟩
theorem gc_ea (a b:ByteArray) (ha:a=⟨#[]⟩):TSpec Tryd.prog (loopOf Tryd.f61 0) (gS a b) (Ex.exit 0) (gS a b) :=
 tspec_dim (sc:=[(2,1,.is (.c (.bool false)))]) (sb:=[]) (obs:=[Ob.prop (V.c (Value.bool !ByteArray.toList a==ByteArray.toList { data:=#[] })=vF)]) (mask 57 0 [0,1]) 0 (by kernel_rfl) (hP (str_ne_f ha) hN) trivial
theorem gc_eb (a b:ByteArray) (ha:a≠⟨#[]⟩) (hb:b=⟨#[]⟩):TSpec Tryd.prog (loopOf Tryd.f61 0) (gS a b) (Ex.exit 0) (gS a b) :=
 tspec_dim (sc:=[(2,1,.is (.c (.bool true))),(2,4,.is (.c (.bool false)))]) (sb:=[]) (obs:=[Ob.prop (V.c (Value.bool !ByteArray.toList a==ByteArray.toList { data:=#[] })=vT),Ob.prop (V.c (Value.bool !ByteArray.toList b==ByteArray.toList { data:=#[] })=vF)]) (mask 57 0 [0,1]) 0 (by kernel_rfl) (hP (str_ne_t ha) (hP (str_ne_f hb) hN)) trivial
theorem gc_s0 (a b r:ByteArray) (x y g:Int) (ha:a≠⟨#[]⟩) (hb:b≠⟨#[]⟩) (hsw:¬ a.size < b.size) (sa:a.size < 1125899906842624) (sb:b.size < 1125899906842624) (h8:a.size≤8) (hp:CSpec Tryd.prog 52 #[.string a] (.int .u64 x)) (hq:CSpec Tryd.prog 52 #[.string b] (.int .u64 y)) (hc:CSpec Tryd.prog 67 #[.int .u64 x,.int .u64 y] (.int .u64 g)) (hr:CSpec Tryd.prog 51 #[.int .u64 g] (.string r)):TSpec Tryd.prog (loopOf Tryd.f61 0) (gS a b) (Ex.ret) (gR r) :=
 tspec_dim (sc:=[(2,1,.is (.c (.bool true))),(2,4,.is (.c (.bool true))),(3,4,.is (.c (.bool false))),(5,2,.is (.c (.bool true))),(6,1,.fix (.int .u64 x)),(6,3,.fix (.int .u64 y)),(6,4,.fix (.int .u64 g)),(6,5,.fix (.string r))]) (sb:=[]) (obs:=[Ob.prop (V.c (Value.bool !ByteArray.toList a==ByteArray.toList { data:=#[] })=vT),Ob.prop (V.c (Value.bool !ByteArray.toList b==ByteArray.toList { data:=#[] })=vT),Ob.prop (V.c (Value.bool (decide ((↑(ByteArray.size a):Int) < (↑(ByteArray.size b):Int))))=vF),Ob.prop (V.c (Value.bool (decide ((↑(ByteArray.size a):Int)≤(8:Int))))=vT),Ob.call 52 { toList:=[Value.string a] } (Value.int IntKind.u64 x),Ob.call 52 { toList:=[Value.string b] } (Value.int IntKind.u64 y),Ob.call 67 { toList:=[Value.int IntKind.u64 x,Value.int IntKind.u64 y] } (Value.int IntKind.u64 g),Ob.call 51 { toList:=[Value.int IntKind.u64 g] } (Value.string r)]) (mask 57 0 [4]) 0 (by kernel_rfl) (hP (str_ne_t ha) (hP (str_ne_t hb) (hP (size_lt_f hsw) (hP (size_le8 h8) (hC hp (hC hq (hC hc (hC hr hN)))))))) trivial
theorem gc_h0 (a b r:ByteArray) (ha:a≠⟨#[]⟩) (hb:b≠⟨#[]⟩) (hsw:¬ a.size < b.size) (sa:a.size < 1125899906842624) (sb:b.size < 1125899906842624) (h8:¬ a.size≤8) (h9:a.size≤b.size+8) (hr:CSpec Tryd.prog 68 #[.string a,.string b] (.string r)):TSpec Tryd.prog (loopOf Tryd.f61 0) (gS a b) (Ex.ret) (gR r) :=
 tspec_dim (sc:=[(2,1,.is (.c (.bool true))),(2,4,.is (.c (.bool true))),(3,4,.is (.c (.bool false))),(5,2,.is (.c (.bool false))),(7,4,.is (.c (.int .i64 (b.size+8:Nat)))),(7,5,.is (.c (.bool true))),(8,2,.fix (.string r))]) (sb:=[]) (obs:=[Ob.prop (V.c (Value.bool !ByteArray.toList a==ByteArray.toList { data:=#[] })=vT),Ob.prop (V.c (Value.bool !ByteArray.toList b==ByteArray.toList { data:=#[] })=vT),Ob.prop (V.c (Value.bool (decide ((↑(ByteArray.size a):Int) < (↑(ByteArray.size b):Int))))=vF),Ob.prop (V.c (Value.bool (decide ((↑(ByteArray.size a):Int)≤(8:Int))))=vF),Ob.prop (vI (IntKind.wrap .i64 ((↑(ByteArray.size b):Int)+(8:Int)))=vI (↑(ByteArray.size b+8):Int)),Ob.prop (V.c (Value.bool (decide ((↑(ByteArray.size a):Int)≤(↑(ByteArray.size b+8):Int))))=vT),Ob.call 68 { toList:=[Value.string a,Value.string b] } (Value.string r)]) (mask 57 0 [4]) 0 (by kernel_rfl) (hP (str_ne_t ha) (hP (str_ne_t hb) (hP (size_lt_f hsw) (hP (size_le8_f h8) (hP (size_8 (by omega)) (hP (size_le9 h9) (hC hr hN))))))) trivial
theorem gc_d0 (a b r s:ByteArray) (ha:a≠⟨#[]⟩) (hb:b≠⟨#[]⟩) (hsw:¬ a.size < b.size) (sa:a.size < 1125899906842624) (sb:b.size < 1125899906842624) (h8:¬ a.size≤8) (h9:¬ a.size≤b.size+8) (hd:CSpec Tryd.prog 62 #[.string a,.string b] (.tuple #[.string s,.string r,.int .i64 0])):TSpec Tryd.prog (loopOf Tryd.f61 0) (gS a b) (Ex.normal) (gS b r) :=
 tspec_dim (sc:=[(2,1,.is (.c (.bool true))),(2,4,.is (.c (.bool true))),(3,4,.is (.c (.bool false))),(5,2,.is (.c (.bool false))),(7,4,.is (.c (.int .i64 (b.size+8:Nat)))),(7,5,.is (.c (.bool false))),(9,2,.fix (.tuple #[.string s,.string r,.int .i64 0]))]) (sb:=[]) (obs:=[Ob.prop (V.c (Value.bool !ByteArray.toList a==ByteArray.toList { data:=#[] })=vT),Ob.prop (V.c (Value.bool !ByteArray.toList b==ByteArray.toList { data:=#[] })=vT),Ob.prop (V.c (Value.bool (decide ((↑(ByteArray.size a):Int) < (↑(ByteArray.size b):Int))))=vF),Ob.prop (V.c (Value.bool (decide ((↑(ByteArray.size a):Int)≤(8:Int))))=vF),Ob.prop (vI (IntKind.wrap .i64 ((↑(ByteArray.size b):Int)+(8:Int)))=vI (↑(ByteArray.size b+8):Int)),Ob.prop (V.c (Value.bool (decide ((↑(ByteArray.size a):Int)≤(↑(ByteArray.size b+8):Int))))=vF),Ob.call 62 { toList:=[Value.string a,Value.string b] } (Value.tuple { toList:=[Value.string s,Value.string r,Value.int IntKind.i64 (0:Int)] })]) (mask 57 0 [0,1]) 0 (by kernel_rfl) (hP (str_ne_t ha) (hP (str_ne_t hb) (hP (size_lt_f hsw) (hP (size_le8_f h8) (hP (size_8 (by omega)) (hP (size_le9_f h9) (hC hd hN))))))) trivial
theorem gc_s1 (a b r:ByteArray) (x y g:Int) (ha:a≠⟨#[]⟩) (hb:b≠⟨#[]⟩) (hsw:a.size < b.size) (sa:a.size < 1125899906842624) (sb:b.size < 1125899906842624) (h8:b.size≤8) (hp:CSpec Tryd.prog 52 #[.string b] (.int .u64 x)) (hq:CSpec Tryd.prog 52 #[.string a] (.int .u64 y)) (hc:CSpec Tryd.prog 67 #[.int .u64 x,.int .u64 y] (.int .u64 g)) (hr:CSpec Tryd.prog 51 #[.int .u64 g] (.string r)):TSpec Tryd.prog (loopOf Tryd.f61 0) (gS a b) (Ex.ret) (gR r) :=
 tspec_dim (sc:=[(2,1,.is (.c (.bool true))),(2,4,.is (.c (.bool true))),(3,4,.is (.c (.bool true))),(5,2,.is (.c (.bool true))),(6,1,.fix (.int .u64 x)),(6,3,.fix (.int .u64 y)),(6,4,.fix (.int .u64 g)),(6,5,.fix (.string r))]) (sb:=[]) (obs:=[Ob.prop (V.c (Value.bool !ByteArray.toList a==ByteArray.toList { data:=#[] })=vT),Ob.prop (V.c (Value.bool !ByteArray.toList b==ByteArray.toList { data:=#[] })=vT),Ob.prop (V.c (Value.bool (decide ((↑(ByteArray.size a):Int) < (↑(ByteArray.size b):Int))))=vT),Ob.prop (V.c (Value.bool (decide ((↑(ByteArray.size b):Int)≤(8:Int))))=vT),Ob.call 52 { toList:=[Value.string b] } (Value.int IntKind.u64 x),Ob.call 52 { toList:=[Value.string a] } (Value.int IntKind.u64 y),Ob.call 67 { toList:=[Value.int IntKind.u64 x,Value.int IntKind.u64 y] } (Value.int IntKind.u64 g),Ob.call 51 { toList:=[Value.int IntKind.u64 g] } (Value.string r)]) (mask 57 0 [4]) 0 (by kernel_rfl) (hP (str_ne_t ha) (hP (str_ne_t hb) (hP (size_lt hsw) (hP (size_le8 h8) (hC hp (hC hq (hC hc (hC hr hN)))))))) trivial
theorem gc_h1 (a b r:ByteArray) (ha:a≠⟨#[]⟩) (hb:b≠⟨#[]⟩) (hsw:a.size < b.size) (sa:a.size < 1125899906842624) (sb:b.size < 1125899906842624) (h8:¬ b.size≤8) (h9:b.size≤a.size+8) (hr:CSpec Tryd.prog 68 #[.string b,.string a] (.string r)):TSpec Tryd.prog (loopOf Tryd.f61 0) (gS a b) (Ex.ret) (gR r) :=
 tspec_dim (sc:=[(2,1,.is (.c (.bool true))),(2,4,.is (.c (.bool true))),(3,4,.is (.c (.bool true))),(5,2,.is (.c (.bool false))),(7,4,.is (.c (.int .i64 (a.size+8:Nat)))),(7,5,.is (.c (.bool true))),(8,2,.fix (.string r))]) (sb:=[]) (obs:=[Ob.prop (V.c (Value.bool !ByteArray.toList a==ByteArray.toList { data:=#[] })=vT),Ob.prop (V.c (Value.bool !ByteArray.toList b==ByteArray.toList { data:=#[] })=vT),Ob.prop (V.c (Value.bool (decide ((↑(ByteArray.size a):Int) < (↑(ByteArray.size b):Int))))=vT),Ob.prop (V.c (Value.bool (decide ((↑(ByteArray.size b):Int)≤(8:Int))))=vF),Ob.prop (vI (IntKind.wrap .i64 ((↑(ByteArray.size a):Int)+(8:Int)))=vI (↑(ByteArray.size a+8):Int)),Ob.prop (V.c (Value.bool (decide ((↑(ByteArray.size b):Int)≤(↑(ByteArray.size a+8):Int))))=vT),Ob.call 68 { toList:=[Value.string b,Value.string a] } (Value.string r)]) (mask 57 0 [4]) 0 (by kernel_rfl) (hP (str_ne_t ha) (hP (str_ne_t hb) (hP (size_lt hsw) (hP (size_le8_f h8) (hP (size_8 (by omega)) (hP (size_le9 h9) (hC hr hN))))))) trivial
theorem gc_d1 (a b r s:ByteArray) (ha:a≠⟨#[]⟩) (hb:b≠⟨#[]⟩) (hsw:a.size < b.size) (sa:a.size < 1125899906842624) (sb:b.size < 1125899906842624) (h8:¬ b.size≤8) (h9:¬ b.size≤a.size+8) (hd:CSpec Tryd.prog 62 #[.string b,.string a] (.tuple #[.string s,.string r,.int .i64 0])):TSpec Tryd.prog (loopOf Tryd.f61 0) (gS a b) (Ex.normal) (gS a r) :=
 tspec_dim (sc:=[(2,1,.is (.c (.bool true))),(2,4,.is (.c (.bool true))),(3,4,.is (.c (.bool true))),(5,2,.is (.c (.bool false))),(7,4,.is (.c (.int .i64 (a.size+8:Nat)))),(7,5,.is (.c (.bool false))),(9,2,.fix (.tuple #[.string s,.string r,.int .i64 0]))]) (sb:=[]) (obs:=[Ob.prop (V.c (Value.bool !ByteArray.toList a==ByteArray.toList { data:=#[] })=vT),Ob.prop (V.c (Value.bool !ByteArray.toList b==ByteArray.toList { data:=#[] })=vT),Ob.prop (V.c (Value.bool (decide ((↑(ByteArray.size a):Int) < (↑(ByteArray.size b):Int))))=vT),Ob.prop (V.c (Value.bool (decide ((↑(ByteArray.size b):Int)≤(8:Int))))=vF),Ob.prop (vI (IntKind.wrap .i64 ((↑(ByteArray.size a):Int)+(8:Int)))=vI (↑(ByteArray.size a+8):Int)),Ob.prop (V.c (Value.bool (decide ((↑(ByteArray.size b):Int)≤(↑(ByteArray.size a+8):Int))))=vF),Ob.call 62 { toList:=[Value.string b,Value.string a] } (Value.tuple { toList:=[Value.string s,Value.string r,Value.int IntKind.i64 (0:Int)] })]) (mask 57 0 [0,1]) 0 (by kernel_rfl) (hP (str_ne_t ha) (hP (str_ne_t hb) (hP (size_lt hsw) (hP (size_le8_f h8) (hP (size_8 (by omega)) (hP (size_le9_f h9) (hC hd hN))))))) trivial
theorem gc_fnR (a0 b0 a b r:ByteArray) (ta:CSpec Tryd.prog 49 #[.string a0] (.string a)) (tb:CSpec Tryd.prog 49 #[.string b0] (.string b)) (h:TSpec Tryd.prog (.block 0 (.loop (loopOf Tryd.f61 0))) (gS a b) .ret (gR r)):FSpec Tryd.prog 61 [.c (.string a0),.c (.string b0)] [] (V.c (Value.string r)) [] :=
 fspec_ok Tryd.func61 (sc:=[(1,1,.fix (.string a)),(1,3,.fix (.string b))]) (sb:=[(0,.ret,gR r)]) (keep:=[]) (obs:=[Ob.prop (Flat ([]:List (Option Row))),Ob.call 49 { toList:=[Value.string a0] } (Value.string a),Ob.call 49 { toList:=[Value.string b0] } (Value.string b),Ob.prop (TSpec Tryd.prog (Code.block 0 (Code.loop (loopOf Tryd.f61 0))) ({ t:=[V.c (Value.string a),V.c (Value.string b),V.c (Value.tuple { toList:=[] }),V.c (Value.tuple { toList:=[] }),V.c (Value.string { data:=#[] }),V.c (Value.tuple { toList:=[] }),V.c (Value.tuple { toList:=[] }),V.c (Value.tuple { toList:=[] }),V.c (Value.string a0),V.c (Value.string a),V.c (Value.string b0),V.c (Value.string b),V.c (Value.tuple { toList:=[] }),V.c (Value.tuple { toList:=[] }),V.c (Value.tuple { toList:=[] }),V.c (Value.tuple { toList:=[] }),V.c (Value.tuple { toList:=[] }),V.c (Value.tuple { toList:=[] }),V.c (Value.tuple { toList:=[] }),V.c (Value.tuple { toList:=[] }),V.c (Value.tuple { toList:=[] }),V.c (Value.tuple { toList:=[] }),V.c (Value.tuple { toList:=[] }),V.c (Value.tuple { toList:=[] }),V.c (Value.tuple { toList:=[] }),V.c (Value.tuple { toList:=[] }),V.c (Value.tuple { toList:=[] }),V.c (Value.tuple { toList:=[] }),V.c (Value.tuple { toList:=[] }),V.c (Value.tuple { toList:=[] }),V.c (Value.tuple { toList:=[] }),V.c (Value.tuple { toList:=[] }),V.c (Value.tuple { toList:=[] }),V.c (Value.tuple { toList:=[] }),V.c (Value.tuple { toList:=[] }),V.c (Value.tuple { toList:=[] }),V.c (Value.tuple { toList:=[] }),V.c (Value.tuple { toList:=[] }),V.c (Value.tuple { toList:=[] }),V.c (Value.tuple { toList:=[] }),V.c (Value.tuple { toList:=[] }),V.c (Value.tuple { toList:=[] }),V.c (Value.tuple { toList:=[] }),V.c (Value.tuple { toList:=[] }),V.c (Value.tuple { toList:=[] }),V.c (Value.tuple { toList:=[] }),V.c (Value.tuple { toList:=[] }),V.c (Value.tuple { toList:=[] }),V.c (Value.tuple { toList:=[] }),V.c (Value.tuple { toList:=[] }),V.c (Value.tuple { toList:=[] }),V.c (Value.tuple { toList:=[] }),V.c (Value.tuple { toList:=[] }),V.c (Value.tuple { toList:=[] }),V.c (Value.tuple { toList:=[] }),V.c (Value.tuple { toList:=[] }),V.c (Value.tuple { toList:=[] })],m:=[] }) (Ex.ret) (gR r))]) (by kernel_rfl) (hP trivial (hC ta (hC tb (hP (TSpec.from (mask 57 0 [0,1]) h (by kernel_rfl) (by kernel_rfl) trivial) hN))))
theorem gc_fnE (a0 b0 a b c d r:ByteArray) (ta:CSpec Tryd.prog 49 #[.string a0] (.string a)) (tb:CSpec Tryd.prog 49 #[.string b0] (.string b)) (h:TSpec Tryd.prog (.block 0 (.loop (loopOf Tryd.f61 0))) (gS a b) .normal (gS c d)) (hr:c++d=r) (hcs:c.size+d.size≤9223372036854775807):FSpec Tryd.prog 61 [.c (.string a0),.c (.string b0)] [] (V.c (Value.string r)) [] :=
 fspec_ok Tryd.func61 (sc:=[(1,1,.fix (.string a)),(1,3,.fix (.string b)),(11,2,.fix (.string r))]) (sb:=[(0,.normal,gS c d)]) (keep:=[]) (obs:=[Ob.prop (Flat ([]:List (Option Row))),Ob.call 49 { toList:=[Value.string a0] } (Value.string a),Ob.call 49 { toList:=[Value.string b0] } (Value.string b),Ob.prop (TSpec Tryd.prog (Code.block 0 (Code.loop (loopOf Tryd.f61 0))) ({ t:=[V.c (Value.string a),V.c (Value.string b),V.c (Value.tuple { toList:=[] }),V.c (Value.tuple { toList:=[] }),V.c (Value.string { data:=#[] }),V.c (Value.tuple { toList:=[] }),V.c (Value.tuple { toList:=[] }),V.c (Value.tuple { toList:=[] }),V.c (Value.string a0),V.c (Value.string a),V.c (Value.string b0),V.c (Value.string b),V.c (Value.tuple { toList:=[] }),V.c (Value.tuple { toList:=[] }),V.c (Value.tuple { toList:=[] }),V.c (Value.tuple { toList:=[] }),V.c (Value.tuple { toList:=[] }),V.c (Value.tuple { toList:=[] }),V.c (Value.tuple { toList:=[] }),V.c (Value.tuple { toList:=[] }),V.c (Value.tuple { toList:=[] }),V.c (Value.tuple { toList:=[] }),V.c (Value.tuple { toList:=[] }),V.c (Value.tuple { toList:=[] }),V.c (Value.tuple { toList:=[] }),V.c (Value.tuple { toList:=[] }),V.c (Value.tuple { toList:=[] }),V.c (Value.tuple { toList:=[] }),V.c (Value.tuple { toList:=[] }),V.c (Value.tuple { toList:=[] }),V.c (Value.tuple { toList:=[] }),V.c (Value.tuple { toList:=[] }),V.c (Value.tuple { toList:=[] }),V.c (Value.tuple { toList:=[] }),V.c (Value.tuple { toList:=[] }),V.c (Value.tuple { toList:=[] }),V.c (Value.tuple { toList:=[] }),V.c (Value.tuple { toList:=[] }),V.c (Value.tuple { toList:=[] }),V.c (Value.tuple { toList:=[] }),V.c (Value.tuple { toList:=[] }),V.c (Value.tuple { toList:=[] }),V.c (Value.tuple { toList:=[] }),V.c (Value.tuple { toList:=[] }),V.c (Value.tuple { toList:=[] }),V.c (Value.tuple { toList:=[] }),V.c (Value.tuple { toList:=[] }),V.c (Value.tuple { toList:=[] }),V.c (Value.tuple { toList:=[] }),V.c (Value.tuple { toList:=[] }),V.c (Value.tuple { toList:=[] }),V.c (Value.tuple { toList:=[] }),V.c (Value.tuple { toList:=[] }),V.c (Value.tuple { toList:=[] }),V.c (Value.tuple { toList:=[] }),V.c (Value.tuple { toList:=[] }),V.c (Value.tuple { toList:=[] })],m:=[] }) (Ex.normal) (gS c d)),Ob.val (execOp (St.rho ⟨(slots 56 0 [(54,V.c (Value.string c)),(55,V.c (Value.string d))]),[]⟩) { dst:=some 56,op:=Op.binOp BinOp.add 9 (Operand.tmp 54) (Operand.tmp 55) 9,type:=9,pos := "nat.go:268",after:={ toList:=[{ on:=0,ground:=Ground.data },{ on:=1,ground:=Ground.data }] },guard:=none }) (Value.string r) ]) (by kernel_rfl) (hP trivial (hC ta (hC tb (hP (TSpec.from (mask 57 0 [0,1]) h (by kernel_rfl) (by kernel_rfl) trivial) (hV (sv_concat rfl rfl hcs hr) hN)))))
theorem B_ne {m:Nat} (h:m≠0):M.B m≠⟨#[]⟩:=fun hh=>h (M.B_size_zero.1 (by rw [hh]; rfl))
theorem B_nil {m:Nat} (h:m=0):M.B m=⟨#[]⟩:=by
 subst h
 unfold M.B
 rw [M.bytesOf_zero]
theorem B_mono {m n:Nat} (h:m≤n):(M.B m).size≤(M.B n).size:=M.size_B_le (Nat.lt_of_le_of_lt h (M.lt_of_size_B (Nat.le_refl _)))
theorem gc_loop:∀ (fuel m n:Nat),m+n < fuel→(M.B m).size≤68719476736→(M.B n).size≤68719476736 →
 Rounds Tryd.prog (loopOf Tryd.f61 0) 0 (gS (M.B m) (M.B n)) .ret (gR (M.B (Nat.gcd m n))) ∨
 ∃ c d,Rounds Tryd.prog (loopOf Tryd.f61 0) 0 (gS (M.B m) (M.B n)) .normal (gS c d)∧c++d=M.B (Nat.gcd m n)∧c.size+d.size≤9223372036854775807
 | 0,m,n,h,_,_=>by omega
 | fuel+1,m,n,hf,sm,sn=>by
   by_cases h0:m=0
   ·refine .inr ⟨_,_,.stop (gc_ea _ _ (B_nil h0)),?_,by omega⟩
    rw [B_nil h0,h0,Nat.gcd_zero_left]
    exact ByteArray.empty_append
   by_cases h1:n=0
   ·refine .inr ⟨_,_,.stop (gc_eb _ _ (B_ne h0) (B_nil h1)),?_,by omega⟩
    rw [B_nil h1,h1,Nat.gcd_zero_right]
    exact ByteArray.append_empty
   have na:=B_ne h0
   have nb:=B_ne h1
   have vm:=M.V_B m
   have vn:=M.V_B n
   have sh:∀ k,(M.B k).size≤8→CSpec Tryd.prog 52 #[.string (M.B k)] (.int .u64 (k:Int)):=fun k hk=>by
    have:=short_c (M.B k) hk
    rwa [M.V_B] at this
   have fs:∀ k l,(M.B k).size≤8→k≠0→CSpec Tryd.prog 51 #[.int .u64 (Nat.gcd k l:Nat)] (.string (M.B (Nat.gcd k l))):=fun k l hk h=>by
    refine fromShort_c _ ?_
    have h2:=M.lt_of_size_B hk
    have h3:=Nat.gcd_le_left l (Nat.pos_of_ne_zero h)
    have:(256:Nat)^8=18446744073709551616:=by decide
    omega
   have ha:∀ k l,k≠0→l≠0→(M.B k).size≤68719476736→(M.B l).size≤68719476736→CSpec Tryd.prog 68 #[.string (M.B k),.string (M.B l)] (.string (M.B (Nat.gcd k l))):=fun k l hk hl k1 l1=>by
    have:=halves_c (M.B k) (M.B l) k1 l1 (by rw [M.V_B]) (by rw [M.V_B]) (by rw [M.V_B]; exact hk) (by rw [M.V_B]; exact hl)
    rwa [M.V_B,M.V_B] at this
   have dv:∀ k l,l≠0→(M.B k).size≤68719476736→(M.B l).size≤68719476736→CSpec Tryd.prog 62 #[.string (M.B k),.string (M.B l)] (.tuple #[.string (M.B (k/l)),.string (M.B (k%l)),.int .i64 0]):=fun k l hl k1 l1=>by
    have:=div_c (M.B k) (M.B l) (by omega) (by omega) (by rw [M.V_B]; exact hl)
    rwa [M.V_B,M.V_B] at this
   by_cases hsw:(M.B m).size < (M.B n).size
   ·by_cases h8:(M.B n).size≤8
    ·refine .inl (.ret ?_)
     rw [Nat.gcd_comm]
     exact gc_s1 _ _ _ _ _ _ na nb hsw (by omega) (by omega) h8 (sh n h8) (sh m (by omega)) (common_c n m) (fs n m h8 h1)
    by_cases h9:(M.B n).size≤(M.B m).size+8
    ·refine .inl (.ret ?_)
     rw [Nat.gcd_comm]
     exact gc_h1 _ _ _ na nb hsw (by omega) (by omega) h8 h9 (ha n m h1 h0 sn sm)
    have hst:=gc_d1 _ _ _ _ na nb hsw (by omega) (by omega) h8 h9 (dv n m h0 sn sm)
    have hlt:n%m < m:=Nat.mod_lt _ (Nat.pos_of_ne_zero h0)
    have hmn:m < n:=by
     rcases Nat.lt_or_ge m n with h | h
     ·exact h
     have:=B_mono h
     omega
    have hs:=B_mono (Nat.le_of_lt hlt)
    have hg:Nat.gcd m (n%m)=Nat.gcd m n:=by rw [Nat.gcd_rec m n,Nat.gcd_comm]
    rcases gc_loop fuel m (n%m) (by omega) sm (by omega) with h | ⟨c,d,h,h',h''⟩
    ·rw [hg] at h
     exact .inl (.step hst h)
    rw [hg] at h'
    exact .inr ⟨c,d,.step hst h,h',h''⟩
   by_cases h8:(M.B m).size≤8
   ·exact .inl (.ret (gc_s0 _ _ _ _ _ _ na nb hsw (by omega) (by omega) h8 (sh m h8) (sh n (by omega)) (common_c m n) (fs m n h8 h0)))
   by_cases h9:(M.B m).size≤(M.B n).size+8
   ·exact .inl (.ret (gc_h0 _ _ _ na nb hsw (by omega) (by omega) h8 h9 (ha m n h0 h1 sm sn)))
   have hst:=gc_d0 _ _ _ _ na nb hsw (by omega) (by omega) h8 h9 (dv m n h1 sm sn)
   have hlt:m%n < n:=Nat.mod_lt _ (Nat.pos_of_ne_zero h1)
   have hmn:n < m:=by
    rcases Nat.lt_or_ge n m with h | h
    ·exact h
    have:=B_mono h
    omega
   have hs:=B_mono (Nat.le_of_lt hlt)
   have hg:Nat.gcd n (m%n)=Nat.gcd m n:=by rw [Nat.gcd_comm m n,Nat.gcd_rec n m,Nat.gcd_comm]
   rcases gc_loop fuel n (m%n) (by omega) sn (by omega) with h | ⟨c,d,h,h',h''⟩
   ·rw [hg] at h
    exact .inl (.step hst h)
   rw [hg] at h'
   exact .inr ⟨c,d,.step hst h,h',h''⟩
theorem gcd_c (a b:ByteArray) (ha:a.size≤68719476736) (hb:b.size≤68719476736):CSpec Tryd.prog 61 #[.string a,.string b] (.string (M.B (Nat.gcd (M.V a) (M.V b)))):=by
 have h1:=M.size_BV a
 have h2:=M.size_BV b
 rcases gc_loop _ (M.V a) (M.V b) (Nat.lt_succ_self _) (by omega) (by omega) with h | ⟨c,d,h,h',h''⟩
 ·exact cspec_of (gc_fnR a b _ _ _ (trim_c a) (trim_c b) h.spec)
 exact cspec_of (gc_fnE a b _ _ c d _ (trim_c a) (trim_c b) h.spec h' h'')
#print axioms gcd_c
end Go.Proofs.YtjefpjajkbldpaaDoor.G
end
