import Derived.Test.YtmkgijiniopalaaDoorYGI
import Derived.Test.YtmkgijiniopalaaDoorYNS
namespace Go.Proofs.YtmkgijiniopalaaDoor.G
open Go.Proofs.YtmkgijiniopalaaDoor.U Go.RowKit Go.Proofs.YtmkgijiniopalaaDoorW.PrintWords Go.Proofs.YtmkgijiniopalaaDoorW.PrintLast Go.Proofs.YtmkgijiniopalaaDoorW.PrintMore
set_option linter.unusedVariables false
set_option maxRecDepth 100000
theorem odd_gcd {d t u v:Nat} (h:d=2^t*u) (hv:v%2=1):Nat.gcd d v=Nat.gcd u v:=by
 rw [h]
 refine Nat.Coprime.gcd_mul_left_cancel _ (Nat.Coprime.pow_left _ ?_)
 show Nat.gcd 2 v=1
 rw [Nat.gcd_rec,hv]
 decide
theorem tz_odd {v t:Nat} (h:Tz v t):v/2^t%2=1∧v=2^t*(v/2^t):=by
 obtain ⟨m,rfl⟩:=h
 rw [Nat.mul_div_cancel_left _ (Nat.pow_pos (by decide))]
 omega
theorem gcd_twos {a b t s u w:Nat} (ha:a=2^t*u) (hb:b=2^s*w) (hu:u%2=1) (hw:w%2=1):Nat.gcd a b=2^min t s*Nat.gcd u w:=by
 rcases Nat.le_total t s with h | h
 ·obtain ⟨d,rfl⟩:∃ d,s=t+d:=⟨s - t,by omega⟩
  rw [ha,hb,Nat.pow_add,Nat.mul_assoc,Nat.gcd_mul_left,Nat.min_eq_left h,Nat.gcd_comm u,odd_gcd rfl hu,Nat.gcd_comm]
 obtain ⟨d,rfl⟩:∃ d,t=s+d:=⟨t - s,by omega⟩
 rw [ha,hb,Nat.pow_add,Nat.mul_assoc,Nat.gcd_mul_left,Nat.min_eq_right h,odd_gcd rfl hw]
theorem nm_pos {L:List Nat} {off n c v:Nat} (h:Nm L off n c v) (hv:v≠0):0 < n:=by
 rcases Nat.eq_zero_or_pos n with h0 | h0
 ·have:=nm_lt h
  rw [h0] at this
  omega
 exact h0
theorem nm_zero {L:List Nat} {off n c:Nat} (h:Nm L off n c 0):n=0:=by
 rcases h.2.2.2.2 with h0 | h0
 ·exact h0
 have:0 < 18446744073709551616^(n - 1):=Nat.pow_pos (by decide)
 omega
def hS (sh:Bool) (o1 n1 c1 o2 n2 c2 tn tm:Nat) (X Y:List V):St:=if sh then hSt o1 n1 c1 o2 n2 c2 tn tm X Y else hSf o1 n1 c1 o2 n2 c2 tn tm X Y
def StepR (sh:Bool) (LX LY:List Nat) (o1 n1 c1 vx o2 n2 c2 vy tn tm:Nat):Prop :=
    (n1=1∧n2=1∧TSpec Tryd.prog (loopOf Tryd.f82 0) (hS sh o1 n1 c1 o2 n2 c2 tn tm (LX.map uu) (LY.map uu)) (.exit 0) (hS sh o1 n1 c1 o2 n2 c2 tn tm (LX.map uu) (LY.map uu))) ∨
    (vx=vy ∧ ∃ LZ:List Nat,TSpec Tryd.prog (loopOf Tryd.f82 0) (hS sh o1 n1 c1 o2 n2 c2 tn tm (LX.map uu) (LY.map uu)) (.exit 0) (hS sh o1 0 c1 o2 n2 c2 tn tm (LZ.map uu) (LY.map uu))) ∨
    (∃ sh' LX' o1' n1' c1' vx' LY' o2' n2' c2' vy',Nm LX' o1' n1' c1' vx' ∧ Nm LY' o2' n2' c2' vy' ∧ n1' ≤ max n1 n2∧n2' ≤ max n1 n2∧vx' % 2=1∧vy' % 2=1∧Nat.gcd vx' vy' = Nat.gcd vx vy∧vx' + vy' < vx+vy ∧
     TSpec Tryd.prog (loopOf Tryd.f82 0) (hS sh o1 n1 c1 o2 n2 c2 tn tm (LX.map uu) (LY.map uu)) .normal (hS sh' o1' n1' c1' o2' n2' c2' tn tm (LX'.map uu) (LY'.map uu)))
theorem ha_stepf {LX LY:List Nat} {o1 n1 c1 vx o2 n2 c2 vy:Nat} (tn tm:Nat) (hX:Nm LX o1 n1 c1 vx) (hY:Nm LY o2 n2 c2 vy) (hn1:n1 < 1125899906842624) (hn2:n2 < 1125899906842624) (ox:vx%2=1) (oy:vy%2=1):StepR false LX LY o1 n1 c1 vx o2 n2 c2 vy tn tm:=by
 have p1:=nm_pos hX (by omega)
 have p2:=nm_pos hY (by omega)
 by_cases hone:n1=1∧n2=1
 ·exact .inl ⟨hone.1,hone.2,ha_ef o1 n1 c1 o2 n2 c2 tn tm _ _ hone.1 hone.2 (uu_flat _) (uu_flat _)⟩
 by_cases hlt:vx < vy
 ·have hb:=below_spec hX hY hn1
  rw [decide_eq_true hlt] at hb
  obtain ⟨L',k,k1,k2,k3,k4⟩:=minus_spec hY hX hn2 (Nat.le_of_lt hlt)
  have kp:=nm_pos k3 (by omega)
  have kv:=k3.2.2.2.1
  obtain ⟨t,t1,t2,t3⟩:=evens_spec o2 k c2 true L' k3.1 (by omega) k3.2.1 (by omega)
  rw [kv] at t2
  obtain ⟨W,o',n',c',w1,w2,w3,w4⟩:=right_spec k3 (by omega) t1
  obtain ⟨q1,q2⟩:=tz_odd t2
  have hg:Nat.gcd ((vy - vx)/2^t) vx=Nat.gcd vx vy:=by
   rw [← odd_gcd q2 ox,Nat.gcd_sub_self_left (Nat.le_of_lt hlt),Nat.gcd_comm]
  have hle:(vy - vx)/2^t≤vy - vx:=Nat.div_le_self _ _
  refine .inr (.inr ⟨true,W,o',n',c',_,LX,o1,n1,c1,vx,w3,hX,by omega,by omega,q1,ox,hg,by omega,?_⟩)
  by_cases h1:1 < n1
  ·exact ha_sAf o1 n1 c1 o2 n2 c2 tn tm _ _ (L'.map uu) _ k t o' n' c' h1 kp (uu_flat _) (uu_flat _) (uu_flat _) (uu_flat _) (FSpec.embed [0,1] hb (by kernel_rfl) (by kernel_rfl) ⟨uu_flat _,uu_flat _,trivial⟩ ⟨uu_flat _,uu_flat _,trivial⟩) (FSpec.embed [1,0] k4 (by kernel_rfl) (by kernel_rfl) ⟨uu_flat _,uu_flat _,trivial⟩ ⟨uu_flat _,uu_flat _,trivial⟩) (FSpec.embed [1] t3 (by kernel_rfl) (by kernel_rfl) (uflat _ _) (uflat _ _)) (FSpec.embed [1] w4 (by kernel_rfl) (by kernel_rfl) (uflat _ _) (uflat _ _))
  exact ha_sBf o1 n1 c1 o2 n2 c2 tn tm _ _ (L'.map uu) _ k t o' n' c' (by omega) (by omega) kp (uu_flat _) (uu_flat _) (uu_flat _) (uu_flat _) (FSpec.embed [0,1] hb (by kernel_rfl) (by kernel_rfl) ⟨uu_flat _,uu_flat _,trivial⟩ ⟨uu_flat _,uu_flat _,trivial⟩) (FSpec.embed [1,0] k4 (by kernel_rfl) (by kernel_rfl) ⟨uu_flat _,uu_flat _,trivial⟩ ⟨uu_flat _,uu_flat _,trivial⟩) (FSpec.embed [1] t3 (by kernel_rfl) (by kernel_rfl) (uflat _ _) (uflat _ _)) (FSpec.embed [1] w4 (by kernel_rfl) (by kernel_rfl) (uflat _ _) (uflat _ _))
 have hb:=below_spec hX hY hn1
 rw [decide_eq_false hlt] at hb
 have hnn:n2≤n1:=by
  rcases Nat.lt_or_ge n1 n2 with h | h
  ·have:=nm_len_lt hX hY h
   omega
  exact h
 have h1:1 < n1:=by omega
 obtain ⟨L',k,k1,k2,k3,k4⟩:=minus_spec hX hY hn1 (by omega)
 by_cases heq:vx=vy
 ·have kz:k=0:=nm_zero (by rw [heq,Nat.sub_self] at k3; exact k3)
  subst kz
  exact .inr (.inl ⟨heq,L',ha_zf o1 n1 c1 o2 n2 c2 tn tm _ _ (L'.map uu) h1 (uu_flat _) (uu_flat _) (uu_flat _) (FSpec.embed [0,1] hb (by kernel_rfl) (by kernel_rfl) ⟨uu_flat _,uu_flat _,trivial⟩ ⟨uu_flat _,uu_flat _,trivial⟩) (FSpec.embed [0,1] k4 (by kernel_rfl) (by kernel_rfl) ⟨uu_flat _,uu_flat _,trivial⟩ ⟨uu_flat _,uu_flat _,trivial⟩)⟩)
 have kp:=nm_pos k3 (by omega)
 have kv:=k3.2.2.2.1
 obtain ⟨t,t1,t2,t3⟩:=evens_spec o1 k c1 true L' k3.1 (by omega) k3.2.1 (by omega)
 rw [kv] at t2
 obtain ⟨W,o',n',c',w1,w2,w3,w4⟩:=right_spec k3 (by omega) t1
 obtain ⟨q1,q2⟩:=tz_odd t2
 have hg:Nat.gcd ((vx - vy)/2^t) vy=Nat.gcd vx vy:=by
  rw [← odd_gcd q2 oy,Nat.gcd_sub_self_left (by omega)]
 have hle:(vx - vy)/2^t≤vx - vy:=Nat.div_le_self _ _
 refine .inr (.inr ⟨false,W,o',n',c',_,LY,o2,n2,c2,vy,w3,hY,by omega,by omega,q1,oy,hg,by omega,?_⟩)
 exact ha_nf o1 n1 c1 o2 n2 c2 tn tm _ _ (L'.map uu) _ k t o' n' c' h1 kp (uu_flat _) (uu_flat _) (uu_flat _) (uu_flat _) (FSpec.embed [0,1] hb (by kernel_rfl) (by kernel_rfl) ⟨uu_flat _,uu_flat _,trivial⟩ ⟨uu_flat _,uu_flat _,trivial⟩) (FSpec.embed [0,1] k4 (by kernel_rfl) (by kernel_rfl) ⟨uu_flat _,uu_flat _,trivial⟩ ⟨uu_flat _,uu_flat _,trivial⟩) (FSpec.embed [0] t3 (by kernel_rfl) (by kernel_rfl) (uflat _ _) (uflat _ _)) (FSpec.embed [0] w4 (by kernel_rfl) (by kernel_rfl) (uflat _ _) (uflat _ _))
theorem ha_stept {LX LY:List Nat} {o1 n1 c1 vx o2 n2 c2 vy:Nat} (tn tm:Nat) (hX:Nm LX o1 n1 c1 vx) (hY:Nm LY o2 n2 c2 vy) (hn1:n1 < 1125899906842624) (hn2:n2 < 1125899906842624) (ox:vx%2=1) (oy:vy%2=1):StepR true LX LY o1 n1 c1 vx o2 n2 c2 vy tn tm:=by
 have p1:=nm_pos hX (by omega)
 have p2:=nm_pos hY (by omega)
 by_cases hone:n1=1∧n2=1
 ·exact .inl ⟨hone.1,hone.2,ha_et o1 n1 c1 o2 n2 c2 tn tm _ _ hone.1 hone.2 (uu_flat _) (uu_flat _)⟩
 by_cases hlt:vx < vy
 ·have hb:=below_spec hX hY hn1
  rw [decide_eq_true hlt] at hb
  obtain ⟨L',k,k1,k2,k3,k4⟩:=minus_spec hY hX hn2 (Nat.le_of_lt hlt)
  have kp:=nm_pos k3 (by omega)
  have kv:=k3.2.2.2.1
  obtain ⟨t,t1,t2,t3⟩:=evens_spec o2 k c2 true L' k3.1 (by omega) k3.2.1 (by omega)
  rw [kv] at t2
  obtain ⟨W,o',n',c',w1,w2,w3,w4⟩:=right_spec k3 (by omega) t1
  obtain ⟨q1,q2⟩:=tz_odd t2
  have hg:Nat.gcd ((vy - vx)/2^t) vx=Nat.gcd vx vy:=by
   rw [← odd_gcd q2 ox,Nat.gcd_sub_self_left (Nat.le_of_lt hlt),Nat.gcd_comm]
  have hle:(vy - vx)/2^t≤vy - vx:=Nat.div_le_self _ _
  refine .inr (.inr ⟨false,W,o',n',c',_,LX,o1,n1,c1,vx,w3,hX,by omega,by omega,q1,ox,hg,by omega,?_⟩)
  by_cases h1:1 < n1
  ·exact ha_sAt o1 n1 c1 o2 n2 c2 tn tm _ _ (L'.map uu) _ k t o' n' c' h1 kp (uu_flat _) (uu_flat _) (uu_flat _) (uu_flat _) (FSpec.embed [1,0] hb (by kernel_rfl) (by kernel_rfl) ⟨uu_flat _,uu_flat _,trivial⟩ ⟨uu_flat _,uu_flat _,trivial⟩) (FSpec.embed [0,1] k4 (by kernel_rfl) (by kernel_rfl) ⟨uu_flat _,uu_flat _,trivial⟩ ⟨uu_flat _,uu_flat _,trivial⟩) (FSpec.embed [0] t3 (by kernel_rfl) (by kernel_rfl) (uflat _ _) (uflat _ _)) (FSpec.embed [0] w4 (by kernel_rfl) (by kernel_rfl) (uflat _ _) (uflat _ _))
  exact ha_sBt o1 n1 c1 o2 n2 c2 tn tm _ _ (L'.map uu) _ k t o' n' c' (by omega) (by omega) kp (uu_flat _) (uu_flat _) (uu_flat _) (uu_flat _) (FSpec.embed [1,0] hb (by kernel_rfl) (by kernel_rfl) ⟨uu_flat _,uu_flat _,trivial⟩ ⟨uu_flat _,uu_flat _,trivial⟩) (FSpec.embed [0,1] k4 (by kernel_rfl) (by kernel_rfl) ⟨uu_flat _,uu_flat _,trivial⟩ ⟨uu_flat _,uu_flat _,trivial⟩) (FSpec.embed [0] t3 (by kernel_rfl) (by kernel_rfl) (uflat _ _) (uflat _ _)) (FSpec.embed [0] w4 (by kernel_rfl) (by kernel_rfl) (uflat _ _) (uflat _ _))
 have hb:=below_spec hX hY hn1
 rw [decide_eq_false hlt] at hb
 have hnn:n2≤n1:=by
  rcases Nat.lt_or_ge n1 n2 with h | h
  ·have:=nm_len_lt hX hY h
   omega
  exact h
 have h1:1 < n1:=by omega
 obtain ⟨L',k,k1,k2,k3,k4⟩:=minus_spec hX hY hn1 (by omega)
 by_cases heq:vx=vy
 ·have kz:k=0:=nm_zero (by rw [heq,Nat.sub_self] at k3; exact k3)
  subst kz
  exact .inr (.inl ⟨heq,L',ha_zt o1 n1 c1 o2 n2 c2 tn tm _ _ (L'.map uu) h1 (uu_flat _) (uu_flat _) (uu_flat _) (FSpec.embed [1,0] hb (by kernel_rfl) (by kernel_rfl) ⟨uu_flat _,uu_flat _,trivial⟩ ⟨uu_flat _,uu_flat _,trivial⟩) (FSpec.embed [1,0] k4 (by kernel_rfl) (by kernel_rfl) ⟨uu_flat _,uu_flat _,trivial⟩ ⟨uu_flat _,uu_flat _,trivial⟩)⟩)
 have kp:=nm_pos k3 (by omega)
 have kv:=k3.2.2.2.1
 obtain ⟨t,t1,t2,t3⟩:=evens_spec o1 k c1 true L' k3.1 (by omega) k3.2.1 (by omega)
 rw [kv] at t2
 obtain ⟨W,o',n',c',w1,w2,w3,w4⟩:=right_spec k3 (by omega) t1
 obtain ⟨q1,q2⟩:=tz_odd t2
 have hg:Nat.gcd ((vx - vy)/2^t) vy=Nat.gcd vx vy:=by
  rw [← odd_gcd q2 oy,Nat.gcd_sub_self_left (by omega)]
 have hle:(vx - vy)/2^t≤vx - vy:=Nat.div_le_self _ _
 refine .inr (.inr ⟨true,W,o',n',c',_,LY,o2,n2,c2,vy,w3,hY,by omega,by omega,q1,oy,hg,by omega,?_⟩)
 exact ha_nt o1 n1 c1 o2 n2 c2 tn tm _ _ (L'.map uu) _ k t o' n' c' h1 kp (uu_flat _) (uu_flat _) (uu_flat _) (uu_flat _) (FSpec.embed [1,0] hb (by kernel_rfl) (by kernel_rfl) ⟨uu_flat _,uu_flat _,trivial⟩ ⟨uu_flat _,uu_flat _,trivial⟩) (FSpec.embed [1,0] k4 (by kernel_rfl) (by kernel_rfl) ⟨uu_flat _,uu_flat _,trivial⟩ ⟨uu_flat _,uu_flat _,trivial⟩) (FSpec.embed [1] t3 (by kernel_rfl) (by kernel_rfl) (uflat _ _) (uflat _ _)) (FSpec.embed [1] w4 (by kernel_rfl) (by kernel_rfl) (uflat _ _) (uflat _ _))
theorem ha_loop (tn tm N:Nat) (hN:N < 1125899906842624):∀ (fuel:Nat) (sh:Bool) (LX LY:List Nat) (o1 n1 c1 vx o2 n2 c2 vy:Nat),vx+vy < fuel→Nm LX o1 n1 c1 vx→Nm LY o2 n2 c2 vy→n1≤N→n2≤N→vx%2=1→vy%2=1 →
 ∃ sh' LX' o1' n1' c1' LY' o2' n2' c2' vy',Nm LY' o2' n2' c2' vy' ∧ n2' ≤ N ∧
   Rounds Tryd.prog (loopOf Tryd.f82 0) 0 (hS sh o1 n1 c1 o2 n2 c2 tn tm (LX.map uu) (LY.map uu)) .normal (hS sh' o1' n1' c1' o2' n2' c2' tn tm (LX'.map uu) (LY'.map uu)) ∧
   ((n1' = 1∧n2' = 1 ∧ ∃ vx',Nm LX' o1' n1' c1' vx' ∧ Nat.gcd vx' vy' = Nat.gcd vx vy)∨(n1' = 0∧vy' = Nat.gcd vx vy))
 | 0,_,_,_,_,_,_,_,_,_,_,_,h,_,_,_,_,_,_=>by omega
 | fuel+1,sh,LX,LY,o1,n1,c1,vx,o2,n2,c2,vy,hf,hX,hY,h1,h2,ox,oy=>by
   have key:StepR sh LX LY o1 n1 c1 vx o2 n2 c2 vy tn tm:=by
    cases sh with
    | false=>exact ha_stepf tn tm hX hY (by omega) (by omega) ox oy
    | true=>exact ha_stept tn tm hX hY (by omega) (by omega) ox oy
   rcases key with ⟨e1,e2,h⟩ | ⟨heq,LZ,h⟩ | ⟨sh',LX',o1',n1',c1',vx',LY',o2',n2',c2',vy',x1,x2,x3,x4,x5,x6,x7,x8,h⟩
   ·exact ⟨sh,LX,o1,n1,c1,LY,o2,n2,c2,vy,hY,h2,.stop h,.inl ⟨e1,e2,vx,hX,rfl⟩⟩
   ·exact ⟨sh,LZ,o1,0,c1,LY,o2,n2,c2,vy,hY,h2,.stop h,.inr ⟨rfl,by rw [heq,Nat.gcd_self]⟩⟩
   obtain ⟨sa,A,a1,a2,a3,Bq,b1,b2,b3,vb,y1,y2,y3,y4⟩:=ha_loop tn tm N hN fuel sh' LX' LY' o1' n1' c1' vx' o2' n2' c2' vy' (by omega) x1 x2 (by omega) (by omega) x5 x6
   refine ⟨sa,A,a1,a2,a3,Bq,b1,b2,b3,vb,y1,y2,.step h y3,?_⟩
   rw [x7] at y4
   exact y4
def by8 (w k:Nat):Nat:=w/2^(56 - 8*k)%256
def nb:List Nat→Nat
 | []=>0
 | x::r=>x*256^r.length+nb r
theorem nb_append:∀ (A Q:List Nat),nb (A++Q)=nb A*256^Q.length+nb Q
 | [],Q=>by simp [nb]
 | x::r,Q=>by
   rw [List.cons_append,nb,nb,nb_append r Q,List.length_append,Nat.pow_add,Nat.add_mul,Nat.mul_assoc,Nat.add_assoc]
theorem nb_zeros:∀ n,nb (List.replicate n 0)=0
 | 0=>rfl
 | n+1=>by rw [List.replicate_succ,nb,nb_zeros n,Nat.zero_mul]
theorem nb_by8 {w:Nat} (h:w < 18446744073709551616):nb ((List.range' 0 8).map (by8 w))=w:=by
 simp only [List.range',List.map_cons,List.map_nil,nb,by8,List.length_cons,List.length_nil]
 omega
theorem bv_nb:∀ l:List Nat,M.bv (l.map fun x:Nat=>(x:Int))=(nb l:Int)
 | []=>rfl
 | x::r=>by
   have h:=M.bv_append [(x:Int)] (r.map fun x:Nat=>(x:Int))
   rw [List.singleton_append] at h
   rw [List.map_cons,h,bv_nb r,nb,List.length_map]
   have:M.bv [(x:Int)]=x:=by simp [M.bv,M.lv]
   rw [this]
   push_cast
   rw [Int.mul_comm,Int.add_comm]
theorem V_str {l:List Nat} (h:∀ x∈l,x < 256):M.V (strOfNums (l.map fun x:Nat=>(x:Int)))=nb l:=by
 have h1:=M.V_strOfNums (xs:=l.map fun x:Nat=>(x:Int)) fun x hx=>by
  obtain ⟨y,hy,rfl⟩:=List.mem_map.1 hx
  have:=h y hy
  omega
 rw [bv_nb] at h1
 exact_mod_cast h1
def tb (L:List Nat) (o:Nat):Nat→List Nat
 | 0=>[]
 | i+1=>(List.range' 0 8).map (by8 (L.getD (o+i) 0))++tb L o i
theorem tb_len (L:List Nat) (o:Nat):∀ i,(tb L o i).length=8*i
 | 0=>rfl
 | i+1=>by simp [tb,tb_len L o i]; omega
theorem tb_lt (L:List Nat) (o:Nat):∀ i,∀ x∈tb L o i,x < 256
 | 0=>fun x h=>by simp [tb] at h
 | i+1=>fun x h=>by
   rw [tb,List.mem_append] at h
   rcases h with h | h
   ·obtain ⟨k,_,rfl⟩:=List.mem_map.1 h
    exact Nat.mod_lt _ (by decide)
   exact tb_lt L o i x h
theorem tb_val {L:List Nat} {o:Nat} (hw:Wd L):∀ {i},o+i≤L.length→nb (tb L o i)=lw (win L o i)
 | 0,_=>by simp [tb,nb,win,lw]
 | i+1,h=>by
   rw [tb,nb_append,nb_by8 (getD_lt hw (by omega)),tb_len,tb_val hw (by omega),win_succ (by omega),lw_append,win_len (by omega)]
   have:lw [L.getD (o+i) 0]=L.getD (o+i) 0:=by simp [lw]
   rw [this,Nat.pow_mul,show (256:Nat)^8=18446744073709551616 by decide,Nat.mul_comm,Nat.add_comm]
theorem ub_flat (L:List Nat):∀ v:V,v∈L.map ub→v.id? = none:=fun v hv=>by
 obtain ⟨x,_,rfl⟩:=List.mem_map.1 hv
 rfl
theorem ub_set {pre post:List Nat} {x v:Nat} {k:Nat} (h:pre.length=k):((pre++x::post).map ub).set k (ub v)=(pre++v::post).map ub:=by
 subst h
 rw [← List.map_set,List.set_append_right _ _ (Nat.le_refl _)]
 simp
theorem h4_loopf (o n c tn tm:Nat) (LX LY post:List Nat) (i w:Nat) (hn:n < 1125899906842624) (hi:i < n):∀ (r k:Nat) (pre:List Nat),k+r=8→pre.length=8*(n - 1 - i)+k→pre.length+r+post.length=8*n →
 Rounds Tryd.prog (loopOf Tryd.f82 4) 4 (g4f o n c tn tm (LX.map uu) (LY.map uu) ((pre++(List.replicate r 0++post)).map ub) i w k) .normal (g4f o n c tn tm (LX.map uu) (LY.map uu) ((pre++((List.range' k r).map (by8 w)++post)).map ub) i w 8)
 | 0,k,pre,hk,hp,hl=>by
   have:k=8:=by omega
   subst this
   exact .stop (h4_endf o n c tn tm _ _ _ i w (uu_flat LX) (uu_flat LY) (ub_flat _))
 | r+1,k,pre,hk,hp,hl=>by
   have h:=h4_gof o n c tn tm _ _ ((pre++(List.replicate (r+1) 0++post)).map ub) i w k (uu_flat LX) (uu_flat LY) (ub_flat _) hn hi (by omega) (by simp; omega)
   rw [List.replicate_succ,List.cons_append,ub_set hp,show w/2^(56 - 8*k)%256=by8 w k from rfl] at h
   have ih:=h4_loopf o n c tn tm LX LY post i w hn hi r (k+1) (pre++[by8 w k]) (by omega) (by simp; omega) (by simp; omega)
   rw [List.replicate_succ,List.cons_append,List.range'_succ,List.map_cons,List.cons_append]
   refine .step h ?_
   simpa using ih
theorem h2_loopf (o n c tn tm:Nat) (LX LY:List Nat) (hn:n < 1125899906842624) (hl:o+n≤LY.length):∀ (r i:Nat),r+i=n →
 Rounds Tryd.prog (loopOf Tryd.f82 2) 2 (g2f o n c tn tm (LX.map uu) (LY.map uu) ((List.replicate (8*r) 0++tb LY o i).map ub) i) .normal (g2f o n c tn tm (LX.map uu) (LY.map uu) ((tb LY o n).map ub) n)
 | 0,i,h=>by
   have:i=n:=by omega
   subst this
   exact .stop (h2_endf o i c tn tm _ _ _ (uu_flat LX) (uu_flat LY) (ub_flat _))
 | r+1,i,h=>by
   have h4:=h4_loopf o n c tn tm LX LY (tb LY o i) i (LY.getD (o+i) 0) hn (by omega) 8 0 (List.replicate (8*r) 0) (by omega) (by simp; omega) (by rw [tb_len]; simp; omega)
   have hs:=h2_gof o n c tn tm _ _ _ _ i (LY.getD (o+i) 0) (uu_flat LX) (uu_flat LY) (ub_flat _) (ub_flat _) hn (by omega) (uget (by omega)) h4.spec
   rw [show List.replicate (8*(r+1)) 0=List.replicate (8*r) 0++List.replicate 8 0 by rw [List.replicate_append_replicate]; rfl,List.append_assoc]
   exact .step hs (h2_loopf o n c tn tm LX LY hn hl r (i+1) (by omega))
theorem h4_loopt (o n c tn tm:Nat) (LX LY post:List Nat) (i w:Nat) (hn:n < 1125899906842624) (hi:i < n):∀ (r k:Nat) (pre:List Nat),k+r=8→pre.length=8*(n - 1 - i)+k→pre.length+r+post.length=8*n →
 Rounds Tryd.prog (loopOf Tryd.f82 4) 4 (g4t o n c tn tm (LX.map uu) (LY.map uu) ((pre++(List.replicate r 0++post)).map ub) i w k) .normal (g4t o n c tn tm (LX.map uu) (LY.map uu) ((pre++((List.range' k r).map (by8 w)++post)).map ub) i w 8)
 | 0,k,pre,hk,hp,hl=>by
   have:k=8:=by omega
   subst this
   exact .stop (h4_endt o n c tn tm _ _ _ i w (uu_flat LX) (uu_flat LY) (ub_flat _))
 | r+1,k,pre,hk,hp,hl=>by
   have h:=h4_got o n c tn tm _ _ ((pre++(List.replicate (r+1) 0++post)).map ub) i w k (uu_flat LX) (uu_flat LY) (ub_flat _) hn hi (by omega) (by simp; omega)
   rw [List.replicate_succ,List.cons_append,ub_set hp,show w/2^(56 - 8*k)%256=by8 w k from rfl] at h
   have ih:=h4_loopt o n c tn tm LX LY post i w hn hi r (k+1) (pre++[by8 w k]) (by omega) (by simp; omega) (by simp; omega)
   rw [List.replicate_succ,List.cons_append,List.range'_succ,List.map_cons,List.cons_append]
   refine .step h ?_
   simpa using ih
theorem h2_loopt (o n c tn tm:Nat) (LX LY:List Nat) (hn:n < 1125899906842624) (hl:o+n≤LY.length):∀ (r i:Nat),r+i=n →
 Rounds Tryd.prog (loopOf Tryd.f82 2) 2 (g2t o n c tn tm (LX.map uu) (LY.map uu) ((List.replicate (8*r) 0++tb LY o i).map ub) i) .normal (g2t o n c tn tm (LX.map uu) (LY.map uu) ((tb LY o n).map ub) n)
 | 0,i,h=>by
   have:i=n:=by omega
   subst this
   exact .stop (h2_endt o i c tn tm _ _ _ (uu_flat LX) (uu_flat LY) (ub_flat _))
 | r+1,i,h=>by
   have h4:=h4_loopt o n c tn tm LX LY (tb LY o i) i (LY.getD (o+i) 0) hn (by omega) 8 0 (List.replicate (8*r) 0) (by omega) (by simp; omega) (by rw [tb_len]; simp; omega)
   have hs:=h2_got o n c tn tm _ _ _ _ i (LY.getD (o+i) 0) (uu_flat LX) (uu_flat LY) (ub_flat _) (ub_flat _) hn (by omega) (uget (by omega)) h4.spec
   rw [show List.replicate (8*(r+1)) 0=List.replicate (8*r) 0++List.replicate 8 0 by rw [List.replicate_append_replicate]; rfl,List.append_assoc]
   exact .step hs (h2_loopt o n c tn tm LX LY hn hl r (i+1) (by omega))
theorem ha_finf (a b:ByteArray) (N1 N2 tn tm p1 q1 r1 p2 q2 r2 o1 n1 c1 o2 n2 c2 vy G:Nat) (A Bq A' B' LX LY:List Nat)
 (hl1:FSpec Tryd.prog 87 [.c (.string a)] [] (.sl 0 0 N1 N1) [some ⟨true,A.map uu⟩]) (hl2:FSpec Tryd.prog 87 [.c (.string b)] [] (.sl 0 0 N2 N2) [some ⟨true,Bq.map uu⟩])
 (he1:FSpec Tryd.prog 88 [.sl 0 0 N1 N1] [some ⟨true,A.map uu⟩] (.c (.int .i64 (tn:Nat))) [some ⟨true,A.map uu⟩]) (he2:FSpec Tryd.prog 88 [.sl 0 0 N2 N2] [some ⟨true,Bq.map uu⟩] (.c (.int .i64 (tm:Nat))) [some ⟨true,Bq.map uu⟩])
 (hr1:FSpec Tryd.prog 89 [.sl 0 0 N1 N1,.c (.int .i64 (tn:Nat))] [some ⟨true,A.map uu⟩] (.sl 0 p1 q1 r1) [some ⟨true,A'.map uu⟩]) (hr2:FSpec Tryd.prog 89 [.sl 0 0 N2 N2,.c (.int .i64 (tm:Nat))] [some ⟨true,Bq.map uu⟩] (.sl 0 p2 q2 r2) [some ⟨true,B'.map uu⟩])
 (h0:Rounds Tryd.prog (loopOf Tryd.f82 0) 0 (hSf p1 q1 r1 p2 q2 r2 tn tm (A'.map uu) (B'.map uu)) .normal (hSf o1 n1 c1 o2 n2 c2 tn tm (LX.map uu) (LY.map uu)))
 (hY:Nm LY o2 n2 c2 vy) (hn:n2 < 100000000000) (htn:tn < 1000000000000) (hcase:(n1=1∧n2=1 ∧ ∃ vx,Nm LX o1 n1 c1 vx∧Nat.gcd vx vy=G)∨(n1=0∧vy=G)) :
 CSpec Tryd.prog 82 #[.string a,.string b] (.string (M.B (G*2^min tn tm))):=by
 have hmn:min tn tm=8*(min tn tm/8)+min tn tm%8:=by omega
 have hr8:min tn tm%8 < 8:=Nat.mod_lt _ (by decide)
 have hl2':=FSpec.embed (M:=[some ⟨true,A.map uu⟩]) (M':=[some ⟨true,A.map uu⟩,some ⟨true,Bq.map uu⟩]) [] hl2 (by kernel_rfl) (by kernel_rfl) trivial (uflat _ _)
 have he1':=FSpec.embed (M:=[some ⟨true,A.map uu⟩,some ⟨true,Bq.map uu⟩]) (M':=[some ⟨true,A.map uu⟩,some ⟨true,Bq.map uu⟩]) [0] he1 (by kernel_rfl) (by kernel_rfl) (uflat _ _) (uflat _ _)
 have he2':=FSpec.embed (M:=[some ⟨true,A.map uu⟩,some ⟨true,Bq.map uu⟩]) (M':=[some ⟨true,A.map uu⟩,some ⟨true,Bq.map uu⟩]) [1] he2 (by kernel_rfl) (by kernel_rfl) (uflat _ _) (uflat _ _)
 have hr1':=FSpec.embed (M:=[some ⟨true,A.map uu⟩,some ⟨true,Bq.map uu⟩]) (M':=[some ⟨true,A'.map uu⟩,some ⟨true,Bq.map uu⟩]) [0] hr1 (by kernel_rfl) (by kernel_rfl) (uflat _ _) (uflat _ _)
 have hr2':=FSpec.embed (M:=[some ⟨true,A'.map uu⟩,some ⟨true,Bq.map uu⟩]) (M':=[some ⟨true,A'.map uu⟩,some ⟨true,B'.map uu⟩]) [1] hr2 (by kernel_rfl) (by kernel_rfl) (uflat _ _) (uflat _ _)
 have hs2:∃ xs:List Int,strOfNums ((2^(min tn tm%8)::List.replicate (min tn tm/8) 0).map fun x:Nat=>(x:Int))=strOfNums xs∧xs.length=min tn tm/8+1∧(((List.replicate (min tn tm/8+1) (V.c (.int .u8 0))).set 0 (ub (2^(min tn tm%8)))).drop 0).take (min tn tm/8+1)=xs.map fun n=>.c (.int .u8 n):=by
  refine ⟨_,rfl,by simp,?_⟩
  rw [List.replicate_succ,List.set_cons_zero,List.drop_zero,List.take_of_length_le (by simp)]
  simp [ub,List.map_replicate]
 have hp8:2^(min tn tm%8) < 256:=Nat.pow_lt_pow_right (n:=8) (by decide) hr8
 have v2:M.V (strOfNums ((2^(min tn tm%8)::List.replicate (min tn tm/8) 0).map fun x:Nat=>(x:Int)))=2^min tn tm:=by
  rw [V_str (fun x hx=>by
   rcases List.mem_cons.1 hx with rfl | hx
   ·exact hp8
   rw [List.eq_of_mem_replicate hx]; decide),nb,nb_zeros,List.length_replicate,Nat.add_zero,show (256:Nat)=2^8 by decide,← Nat.pow_mul,← Nat.pow_add]
  congr 1
  omega
 have z2:(strOfNums ((2^(min tn tm%8)::List.replicate (min tn tm/8) 0).map fun x:Nat=>(x:Int))).size=min tn tm/8+1:=by
  rw [strOfNums_size]; simp
 have fin : ∀ (Y : List Nat) (o n c : Nat), Wd Y → o + n ≤ Y.length → lw (win Y o n) = G → n < 100000000000 → ∃ s1, (∃ xs : List Int, s1 = strOfNums xs ∧ xs.length = 8 * n ∧ (((tb Y o n).map ub).drop 0).take (8 * n) = xs.map fun n => .c (.int .u8 n)) ∧
  CSpec Tryd.prog 52 #[.string s1,.string (strOfNums ((2^(min tn tm%8)::List.replicate (min tn tm/8) 0).map fun x:Nat=>(x:Int)))] (.string (M.B (G*2^min tn tm))):=by
  intro Y o n c hw hl hv hn
  refine ⟨strOfNums ((tb Y o n).map fun x:Nat=>(x:Int)),⟨_,rfl,by simp [tb_len],?_⟩,?_⟩
  ·rw [List.drop_zero,List.take_of_length_le (by simp [tb_len]),List.map_map]
   rfl
  have h:=mul_c (strOfNums ((tb Y o n).map fun x:Nat=>(x:Int))) (strOfNums ((2^(min tn tm%8)::List.replicate (min tn tm/8) 0).map fun x:Nat=>(x:Int))) (by rw [strOfNums_size]; simp [tb_len]; omega) (by rw [z2]; omega)
  rw [v2,V_str (tb_lt Y o n),tb_val hw hl,hv] at h
  exact h
 have hrep:∀ n,(List.replicate (8*n) 0).map ub=List.replicate (8*n) (V.c (.int .u8 0)):=fun n=>by
  rw [List.map_replicate]; rfl
 rcases hcase with ⟨e1,e2,vx,hX,hg⟩ | ⟨e1,hg⟩
 ·have w1:=hX.2.2.2.1
  have w2:=hY.2.2.2.1
  have l1:=hX.2.1
  have l2:=hY.2.1
  subst e1 e2
  have x1:LX.getD o1 0=vx:=by
   rw [win_cons (by omega) (by omega)] at w1
   simpa [win,lw] using w1
  have y1:LY.getD o2 0=vy:=by
   rw [win_cons (by omega) (by omega)] at w2
   simpa [win,lw] using w2
  have hx64:vx < 18446744073709551616:=by rw [← x1]; exact getD_lt hX.1 (by omega)
  have hpos:0 < vx:=by
   rcases hX.2.2.2.2 with h | h
   ·omega
   rw [Nat.sub_self,Nat.pow_zero] at h
   omega
  have hG:G < 18446744073709551616:=by
   have:=Nat.gcd_le_left vy hpos
   omega
  have hset:(LY.map uu).set o2 (uu G)=(LY.set o2 G).map uu:=by rw [List.map_set]
  have hw':Wd (LY.set o2 G):=wd_set hY.1 hG
  have hl':o2+1≤(LY.set o2 G).length:=by simpa using l2
  have hv':lw (win (LY.set o2 G) o2 1)=G:=by
   have:(LY.set o2 G).getD o2 0=G:=by
    rw [List.getD_eq_getElem?_getD,List.getElem?_set_self (by omega)]; rfl
   rw [win_cons (by omega) (by omega),lw,this,Nat.sub_self]
   simp [win,lw]
  obtain ⟨s1,k1,k2⟩:=fin (LY.set o2 G) o2 1 c2 hw' hl' hv' (by omega)
  have h2:=h2_loopf o2 1 c2 tn tm LX (LY.set o2 G) (by omega) hl' 1 0 (by omega)
  simp only [tb,List.append_nil] at h2
  rw [hrep] at h2
  have hgc:=common_c vx vy
  rw [hg] at hgc
  exact cspec_of (ha_fnof a b s1 _ _ N1 N2 tn tm p1 q1 r1 p2 q2 r2 o1 1 c1 o2 1 c2 (min tn tm/8) (min tn tm%8) _ vx vy G _ _ _ _ _ _ _ (uu_flat A) (uu_flat Bq) (uu_flat A') (uu_flat B') (uu_flat LX) (uu_flat LY) (ub_flat _)
   hl1 hl2' he1' he2' hr1' hr2' h0.spec (by omega) (by omega) hr8 rfl hmn rfl rfl (by rw [← x1]; exact uget (by omega)) (by rw [← y1]; exact uget (by omega)) hgc (by rw [hset]; exact h2.spec) k1 hs2 k2)
 subst e1
 obtain ⟨s1,k1,k2⟩:=fin LY o2 n2 c2 hY.1 hY.2.1 (by rw [← hg]; exact hY.2.2.2.1) hn
 have h2:=h2_loopf o2 n2 c2 tn tm LX LY (by omega) hY.2.1 n2 0 (by omega)
 simp only [tb,List.append_nil] at h2
 rw [hrep] at h2
 exact cspec_of (ha_fnbf a b s1 _ _ N1 N2 tn tm p1 q1 r1 p2 q2 r2 o1 0 c1 o2 n2 c2 (min tn tm/8) (min tn tm%8) _ _ _ _ _ _ _ _ (uu_flat A) (uu_flat Bq) (uu_flat A') (uu_flat B') (uu_flat LX) (uu_flat LY) (ub_flat _)
  hl1 hl2' he1' he2' hr1' hr2' h0.spec (by omega) (by omega) hr8 rfl hmn rfl h2.spec k1 hs2 k2)
theorem ha_fint (a b:ByteArray) (N1 N2 tn tm p1 q1 r1 p2 q2 r2 o1 n1 c1 o2 n2 c2 vy G:Nat) (A Bq A' B' LX LY:List Nat)
 (hl1:FSpec Tryd.prog 87 [.c (.string a)] [] (.sl 0 0 N1 N1) [some ⟨true,A.map uu⟩]) (hl2:FSpec Tryd.prog 87 [.c (.string b)] [] (.sl 0 0 N2 N2) [some ⟨true,Bq.map uu⟩])
 (he1:FSpec Tryd.prog 88 [.sl 0 0 N1 N1] [some ⟨true,A.map uu⟩] (.c (.int .i64 (tn:Nat))) [some ⟨true,A.map uu⟩]) (he2:FSpec Tryd.prog 88 [.sl 0 0 N2 N2] [some ⟨true,Bq.map uu⟩] (.c (.int .i64 (tm:Nat))) [some ⟨true,Bq.map uu⟩])
 (hr1:FSpec Tryd.prog 89 [.sl 0 0 N1 N1,.c (.int .i64 (tn:Nat))] [some ⟨true,A.map uu⟩] (.sl 0 p1 q1 r1) [some ⟨true,A'.map uu⟩]) (hr2:FSpec Tryd.prog 89 [.sl 0 0 N2 N2,.c (.int .i64 (tm:Nat))] [some ⟨true,Bq.map uu⟩] (.sl 0 p2 q2 r2) [some ⟨true,B'.map uu⟩])
 (h0:Rounds Tryd.prog (loopOf Tryd.f82 0) 0 (hSf p1 q1 r1 p2 q2 r2 tn tm (A'.map uu) (B'.map uu)) .normal (hSt o1 n1 c1 o2 n2 c2 tn tm (LX.map uu) (LY.map uu)))
 (hY:Nm LY o2 n2 c2 vy) (hn:n2 < 100000000000) (htn:tn < 1000000000000) (hcase:(n1=1∧n2=1 ∧ ∃ vx,Nm LX o1 n1 c1 vx∧Nat.gcd vx vy=G)∨(n1=0∧vy=G)) :
 CSpec Tryd.prog 82 #[.string a,.string b] (.string (M.B (G*2^min tn tm))):=by
 have hmn:min tn tm=8*(min tn tm/8)+min tn tm%8:=by omega
 have hr8:min tn tm%8 < 8:=Nat.mod_lt _ (by decide)
 have hl2':=FSpec.embed (M:=[some ⟨true,A.map uu⟩]) (M':=[some ⟨true,A.map uu⟩,some ⟨true,Bq.map uu⟩]) [] hl2 (by kernel_rfl) (by kernel_rfl) trivial (uflat _ _)
 have he1':=FSpec.embed (M:=[some ⟨true,A.map uu⟩,some ⟨true,Bq.map uu⟩]) (M':=[some ⟨true,A.map uu⟩,some ⟨true,Bq.map uu⟩]) [0] he1 (by kernel_rfl) (by kernel_rfl) (uflat _ _) (uflat _ _)
 have he2':=FSpec.embed (M:=[some ⟨true,A.map uu⟩,some ⟨true,Bq.map uu⟩]) (M':=[some ⟨true,A.map uu⟩,some ⟨true,Bq.map uu⟩]) [1] he2 (by kernel_rfl) (by kernel_rfl) (uflat _ _) (uflat _ _)
 have hr1':=FSpec.embed (M:=[some ⟨true,A.map uu⟩,some ⟨true,Bq.map uu⟩]) (M':=[some ⟨true,A'.map uu⟩,some ⟨true,Bq.map uu⟩]) [0] hr1 (by kernel_rfl) (by kernel_rfl) (uflat _ _) (uflat _ _)
 have hr2':=FSpec.embed (M:=[some ⟨true,A'.map uu⟩,some ⟨true,Bq.map uu⟩]) (M':=[some ⟨true,A'.map uu⟩,some ⟨true,B'.map uu⟩]) [1] hr2 (by kernel_rfl) (by kernel_rfl) (uflat _ _) (uflat _ _)
 have hs2:∃ xs:List Int,strOfNums ((2^(min tn tm%8)::List.replicate (min tn tm/8) 0).map fun x:Nat=>(x:Int))=strOfNums xs∧xs.length=min tn tm/8+1∧(((List.replicate (min tn tm/8+1) (V.c (.int .u8 0))).set 0 (ub (2^(min tn tm%8)))).drop 0).take (min tn tm/8+1)=xs.map fun n=>.c (.int .u8 n):=by
  refine ⟨_,rfl,by simp,?_⟩
  rw [List.replicate_succ,List.set_cons_zero,List.drop_zero,List.take_of_length_le (by simp)]
  simp [ub,List.map_replicate]
 have hp8:2^(min tn tm%8) < 256:=Nat.pow_lt_pow_right (n:=8) (by decide) hr8
 have v2:M.V (strOfNums ((2^(min tn tm%8)::List.replicate (min tn tm/8) 0).map fun x:Nat=>(x:Int)))=2^min tn tm:=by
  rw [V_str (fun x hx=>by
   rcases List.mem_cons.1 hx with rfl | hx
   ·exact hp8
   rw [List.eq_of_mem_replicate hx]; decide),nb,nb_zeros,List.length_replicate,Nat.add_zero,show (256:Nat)=2^8 by decide,← Nat.pow_mul,← Nat.pow_add]
  congr 1
  omega
 have z2:(strOfNums ((2^(min tn tm%8)::List.replicate (min tn tm/8) 0).map fun x:Nat=>(x:Int))).size=min tn tm/8+1:=by
  rw [strOfNums_size]; simp
 have fin : ∀ (Y : List Nat) (o n c : Nat), Wd Y → o + n ≤ Y.length → lw (win Y o n) = G → n < 100000000000 → ∃ s1, (∃ xs : List Int, s1 = strOfNums xs ∧ xs.length = 8 * n ∧ (((tb Y o n).map ub).drop 0).take (8 * n) = xs.map fun n => .c (.int .u8 n)) ∧
  CSpec Tryd.prog 52 #[.string s1,.string (strOfNums ((2^(min tn tm%8)::List.replicate (min tn tm/8) 0).map fun x:Nat=>(x:Int)))] (.string (M.B (G*2^min tn tm))):=by
  intro Y o n c hw hl hv hn
  refine ⟨strOfNums ((tb Y o n).map fun x:Nat=>(x:Int)),⟨_,rfl,by simp [tb_len],?_⟩,?_⟩
  ·rw [List.drop_zero,List.take_of_length_le (by simp [tb_len]),List.map_map]
   rfl
  have h:=mul_c (strOfNums ((tb Y o n).map fun x:Nat=>(x:Int))) (strOfNums ((2^(min tn tm%8)::List.replicate (min tn tm/8) 0).map fun x:Nat=>(x:Int))) (by rw [strOfNums_size]; simp [tb_len]; omega) (by rw [z2]; omega)
  rw [v2,V_str (tb_lt Y o n),tb_val hw hl,hv] at h
  exact h
 have hrep:∀ n,(List.replicate (8*n) 0).map ub=List.replicate (8*n) (V.c (.int .u8 0)):=fun n=>by
  rw [List.map_replicate]; rfl
 rcases hcase with ⟨e1,e2,vx,hX,hg⟩ | ⟨e1,hg⟩
 ·have w1:=hX.2.2.2.1
  have w2:=hY.2.2.2.1
  have l1:=hX.2.1
  have l2:=hY.2.1
  subst e1 e2
  have x1:LX.getD o1 0=vx:=by
   rw [win_cons (by omega) (by omega)] at w1
   simpa [win,lw] using w1
  have y1:LY.getD o2 0=vy:=by
   rw [win_cons (by omega) (by omega)] at w2
   simpa [win,lw] using w2
  have hx64:vx < 18446744073709551616:=by rw [← x1]; exact getD_lt hX.1 (by omega)
  have hpos:0 < vx:=by
   rcases hX.2.2.2.2 with h | h
   ·omega
   rw [Nat.sub_self,Nat.pow_zero] at h
   omega
  have hG:G < 18446744073709551616:=by
   have:=Nat.gcd_le_left vy hpos
   omega
  have hset:(LY.map uu).set o2 (uu G)=(LY.set o2 G).map uu:=by rw [List.map_set]
  have hw':Wd (LY.set o2 G):=wd_set hY.1 hG
  have hl':o2+1≤(LY.set o2 G).length:=by simpa using l2
  have hv':lw (win (LY.set o2 G) o2 1)=G:=by
   have:(LY.set o2 G).getD o2 0=G:=by
    rw [List.getD_eq_getElem?_getD,List.getElem?_set_self (by omega)]; rfl
   rw [win_cons (by omega) (by omega),lw,this,Nat.sub_self]
   simp [win,lw]
  obtain ⟨s1,k1,k2⟩:=fin (LY.set o2 G) o2 1 c2 hw' hl' hv' (by omega)
  have h2:=h2_loopt o2 1 c2 tn tm LX (LY.set o2 G) (by omega) hl' 1 0 (by omega)
  simp only [tb,List.append_nil] at h2
  rw [hrep] at h2
  have hgc:=common_c vx vy
  rw [hg] at hgc
  exact cspec_of (ha_fnot a b s1 _ _ N1 N2 tn tm p1 q1 r1 p2 q2 r2 o1 1 c1 o2 1 c2 (min tn tm/8) (min tn tm%8) _ vx vy G _ _ _ _ _ _ _ (uu_flat A) (uu_flat Bq) (uu_flat A') (uu_flat B') (uu_flat LX) (uu_flat LY) (ub_flat _)
   hl1 hl2' he1' he2' hr1' hr2' h0.spec (by omega) (by omega) hr8 rfl hmn rfl rfl (by rw [← x1]; exact uget (by omega)) (by rw [← y1]; exact uget (by omega)) hgc (by rw [hset]; exact h2.spec) k1 hs2 k2)
 subst e1
 obtain ⟨s1,k1,k2⟩:=fin LY o2 n2 c2 hY.1 hY.2.1 (by rw [← hg]; exact hY.2.2.2.1) hn
 have h2:=h2_loopt o2 n2 c2 tn tm LX LY (by omega) hY.2.1 n2 0 (by omega)
 simp only [tb,List.append_nil] at h2
 rw [hrep] at h2
 exact cspec_of (ha_fnbt a b s1 _ _ N1 N2 tn tm p1 q1 r1 p2 q2 r2 o1 0 c1 o2 n2 c2 (min tn tm/8) (min tn tm%8) _ _ _ _ _ _ _ _ (uu_flat A) (uu_flat Bq) (uu_flat A') (uu_flat B') (uu_flat LX) (uu_flat LY) (ub_flat _)
  hl1 hl2' he1' he2' hr1' hr2' h0.spec (by omega) (by omega) hr8 rfl hmn rfl h2.spec k1 hs2 k2)
theorem halves_c (a b:ByteArray) (ha:a.size≤68719476736) (hb:b.size≤68719476736) (ca:M.B (M.V a)=a) (cb:M.B (M.V b)=b) (za:M.V a≠0) (zb:M.V b≠0) :
 CSpec Tryd.prog 82 #[.string a,.string b] (.string (M.B (Nat.gcd (M.V a) (M.V b)))):=by
 obtain ⟨A,a1,a2,a3⟩:=limbs_spec a (by omega) ca
 obtain ⟨Q,b1,b2,b3⟩:=limbs_spec b (by omega) cb
 have av:=a2.2.2.2.1
 have bv:=b2.2.2.2.1
 obtain ⟨tn,t1,t2,t3⟩:=evens_spec 0 ((a.size+7)/8) ((a.size+7)/8) true A a2.1 (by omega) a2.2.1 (by omega)
 obtain ⟨tm,s1,s2,s3⟩:=evens_spec 0 ((b.size+7)/8) ((b.size+7)/8) true Q b2.1 (by omega) b2.2.1 (by omega)
 rw [av] at t2
 rw [bv] at s2
 obtain ⟨A',p1,q1,r1,g1,g2,g3,g4⟩:=right_spec a2 (by omega) t1
 obtain ⟨Q',p2,q2,r2,i1,i2,i3,i4⟩:=right_spec b2 (by omega) s1
 obtain ⟨oa,ea⟩:=tz_odd t2
 obtain ⟨ob,eb⟩:=tz_odd s2
 have hg:=gcd_twos ea eb oa ob
 obtain ⟨sh,LX,o1,n1,c1,LY,o2,n2,c2,vy,y1,y2,y3,y4⟩:=ha_loop tn tm 8589934593 (by omega) _ false A' Q' p1 q1 r1 _ p2 q2 r2 _ (Nat.lt_succ_self _) g3 i3 (by omega) (by omega) oa ob
 have hcase:(n1=1∧n2=1 ∧ ∃ vx,Nm LX o1 n1 c1 vx∧Nat.gcd vx vy=Nat.gcd (M.V a/2^tn) (M.V b/2^tm))∨(n1=0∧vy=Nat.gcd (M.V a/2^tn) (M.V b/2^tm)):=y4
 rw [hg,Nat.mul_comm]
 cases sh with
 | false=>exact ha_finf a b _ _ tn tm p1 q1 r1 p2 q2 r2 o1 n1 c1 o2 n2 c2 vy _ A Q A' Q' LX LY a3 b3 t3 s3 g4 i4 y3 y1 (by omega) (by omega) hcase
 | true=>exact ha_fint a b _ _ tn tm p1 q1 r1 p2 q2 r2 o1 n1 c1 o2 n2 c2 vy _ A Q A' Q' LX LY a3 b3 t3 s3 g4 i4 y3 y1 (by omega) (by omega) hcase
end Go.Proofs.YtmkgijiniopalaaDoor.G
