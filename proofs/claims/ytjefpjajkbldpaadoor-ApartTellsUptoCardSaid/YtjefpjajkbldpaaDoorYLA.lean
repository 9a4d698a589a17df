import Derived.Test.YtjefpjajkbldpaaDoorYBA
import Derived.Test.YtjefpjajkbldpaaDoorYU6
set_option maxRecDepth 100000
set_option linter.unusedVariables false
section
namespace Go.Proofs.YtjefpjajkbldpaaDoor.G
open Go.Proofs.YtjefpjajkbldpaaDoor.U Go.RowKit
theorem nv_cons (e:List Value) (B:List (List Value)):nv (e::B)=e.map V.c++nv B:=by simp [nv]
theorem nv_at {w:Nat}:∀ {B:List (List Value)} {i:Nat} {e:List Value},(∀ e∈B,e.length=w)→B[i]? = some e→((nv B).drop (i*w)).take w=e.map V.c
 | [],i,e,_,h=>by simp at h
 | y::B,0,e,hw,h=>by
   simp only [List.getElem?_cons_zero,Option.some.injEq] at h
   subst h
   rw [nv_cons,Nat.zero_mul,List.drop_zero,List.take_append_of_le_length (by rw [List.length_map,hw y List.mem_cons_self]; exact Nat.le_refl _),List.take_of_length_le (by rw [List.length_map,hw y List.mem_cons_self]; exact Nat.le_refl _)]
 | y::B,i+1,e,hw,h=>by
   have hl:=hw y List.mem_cons_self
   have e0:(y.map V.c++nv B).drop w=nv B:=by
    have hm:(y.map V.c).length=w:=by rw [List.length_map,hl]
    rw [← hm]
    exact List.drop_left
   rw [nv_cons,show (i+1)*w=w+i*w by rw [Nat.succ_mul,Nat.add_comm],← List.drop_drop,e0]
   exact nv_at (fun x hx=>hw x (List.mem_cons_of_mem _ hx)) (by simpa using h)
structure VR where
 n1:Bool
 a1:ByteArray
 b1:ByteArray
 n2:Bool
 a2:ByteArray
 b2:ByteArray
def VR.c (v:VR):List Value:=[.bool v.n1,.string v.a1,.string v.b1,.bool v.n2,.string v.a2,.string v.b2]
noncomputable def VR.x (v:VR):Rat:=qv v.n1 v.a1 v.b1
noncomputable def VR.y (v:VR):Rat:=qv v.n2 v.a2 v.b2
structure VR.Ok (v:VR):Prop where
 s1:v.a1.size≤1048576
 s2:v.b1.size≤1048576
 s3:v.a2.size≤1048576
 s4:v.b2.size≤1048576
theorem VR.Ok.r1 {v:VR} (h:v.Ok):IsR v.n1 v.a1 v.b1 v.x 1048576:=IsR.raw _ _ _ h.s1 h.s2 (by decide)
theorem VR.Ok.r2 {v:VR} (h:v.Ok):IsR v.n2 v.a2 v.b2 v.y 1048576:=IsR.raw _ _ _ h.s3 h.s4 (by decide)
end Go.Proofs.YtjefpjajkbldpaaDoor.G
end
section
namespace Go.Proofs.YtjefpjajkbldpaaDoor.G
open Go.Proofs.YtjefpjajkbldpaaDoor.U Go.RowKit
noncomputable def gs (n1:Bool) (a1 b1:ByteArray) (n2:Bool) (a2 b2:ByteArray):Bool:=gd n1 a1 b1&&(gd n2 a2 b2&&decide (qv n1 a1 b1≤qv n2 a2 b2))
end Go.Proofs.YtjefpjajkbldpaaDoor.G
end
section
namespace Go.Proofs.YtjefpjajkbldpaaDoor.G
open Go.Proofs.YtjefpjajkbldpaaDoor.U Go.RowKit
def numC (l:List Rat):List V:=nv (l.map rc)
theorem numC_cons (x:Rat) (l:List Rat):numC (x::l)=(rc x).map V.c++numC l:=by simp [numC,nv]
theorem numC_len (l:List Rat):(numC l).length=3*l.length:=by
 induction l with
 | nil=>rfl
 | cons x l ih=>rw [numC_cons,List.length_append,ih]; simp; omega
theorem numC_at:∀ {l:List Rat} {i:Nat} {x:Rat},l[i]? = some x→((numC l).drop (i*3)).take 3=(rc x).map V.c
 | [],i,x,h=>by simp at h
 | y::l,0,x,h=>by
   simp only [List.getElem?_cons_zero,Option.some.injEq] at h
   subst h
   rw [numC_cons]
   rfl
 | y::l,i+1,x,h=>by
   rw [numC_cons,show (i+1)*3=3+i*3 by omega,← List.drop_drop]
   exact numC_at (by simpa using h)
theorem numC_ld {l:List Rat} {o i:Nat} {x:Rat} (h:l[i]? = some x) (ho:o=i*3):((numC l).drop o).take 3=(rc x).map V.c∧(rc x).toArray.size=3:=by
 subst ho
 exact ⟨numC_at h,rfl⟩
theorem numC_flat (l:List Rat):∀ v:V,v∈numC l→v.isC=true:=by
 intro v hv
 obtain ⟨u,_,rfl⟩:=List.mem_map.1 hv
 rfl
theorem inc_i {i n:Nat} (h:i < n) (hn:n < 4611686018427387904):V.c (.int .i64 (IntKind.wrap .i64 ((i:Int)+1)))=V.c (.int .i64 ((i+1:Nat):Int)):=by
 congr 2
 rw [IntKind.wrap_i64]
 push_cast
 omega
theorem mn_sz {x y:Rat} {K:Nat} (hx:Sz x K) (hy:Sz y K):Sz (mn x y) K:=by unfold mn; split<;>assumption
theorem mx_sz {x y:Rat} {K:Nat} (hx:Sz x K) (hy:Sz y K):Sz (mx x y) K:=by unfold mx; split<;>assumption
def zr:List Value:=[.bool false,.string ⟨#[]⟩,.string ⟨#[]⟩]
def brS (cp:Nat) (l:List Rat) (i n:Nat) (lo hi:Rat):St:=⟨slots 35 0 [(2,.p 1 0),(3,.p 2 0),(13,.sl 0 0 n cp),(14,vI (n:Nat)),(15,vI (i:Nat))],[some ⟨false,numC l⟩,some ⟨true,nv [zr,zr]⟩,some ⟨true,nv [rc lo,rc hi]⟩]⟩
section
variable {l:List Rat} {i m n K cp:Nat} {lo hi x:Rat}
theorem br_1 (hx:l[i]? = some x) (hi':i < n) (hm:n < 4611686018427387904) (s1:Sz lo K) (s2:Sz hi K) (s3:Sz x K) (hK:K≤1000000000) (c1:x < lo) (c2:hi < x):TSpec Tryd.prog (loopOf Tryd.f31 0) (brS cp l i n lo hi) .normal (brS cp l (i+1) n x x) :=
 tspec_dim (sc:=[(3,0,.is vT),(4,1,.fix (Rv x)),(5,3,.fix (.int .i64 (cmpR x lo))),(5,4,.is vT),(7,3,.fix (.int .i64 (cmpR x hi))),(7,4,.is vT),(9,0,.is (vI ((i+1:Nat):Int)))]) (sb:=[]) (mask 35 0 [2,3,13,14,15]) 3 (by kernel_rfl)
  (hP (isB (decide_eq_true (show (i:Int) < (n:Int) by omega))) (hP (show (0:Int)≤(i:Int)∧(i:Int) < (n:Int) by omega) (hP (numC_ld (o:=0+i*3) hx (by omega)) (hC (cmp_k (isR_s s3) (isR_s s1) (by omega)) (hP (isB (decide_eq_true (cmpR_lt.2 c1)))
   (hC (cmp_k (isR_s s3) (isR_s s2) (by omega)) (hP (isB (decide_eq_true (cmpR_gt.2 c2))) (hP (inc_i hi' hm) hN)))))))) ⟨numC_flat l,flatB_flat rfl⟩
theorem br_2 (hx:l[i]? = some x) (hi':i < n) (hm:n < 4611686018427387904) (s1:Sz lo K) (s2:Sz hi K) (s3:Sz x K) (hK:K≤1000000000) (c1:x < lo) (c2:¬ hi < x):TSpec Tryd.prog (loopOf Tryd.f31 0) (brS cp l i n lo hi) .normal (brS cp l (i+1) n x hi) :=
 tspec_dim (sc:=[(3,0,.is vT),(4,1,.fix (Rv x)),(5,3,.fix (.int .i64 (cmpR x lo))),(5,4,.is vT),(7,3,.fix (.int .i64 (cmpR x hi))),(7,4,.is vF),(9,0,.is (vI ((i+1:Nat):Int)))]) (sb:=[]) (mask 35 0 [2,3,13,14,15]) 3 (by kernel_rfl)
  (hP (isB (decide_eq_true (show (i:Int) < (n:Int) by omega))) (hP (show (0:Int)≤(i:Int)∧(i:Int) < (n:Int) by omega) (hP (numC_ld (o:=0+i*3) hx (by omega)) (hC (cmp_k (isR_s s3) (isR_s s1) (by omega)) (hP (isB (decide_eq_true (cmpR_lt.2 c1)))
   (hC (cmp_k (isR_s s3) (isR_s s2) (by omega)) (hP (isB (decide_eq_false (fun h=>c2 (cmpR_gt.1 h)))) (hP (inc_i hi' hm) hN)))))))) ⟨numC_flat l,flatB_flat rfl⟩
theorem br_3 (hx:l[i]? = some x) (hi':i < n) (hm:n < 4611686018427387904) (s1:Sz lo K) (s2:Sz hi K) (s3:Sz x K) (hK:K≤1000000000) (c1:¬ x < lo) (c2:hi < x):TSpec Tryd.prog (loopOf Tryd.f31 0) (brS cp l i n lo hi) .normal (brS cp l (i+1) n lo x) :=
 tspec_dim (sc:=[(3,0,.is vT),(4,1,.fix (Rv x)),(5,3,.fix (.int .i64 (cmpR x lo))),(5,4,.is vF),(7,3,.fix (.int .i64 (cmpR x hi))),(7,4,.is vT),(9,0,.is (vI ((i+1:Nat):Int)))]) (sb:=[]) (mask 35 0 [2,3,13,14,15]) 3 (by kernel_rfl)
  (hP (isB (decide_eq_true (show (i:Int) < (n:Int) by omega))) (hP (show (0:Int)≤(i:Int)∧(i:Int) < (n:Int) by omega) (hP (numC_ld (o:=0+i*3) hx (by omega)) (hC (cmp_k (isR_s s3) (isR_s s1) (by omega)) (hP (isB (decide_eq_false (fun h=>c1 (cmpR_lt.1 h))))
   (hC (cmp_k (isR_s s3) (isR_s s2) (by omega)) (hP (isB (decide_eq_true (cmpR_gt.2 c2))) (hP (inc_i hi' hm) hN)))))))) ⟨numC_flat l,flatB_flat rfl⟩
theorem br_4 (hx:l[i]? = some x) (hi':i < n) (hm:n < 4611686018427387904) (s1:Sz lo K) (s2:Sz hi K) (s3:Sz x K) (hK:K≤1000000000) (c1:¬ x < lo) (c2:¬ hi < x):TSpec Tryd.prog (loopOf Tryd.f31 0) (brS cp l i n lo hi) .normal (brS cp l (i+1) n lo hi) :=
 tspec_dim (sc:=[(3,0,.is vT),(4,1,.fix (Rv x)),(5,3,.fix (.int .i64 (cmpR x lo))),(5,4,.is vF),(7,3,.fix (.int .i64 (cmpR x hi))),(7,4,.is vF),(9,0,.is (vI ((i+1:Nat):Int)))]) (sb:=[]) (mask 35 0 [2,3,13,14,15]) 3 (by kernel_rfl)
  (hP (isB (decide_eq_true (show (i:Int) < (n:Int) by omega))) (hP (show (0:Int)≤(i:Int)∧(i:Int) < (n:Int) by omega) (hP (numC_ld (o:=0+i*3) hx (by omega)) (hC (cmp_k (isR_s s3) (isR_s s1) (by omega)) (hP (isB (decide_eq_false (fun h=>c1 (cmpR_lt.1 h))))
   (hC (cmp_k (isR_s s3) (isR_s s2) (by omega)) (hP (isB (decide_eq_false (fun h=>c2 (cmpR_gt.1 h)))) (hP (inc_i hi' hm) hN)))))))) ⟨numC_flat l,flatB_flat rfl⟩
theorem mn_if (lo x:Rat):mn lo x=if x < lo then x else lo:=by
 unfold mn
 by_cases h:x < lo
 ·rw [if_pos h,if_neg (Rat.not_le.2 h)]
 rw [if_neg h,if_pos (Rat.not_lt.1 h)]
theorem mx_if (hi x:Rat):mx hi x=if hi < x then x else hi:=by
 unfold mx
 by_cases h:hi < x
 ·rw [if_pos h,if_neg (Rat.not_le.2 h)]
 rw [if_neg h,if_pos (Rat.not_lt.1 h)]
theorem br_go (hx:l[i]? = some x) (hi':i < n) (hm:n < 4611686018427387904) (s1:Sz lo K) (s2:Sz hi K) (s3:Sz x K) (hK:K≤1000000000):TSpec Tryd.prog (loopOf Tryd.f31 0) (brS cp l i n lo hi) .normal (brS cp l (i+1) n (mn lo x) (mx hi x)):=by
 rw [mn_if,mx_if]
 by_cases c1:x < lo<;>by_cases c2:hi < x
 ·rw [if_pos c1,if_pos c2]; exact br_1 hx hi' hm s1 s2 s3 hK c1 c2
 ·rw [if_pos c1,if_neg c2]; exact br_2 hx hi' hm s1 s2 s3 hK c1 c2
 ·rw [if_neg c1,if_pos c2]; exact br_3 hx hi' hm s1 s2 s3 hK c1 c2
 rw [if_neg c1,if_neg c2]; exact br_4 hx hi' hm s1 s2 s3 hK c1 c2
theorem br_end:TSpec Tryd.prog (loopOf Tryd.f31 0) (brS cp l n n lo hi) (.exit 0) (brS cp l n n lo hi) :=
 tspec_dim (sc:=[(3,0,.is vF)]) (sb:=[]) (mask 35 0 [2,3,13,14,15]) 3 (by kernel_rfl) (hP (isB (decide_eq_false (show ¬ (n:Int) < (n:Int) by omega))) hN) ⟨numC_flat l,flatB_flat rfl⟩
theorem br_loop (hm:n < 4611686018427387904) (hK:K≤1000000000):∀ (r:List Rat) (i:Nat) (lo hi:Rat),l.drop i=r→i+r.length=n→(∀ y∈r,Sz y K)→Sz lo K→Sz hi K →
 Rounds Tryd.prog (loopOf Tryd.f31 0) 0 (brS cp l i n lo hi) .normal (brS cp l n n (r.foldl mn lo) (r.foldl mx hi))
 | [],i,lo,hi,_,hl,_,_,_=>by
   have:i=n:=by simpa using hl
   subst this
   exact .stop br_end
 | x::r,i,lo,hi,hd,hl,hs,s1,s2=>by
   have hx:l[i]? = some x:=by
    have:=congrArg (fun q=>q[0]?) hd
    simpa [List.getElem?_drop] using this
   have s3:=hs x List.mem_cons_self
   simp only [List.length_cons] at hl
   refine .step (br_go hx (by omega) hm s1 s2 s3 hK) (br_loop hm hK r (i+1) _ _ ?_ (by omega) (fun y hy=>hs y (List.mem_cons_of_mem _ hy)) (mn_sz s1 s3) (mx_sz s2 s3))
   have:=congrArg (List.drop 1) hd
   rwa [List.drop_drop] at this
theorem rAround_g (r:List Rat) (hn:r.length < 1000000000) (s0:Sz x K) (hs:∀ y∈r,Sz y K) (hK:K≤1000000000):FSpec Tryd.prog 31 [.sl 0 0 (r.length+1) cp] [some ⟨false,numC (x::r)⟩] (.c (ag [rc (r.foldl mn x),rc (r.foldl mx x)])) [some ⟨false,numC (x::r)⟩]:=by
 have hl:=(br_loop (cp:=cp) (l:=x::r) (n:=r.length+1) (by omega) hK (x::r) 0 x x rfl (by simp) (fun y hy=>by
  rcases List.mem_cons.1 hy with rfl | hy
  ·exact s0
  exact hs y hy) s0 s0).spec
 simp only [List.foldl_cons,mn_self,mx_self] at hl
 exact fspec_ok Tryd.func31 (sc:=[(1,2,.fix (Rv x)),(1,5,.fix (Rv x)),(0,99999,.mask (mask 35 0 [2,3,13,14,15]))]) (sb:=[(0,.normal,brS cp (x::r) (r.length+1) (r.length+1) (r.foldl mn x) (r.foldl mx x))]) (keep:=[]) (by kernel_rfl)
  (hP (show Flat [some ⟨false,numC (x::r)⟩] from ⟨numC_flat _,trivial⟩) (hP (show (0:Int)≤0∧(0:Int) < ((r.length+1:Nat):Int) by omega) (hP (numC_ld (l:=x::r) (o:=0) (i:=0) rfl rfl) (hP (show (0:Int)≤0∧(0:Int) < ((r.length+1:Nat):Int) by omega) (hP (numC_ld (l:=x::r) (o:=0) (i:=0) rfl rfl)
   (hP (show Flat (brS cp (x::r) 0 (r.length+1) x x).m from ⟨numC_flat _,flatB_flat rfl⟩) (hP hl hN)))))))
end
end Go.Proofs.YtjefpjajkbldpaaDoor.G
end
