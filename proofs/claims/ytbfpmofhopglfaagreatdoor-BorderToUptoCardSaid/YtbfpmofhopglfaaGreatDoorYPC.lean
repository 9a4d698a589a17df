import Derived.Test.YtbfpmofhopglfaaGreatDoorYKA
import Derived.Test.YtbfpmofhopglfaaGreatDoorYU5
import Derived.Test.YtbfpmofhopglfaaGreatDoorYX0
import Derived.Test.YtbfpmofhopglfaaGreatDoorYX1
set_option maxRecDepth 100000
set_option linter.unusedVariables false
section
namespace Go.Proofs.YtbfpmofhopglfaaGreatDoor.G
open Go.Proofs.YtbfpmofhopglfaaGreatDoor.U Go.RowKit
theorem mi_self_k {n:Bool} {a b:ByteArray} {x:Rat} {K:Nat} (h:IsR n a b x K) (hs:K≤8589934592):CSpec Tryz.prog 61 #[rv n a b,rv n a b] (Rv x):=by
  have:=min_k h h (by omega)
  rwa [mn_self] at this
theorem of0_k:CSpec Tryz.prog 19 #[.int .i64 0] (Rv 0):=of_r 0 (by decide) (by decide)
theorem sz0_s:Sz 0 1:=⟨by decide,by decide⟩
theorem sz2_s:Sz 2 1:=⟨by decide,by decide⟩
theorem szm1_s:Sz (-1) 1:=⟨by decide,by decide⟩
end Go.Proofs.YtbfpmofhopglfaaGreatDoor.G
end
section
namespace Go.Proofs.YtbfpmofhopglfaaGreatDoor.G
open Go.Proofs.YtbfpmofhopglfaaGreatDoor.U Go.RowKit
theorem ri0_k    : CSpec Tryz.prog 13 #[(.int .i64 0)] (Rv (0:Rat)):=by
  exact fn_ok Tryz.func13 (sc:=[(1,1,.fix (Rv (0:Rat)))]) (sb:=[]) (by kernel_rfl) (hC of0_k hN)
end Go.Proofs.YtbfpmofhopglfaaGreatDoor.G
end
section
namespace Go.Proofs.YtbfpmofhopglfaaGreatDoor.G
open Go.Proofs.YtbfpmofhopglfaaGreatDoor.U Go.RowKit
theorem sg1 {n1:Bool} {a1 b1:ByteArray} {x1:Rat} {K1:Nat}{n2:Bool} {a2 b2:ByteArray} {x2:Rat} {K2:Nat} (h1':IsR n1 a1 b1 x1 K1) (k1:K1≤2000000000) (h2':IsR n2 a2 b2 x2 K2) (k2:K2≤2000000000) (h0:gd n1 a1 b1=true) (h1:gd n2 a2 b2=true):CSpec Tryz.prog 41 #[(ag [rr n1 a1 b1,rr n2 a2 b2])] (.bool (decide (cmpR x1 x2≤(0:Int)))):=by
  exact fn_ok Tryz.func41 (sc:=[(1,2,.fix (.bool true)),(1,6,.fix (.bool true)),(1,13,.fix (.int IntKind.i64 (cmpR x1 x2)))]) (sb:=[]) (by kernel_rfl) (hC (cbool (goodb_k h1' (by omega)) h0) (hC (cbool (goodb_k h2' (by omega)) h1) (hC (cmp_k h1' h2' (by omega)) hN)))
theorem sg2 {n1:Bool} {a1 b1:ByteArray} {x1:Rat} {K1:Nat}{n2:Bool} {a2 b2:ByteArray} {x2:Rat} {K2:Nat} (h1':IsR n1 a1 b1 x1 K1) (k1:K1≤2000000000) (h2':IsR n2 a2 b2 x2 K2) (k2:K2≤2000000000) (h0:gd n1 a1 b1=true) (h1:gd n2 a2 b2=false):CSpec Tryz.prog 41 #[(ag [rr n1 a1 b1,rr n2 a2 b2])] (.bool false):=by
  exact fn_ok Tryz.func41 (sc:=[(1,2,.fix (.bool true)),(1,6,.fix (.bool false))]) (sb:=[]) (by kernel_rfl) (hC (cbool (goodb_k h1' (by omega)) h0) (hC (cbool (goodb_k h2' (by omega)) h1) hN))
theorem sg3 {n1:Bool} {a1 b1:ByteArray} {x1:Rat} {K1:Nat}{n2:Bool} {a2 b2:ByteArray} {x2:Rat} {K2:Nat} (h1':IsR n1 a1 b1 x1 K1) (k1:K1≤2000000000) (h2':IsR n2 a2 b2 x2 K2) (k2:K2≤2000000000) (h0:gd n1 a1 b1=false):CSpec Tryz.prog 41 #[(ag [rr n1 a1 b1,rr n2 a2 b2])] (.bool false):=by
  exact fn_ok Tryz.func41 (sc:=[(1,2,.fix (.bool false))]) (sb:=[]) (by kernel_rfl) (hC (cbool (goodb_k h1' (by omega)) h0) hN)
noncomputable def gs (n1:Bool) (a1 b1:ByteArray) (n2:Bool) (a2 b2:ByteArray):Bool:=gd n1 a1 b1&&(gd n2 a2 b2&&decide (qv n1 a1 b1≤qv n2 a2 b2))
theorem sgood_k {n1:Bool} {a1 b1:ByteArray} {x1:Rat} {K1:Nat}{n2:Bool} {a2 b2:ByteArray} {x2:Rat} {K2:Nat} (h1':IsR n1 a1 b1 x1 K1) (k1:K1≤2000000000) (h2':IsR n2 a2 b2 x2 K2) (k2:K2≤2000000000):CSpec Tryz.prog 41 #[ag [rr n1 a1 b1,rr n2 a2 b2]] (.bool (gs n1 a1 b1 n2 a2 b2)):=by
  have e1:=h1'.eq
  have e2:=h2'.eq
  unfold gs
  rw [e1,e2]
  cases g1:gd n1 a1 b1 with
  | false=>exact sg3 h1' k1 h2' k2 g1
  | true=>cases g2:gd n2 a2 b2 with
    | false=>exact sg2 h1' k1 h2' k2 g1 g2
    | true =>
      have:=sg1 h1' k1 h2' k2 g1 g2
      simpa only [cmpR_le,Bool.true_and] using this
theorem sof_k {n1:Bool} {a1 b1:ByteArray} {x1:Rat} {K1:Nat} (h1':IsR n1 a1 b1 x1 K1) (k1:K1≤2000000000)  : CSpec Tryz.prog 42 #[(rv n1 a1 b1)] (ag [rc x1,rc x1]):=by
  exact fn_ok Tryz.func42 (sc:=[(1,2,.fix (Rv x1))]) (sb:=[]) (by kernel_rfl) (hC (mi_self_k h1' (by omega)) hN)
theorem sf1 {n1:Bool} {a1 b1:ByteArray} {x1:Rat} {K1:Nat}{n2:Bool} {a2 b2:ByteArray} {x2:Rat} {K2:Nat} (h1':IsR n1 a1 b1 x1 K1) (k1:K1≤2000000000) (h2':IsR n2 a2 b2 x2 K2) (k2:K2≤2000000000) (h0:gs n1 a1 b1 n2 a2 b2=true):CSpec Tryz.prog 85 #[(ag [rr n1 a1 b1,rr n2 a2 b2])] (ag [rr n1 a1 b1,rr n2 a2 b2]):=by
  exact fn_ok Tryz.func85 (sc:=[(1,1,.fix (.bool true))]) (sb:=[]) (by kernel_rfl) (hC (cbool (sgood_k h1' k1 h2' k2) h0) hN)
theorem sf2 {n1:Bool} {a1 b1:ByteArray} {x1:Rat} {K1:Nat}{n2:Bool} {a2 b2:ByteArray} {x2:Rat} {K2:Nat} (h1':IsR n1 a1 b1 x1 K1) (k1:K1≤2000000000) (h2':IsR n2 a2 b2 x2 K2) (k2:K2≤2000000000) (h0:gs n1 a1 b1 n2 a2 b2=false):CSpec Tryz.prog 85 #[(ag [rr n1 a1 b1,rr n2 a2 b2])] (ag [rc (0:Rat),rc (0:Rat)]):=by
  have s1:=sz0_s
  have s2:=(isR_s s1)
  exact fn_ok Tryz.func85 (sc:=[(1,1,.fix (.bool false)),(2,0,.fix (Rv (0:Rat))),(2,1,.fix (ag [rc (0:Rat),rc (0:Rat)]))]) (sb:=[]) (by kernel_rfl) (hC (cbool (sgood_k h1' k1 h2' k2) h0) (hC of0_k (hC (sof_k s2 (by decide +kernel)) hN)))
theorem pr1 {n1:Bool} {a1 b1:ByteArray} {x1:Rat} {K1:Nat}{n2:Bool} {a2 b2:ByteArray} {x2:Rat} {K2:Nat} (h1':IsR n1 a1 b1 x1 K1) (k1:K1≤2000000000) (h2':IsR n2 a2 b2 x2 K2) (k2:K2≤2000000000) (h0:gd n1 a1 b1=true) (h1:gd n2 a2 b2=true) (h4:decide ((0:Int)≤Int.sign (Rat.num (x2 - x1)))=true):CSpec Tryz.prog 7 #[(ag [rr n1 a1 b1,rr n2 a2 b2])] (ag [rr n1 a1 b1,rr n2 a2 b2]):=by
  have s2:=(sub_s (szr h2') (szr h1'))
  have s3:=(isR_s s2)
  exact fn_ok Tryz.func7 (sc:=[(1,2,.fix (.bool true)),(1,6,.fix (.bool true)),(1,13,.fix (Rv (x2 - x1))),(1,14,.fix (.int IntKind.i64 (Int.sign (Rat.num (x2 - x1))))),(1,15,.is (.c (.bool true)))]) (sb:=[]) (by kernel_rfl) (hC (cbool (goodb_k h1' (by omega)) h0) (hC (cbool (goodb_k h2' (by omega)) h1) (hC (sub_k h2' h1' (by omega)) (hC (sign_k s3 (by omega)) (hP (isB h4) hN)))))
theorem pr2 {n1:Bool} {a1 b1:ByteArray} {x1:Rat} {K1:Nat}{n2:Bool} {a2 b2:ByteArray} {x2:Rat} {K2:Nat} (h1':IsR n1 a1 b1 x1 K1) (k1:K1≤2000000000) (h2':IsR n2 a2 b2 x2 K2) (k2:K2≤2000000000) (h0:gd n1 a1 b1=true) (h1:gd n2 a2 b2=true) (h4:decide ((0:Int)≤Int.sign (Rat.num (x2 - x1)))=false):CSpec Tryz.prog 7 #[(ag [rr n1 a1 b1,rr n2 a2 b2])] (ag [rc (0:Rat),rc (0:Rat)]):=by
  have s2:=(sub_s (szr h2') (szr h1'))
  have s3:=(isR_s s2)
  exact fn_ok Tryz.func7 (sc:=[(1,2,.fix (.bool true)),(1,6,.fix (.bool true)),(1,13,.fix (Rv (x2 - x1))),(1,14,.fix (.int IntKind.i64 (Int.sign (Rat.num (x2 - x1))))),(1,15,.is (.c (.bool false))),(3,0,.fix (Rv (0:Rat))),(3,1,.fix (Rv (0:Rat)))]) (sb:=[]) (by kernel_rfl) (hC (cbool (goodb_k h1' (by omega)) h0) (hC (cbool (goodb_k h2' (by omega)) h1) (hC (sub_k h2' h1' (by omega)) (hC (sign_k s3 (by omega)) (hP (isB h4) (hC ri0_k (hC ri0_k hN)))))))
theorem pr3 {n1:Bool} {a1 b1:ByteArray} {x1:Rat} {K1:Nat}{n2:Bool} {a2 b2:ByteArray} {x2:Rat} {K2:Nat} (h1':IsR n1 a1 b1 x1 K1) (k1:K1≤2000000000) (h2':IsR n2 a2 b2 x2 K2) (k2:K2≤2000000000) (h0:gd n1 a1 b1=true) (h1:gd n2 a2 b2=false):CSpec Tryz.prog 7 #[(ag [rr n1 a1 b1,rr n2 a2 b2])] (ag [rc (0:Rat),rc (0:Rat)]):=by
  exact fn_ok Tryz.func7 (sc:=[(1,2,.fix (.bool true)),(1,6,.fix (.bool false)),(3,0,.fix (Rv (0:Rat))),(3,1,.fix (Rv (0:Rat)))]) (sb:=[]) (by kernel_rfl) (hC (cbool (goodb_k h1' (by omega)) h0) (hC (cbool (goodb_k h2' (by omega)) h1) (hC ri0_k (hC ri0_k hN))))
theorem pr4 {n1:Bool} {a1 b1:ByteArray} {x1:Rat} {K1:Nat}{n2:Bool} {a2 b2:ByteArray} {x2:Rat} {K2:Nat} (h1':IsR n1 a1 b1 x1 K1) (k1:K1≤2000000000) (h2':IsR n2 a2 b2 x2 K2) (k2:K2≤2000000000) (h0:gd n1 a1 b1=false):CSpec Tryz.prog 7 #[(ag [rr n1 a1 b1,rr n2 a2 b2])] (ag [rc (0:Rat),rc (0:Rat)]):=by
  exact fn_ok Tryz.func7 (sc:=[(1,2,.fix (.bool false)),(3,0,.fix (Rv (0:Rat))),(3,1,.fix (Rv (0:Rat)))]) (sb:=[]) (by kernel_rfl) (hC (cbool (goodb_k h1' (by omega)) h0) (hC ri0_k (hC ri0_k hN)))
end Go.Proofs.YtbfpmofhopglfaaGreatDoor.G
end
section
namespace Go.Proofs.YtbfpmofhopglfaaGreatDoor.G
open Go.Proofs.YtbfpmofhopglfaaGreatDoor.U Go.RowKit
def numC (l:List Rat):List V:=nv (l.map rc)
theorem numC_cons (x:Rat) (l:List Rat):numC (x::l)=(rc x).map V.c++numC l:=by simp [numC,nv]
theorem numC_at:∀ {l:List Rat} {i:Nat} {x:Rat},l[i]? = some x→((numC l).drop (i*3)).take 3=(rc x).map V.c
  | [],i,x,h=>by simp at h
  | y::l,0,x,h=>by
    simp only [List.getElem?_cons_zero,Option.some.injEq] at h
    subst h
    rw [numC_cons]
    rfl
  | y::l,i+1,x,h=>by
    rw [numC_cons,show (i+1)*3=3+i*3 by omega,← List.drop_drop]
    exact numC_at (by simpa using h)
theorem numC_ld {l:List Rat} {o i:Nat} {x:Rat} (h:l[i]? = some x) (ho:o=i*3):((numC l).drop o).take 3=(rc x).map V.c∧(rc x).toArray.size=3:=by
  subst ho
  exact ⟨numC_at h,rfl⟩
theorem numC_flat (l:List Rat):∀ v:V,v∈numC l→v.isC=true:=by
  intro v hv
  obtain ⟨u,_,rfl⟩:=List.mem_map.1 hv
  rfl
theorem inc_i {i n:Nat} (h:i < n) (hn:n < 4611686018427387904):V.c (.int .i64 (IntKind.wrap .i64 ((i:Int)+1)))=V.c (.int .i64 ((i+1:Nat):Int)):=by
  congr 2
  rw [IntKind.wrap_i64]
  push_cast
  omega
theorem mn_sz {x y:Rat} {K:Nat} (hx:Sz x K) (hy:Sz y K):Sz (mn x y) K:=by unfold mn; split<;>assumption
theorem mx_sz {x y:Rat} {K:Nat} (hx:Sz x K) (hy:Sz y K):Sz (mx x y) K:=by unfold mx; split<;>assumption
def zr:List Value:=[.bool false,.string ⟨#[]⟩,.string ⟨#[]⟩]
def arS (l:List Rat) (i m:Nat) (lo hi:Rat):St:=⟨slots 29 0 [(2,.p 1 0),(3,.p 2 0),(11,.sl 0 3 m m),(12,vI (m:Nat)),(13,vI (i:Nat))],[some ⟨false,numC l⟩,some ⟨true,nv [zr,zr]⟩,some ⟨true,nv [rc lo,rc hi]⟩]⟩
section
variable {l:List Rat} {i m n K:Nat} {lo hi x:Rat}
theorem ar_go (hx:l[i+1]? = some x) (hi':i < m) (hm:m < 4611686018427387904) (s1:Sz lo K) (s2:Sz hi K) (s3:Sz x K) (hK:K≤1000000000):TSpec Tryz.prog (loopOf Tryz.f112 0) (arS l i m lo hi) .normal (arS l (i+1) m (mn lo x) (mx hi x)) :=
  tspec_dim (sc:=[(3,0,.is vT),(4,1,.fix (Rv x)),(5,3,.fix (Rv (mn lo x))),(5,7,.fix (Rv (mx hi x))),(6,0,.is (vI ((i+1:Nat):Int)))]) (sb:=[]) (mask 29 0 [2,3,11,12,13]) 3 (by kernel_rfl)
    (hP (isB (decide_eq_true (show (i:Int) < (m:Int) by omega))) (hP (show (0:Int)≤(i:Int)∧(i:Int) < (m:Int) by omega) (hP (numC_ld (o:=3+i*3) hx (by omega)) (hC (min_k (isR_s s1) (isR_s s3) (by omega)) (hC (max_k (isR_s s2) (isR_s s3) (by omega)) (hP (inc_i hi' hm) hN))))))
    ⟨numC_flat l,flatB_flat rfl⟩
theorem ar_end:TSpec Tryz.prog (loopOf Tryz.f112 0) (arS l m m lo hi) (.exit 0) (arS l m m lo hi) :=
  tspec_dim (sc:=[(3,0,.is vF)]) (sb:=[]) (mask 29 0 [2,3,11,12,13]) 3 (by kernel_rfl) (hP (isB (decide_eq_false (show ¬ (m:Int) < (m:Int) by omega))) hN) ⟨numC_flat l,flatB_flat rfl⟩
theorem ar_loop (hm:m < 4611686018427387904) (hK:K≤1000000000):∀ (r:List Rat) (i:Nat) (lo hi:Rat),l.drop (i+1)=r→i+r.length=m→(∀ y∈r,Sz y K)→Sz lo K→Sz hi K →
    Rounds Tryz.prog (loopOf Tryz.f112 0) 0 (arS l i m lo hi) .normal (arS l m m (r.foldl mn lo) (r.foldl mx hi))
  | [],i,lo,hi,_,hl,_,_,_=>by
    have:i=m:=by simpa using hl
    subst this
    exact .stop ar_end
  | x::r,i,lo,hi,hd,hl,hs,s1,s2=>by
    have hx:l[i+1]? = some x:=by
      have:=congrArg (fun q=>q[0]?) hd
      simpa [List.getElem?_drop] using this
    have s3:=hs x List.mem_cons_self
    simp only [List.length_cons] at hl
    refine .step (ar_go hx (by omega) hm s1 s2 s3 hK) (ar_loop hm hK r (i+1) _ _ ?_ (by omega) (fun y hy=>hs y (List.mem_cons_of_mem _ hy)) (mn_sz s1 s3) (mx_sz s2 s3))
    have:=congrArg (List.drop 1) hd
    rwa [List.drop_drop] at this
theorem sl_from1 (hm:0 < m):V.sl 0 (0+(if m+1=Int.toNat 1 then 0 else Int.toNat 1*3)) (Int.toNat ((m+1:Nat):Int) - Int.toNat 1) (m+1 - Int.toNat 1)=V.sl 0 3 m m:=by
  rw [if_neg (by simp; omega)]
  simp
theorem around_g (r:List Rat) (h0:0 < r.length) (hn:r.length < 1000000000) (s0:Sz x K) (hs:∀ y∈r,Sz y K) (hK:K≤1000000000):FSpec Tryz.prog 112 [.sl 0 0 (r.length+1) (r.length+1)] [some ⟨false,numC (x::r)⟩] (.c (ag [rc (r.foldl mn x),rc (r.foldl mx x)])) [some ⟨false,numC (x::r)⟩] :=
  fspec_ok Tryz.func112 (sc:=[(1,2,.fix (Rv x)),(1,3,.fix (ag [rc x,rc x])),(2,1,.is (.sl 0 3 r.length r.length)),(0,99999,.mask (mask 29 0 [2,3,11,12,13]))]) (sb:=[(0,.normal,arS (x::r) r.length r.length (r.foldl mn x) (r.foldl mx x))]) (keep:=[]) (by kernel_rfl)
    (hP (show Flat [some ⟨false,numC (x::r)⟩] from ⟨numC_flat _,trivial⟩) (hP (show (0:Int)≤0∧(0:Int) < ((r.length+1:Nat):Int) by omega) (hP (numC_ld (l:=x::r) (o:=0) (i:=0) rfl rfl) (hC (sof_k (isR_s s0) (by omega)) (hP (sl_from1 h0)
      (hP (show (0:Int)≤1∧(1:Int)≤((r.length+1:Nat):Int)∧((r.length+1:Nat):Int)≤((r.length+1:Nat):Int) by omega)
      (hP (show Flat (arS (x::r) 0 r.length x x).m from ⟨numC_flat _,flatB_flat rfl⟩) (hP (ar_loop (l:=x::r) (m:=r.length) (by omega) hK r 0 x x rfl (by omega) hs s0 s0).spec hN))))))))
end
section
variable {x y z u:Rat} {K L M N cp:Nat}
theorem around2_k (h1:Sz x K) (h2:Sz y L) (hs:K+L≤1000000000):FSpec Tryz.prog 112 [.sl 0 0 2 2] [some ⟨false,nv [rc x,rc y]⟩] (.c (ag [rc (mn x y),rc (mx x y)])) [some ⟨false,nv [rc x,rc y]⟩] :=
  around_g (K:=K+L) [y] (by simp) (by simp) (h1.mono (by omega)) (by intro w hw; simp at hw; subst hw; exact h2.mono (by omega)) hs
end
end Go.Proofs.YtbfpmofhopglfaaGreatDoor.G
end
section
namespace Go.Proofs.YtbfpmofhopglfaaGreatDoor.G
open Go.Proofs.YtbfpmofhopglfaaGreatDoor.U Go.RowKit
structure IsS (n1:Bool) (a1 b1:ByteArray) (n2:Bool) (a2 b2:ByteArray) (x y:Rat) (K:Nat):Prop where
  fit:CSpec Tryz.prog 85 #[ag [rr n1 a1 b1,rr n2 a2 b2]] (ag [rc x,rc y])
  pair:CSpec Tryz.prog 7 #[ag [rr n1 a1 b1,rr n2 a2 b2]] (ag [rc x,rc y])
  le:x≤y
  sx:Sz x K
  sy:Sz y K
def sl (g:Bool) (x:Rat):Rat:=if g then x else 0
theorem rr_can {n:Bool} {a b:ByteArray} {x:Rat} (h:gd n a b=true) (e:qv n a b=x):rr n a b=rc x:=by
  have:=gd_can h
  rw [e] at this
  injection this with h1
  injection h1 with h2
theorem dif_le {x y:Rat}:0≤(y - x).num.sign↔x≤y:=by
  have h:=sign_lt (x:=y - x)
  have h2:y - x < 0↔y < x:=by constructor<;>intro h<;>grind
  rw [← Rat.not_lt,← h2,← h]
  omega
theorem IsS.raw {n1 n2:Bool} {a1 b1 a2 b2:ByteArray} {x y:Rat} {K:Nat} (h1:IsR n1 a1 b1 x K) (h2:IsR n2 a2 b2 y K) (hK:K≤2000000000) (k1:1≤K):IsS n1 a1 b1 n2 a2 b2 (sl (gs n1 a1 b1 n2 a2 b2) x) (sl (gs n1 a1 b1 n2 a2 b2) y) K:=by
  have e1:=h1.eq
  have e2:=h2.eq
  cases hg:gs n1 a1 b1 n2 a2 b2 with
  | true =>
    have hg':=hg
    unfold gs at hg'
    rw [e1,e2,Bool.and_eq_true,Bool.and_eq_true] at hg'
    obtain ⟨g1,g2,g3⟩:=hg'
    have hle:=of_decide_eq_true g3
    have c1:=rr_can g1 e1
    have c2:=rr_can g2 e2
    refine ⟨?_,?_,hle,h1.sz,h2.sz⟩
    · have:=sf1 h1 hK h2 hK hg
      show CSpec _ _ _ (ag [rc x,rc y])
      rw [← c1,← c2]
      exact this
    have:=pr1 h1 hK h2 hK g1 g2 (decide_eq_true (dif_le.2 hle))
    show CSpec _ _ _ (ag [rc x,rc y])
    rw [← c1,← c2]
    exact this
  | false =>
    have z:Sz 0 K:=sz0_s.mono k1
    refine ⟨sf2 h1 hK h2 hK hg,?_,Rat.le_refl,z,z⟩
    unfold gs at hg
    rw [e1,e2] at hg
    cases g1:gd n1 a1 b1 with
    | false=>exact pr4 h1 hK h2 hK g1
    | true=>cases g2:gd n2 a2 b2 with
      | false=>exact pr3 h1 hK h2 hK g1 g2
      | true =>
        rw [g1,g2] at hg
        have hle:¬ x≤y:=by simpa using hg
        exact pr2 h1 hK h2 hK g1 g2 (decide_eq_false (fun h=>hle (dif_le.1 h)))
theorem isS_s {x y:Rat} {K L:Nat} (h1:Sz x K) (h2:Sz y L) (hle:x≤y) (hK:K+L≤2000000000):IsS (decide (x.num < 0)) (M.B x.num.natAbs) (M.B x.den) (decide (y.num < 0)) (M.B y.num.natAbs) (M.B y.den) x y (K+L+1):=by
  have i1:IsR (decide (x.num < 0)) (M.B x.num.natAbs) (M.B x.den) x (K+L):=isR_s (h1.mono (by omega))
  have i2:IsR (decide (y.num < 0)) (M.B y.num.natAbs) (M.B y.den) y (K+L):=isR_s (h2.mono (by omega))
  have hg:gs (decide (x.num < 0)) (M.B x.num.natAbs) (M.B x.den) (decide (y.num < 0)) (M.B y.num.natAbs) (M.B y.den)=true:=by
    unfold gs
    rw [gd_Rv,gd_Rv,qv_Rv,qv_Rv,decide_eq_true hle]
    rfl
  exact ⟨sf1 i1 hK i2 hK hg,pr1 i1 hK i2 hK gd_Rv gd_Rv (decide_eq_true (dif_le.2 hle)),hle,h1.mono (by omega),h2.mono (by omega)⟩
theorem sfit_k {n1 n2:Bool} {a1 b1 a2 b2:ByteArray} {x y:Rat} {K:Nat} (h:IsS n1 a1 b1 n2 a2 b2 x y K):CSpec Tryz.prog 85 #[ag [rr n1 a1 b1,rr n2 a2 b2]] (ag [rc x,rc y]):=h.fit
theorem rpair_k {n1 n2:Bool} {a1 b1 a2 b2:ByteArray} {x y:Rat} {K:Nat} (h:IsS n1 a1 b1 n2 a2 b2 x y K):CSpec Tryz.prog 7 #[ag [rr n1 a1 b1,rr n2 a2 b2]] (ag [rc x,rc y]):=h.pair
theorem shas1 {n1:Bool} {a1 b1:ByteArray}{n2:Bool} {a2 b2:ByteArray}{n3:Bool} {a3 b3:ByteArray}{x y z:Rat} {K L J1:Nat} (h1':IsS n1 a1 b1 n2 a2 b2 x y J1) (p1:Sz x K) (p2:Sz y K) (l1:x≤y) (k1:K≤100000000)(h3':IsR n3 a3 b3 z L) (k3:L≤100000000) (h1:decide (cmpR x z≤(0:Int))=true):CSpec Tryz.prog 37 #[(ag [rr n1 a1 b1,rr n2 a2 b2]),(rv n3 a3 b3)] (.bool (decide (cmpR z y≤(0:Int)))):=by
  have s0:=(isR_s p1)
  have s2:=(isR_s p2)
  exact fn_ok Tryz.func37 (sc:=[(1,1,.fix (ag [rc x,rc y])),(2,3,.fix (.int IntKind.i64 (cmpR x z))),(2,4,.is (.c (.bool true))),(2,9,.fix (.int IntKind.i64 (cmpR z y)))]) (sb:=[]) (by kernel_rfl) (hC (sfit_k h1') (hC (cmp_k s0 h3' (by omega)) (hP (isB h1) (hC (cmp_k h3' s2 (by omega)) hN))))
theorem shas2 {n1:Bool} {a1 b1:ByteArray}{n2:Bool} {a2 b2:ByteArray}{n3:Bool} {a3 b3:ByteArray}{x y z:Rat} {K L J1:Nat} (h1':IsS n1 a1 b1 n2 a2 b2 x y J1) (p1:Sz x K) (p2:Sz y K) (l1:x≤y) (k1:K≤100000000)(h3':IsR n3 a3 b3 z L) (k3:L≤100000000) (h1:decide (cmpR x z≤(0:Int))=false):CSpec Tryz.prog 37 #[(ag [rr n1 a1 b1,rr n2 a2 b2]),(rv n3 a3 b3)] (.bool false):=by
  have s0:=(isR_s p1)
  exact fn_ok Tryz.func37 (sc:=[(1,1,.fix (ag [rc x,rc y])),(2,3,.fix (.int IntKind.i64 (cmpR x z))),(2,4,.is (.c (.bool false)))]) (sb:=[]) (by kernel_rfl) (hC (sfit_k h1') (hC (cmp_k s0 h3' (by omega)) (hP (isB h1) hN)))
theorem smake2 {n1:Bool} {a1 b1:ByteArray}{n2:Bool} {a2 b2:ByteArray}{x y:Rat} {K L:Nat} (h1':IsR n1 a1 b1 x K) (k1:K≤100000000)(h2':IsR n2 a2 b2 y L) (k2:L≤100000000) (h0:decide ((0:Int) < cmpR x y)=false):CSpec Tryz.prog 83 #[(rv n1 a1 b1),(rv n2 a2 b2)] (.tuple #[ag [rc x,rc y],.int IntKind.i64 (0:Int)]):=by
  exact fn_ok Tryz.func83 (sc:=[(1,2,.fix (.int IntKind.i64 (cmpR x y))),(1,3,.is (.c (.bool false))),(3,2,.fix (Rv x)),(3,5,.fix (Rv y))]) (sb:=[]) (by kernel_rfl) (hC (cmp_k h1' h2' (by omega)) (hP (isB h0) (hC (mi_self_k h1' (by omega)) (hC (mi_self_k h2' (by omega)) hN))))
theorem shas_k {n1:Bool} {a1 b1:ByteArray}{n2:Bool} {a2 b2:ByteArray}{n3:Bool} {a3 b3:ByteArray}{x y z:Rat} {K L J1:Nat} (h1':IsS n1 a1 b1 n2 a2 b2 x y J1) (p1:Sz x K) (p2:Sz y K) (l1:x≤y) (k1:K≤100000000)(h3':IsR n3 a3 b3 z L) (k3:L≤100000000):CSpec Tryz.prog 37 #[ag [rr n1 a1 b1,rr n2 a2 b2],rv n3 a3 b3] (.bool (decide (x≤z)&&decide (z≤y))):=by
  by_cases h:x≤z
  · have:=shas1 h1' p1 p2 l1 k1 h3' k3 (decide_eq_true (cmpR_le.2 h))
    simpa only [cmpR_le,h,decide_true,Bool.true_and] using this
  have:=shas2 h1' p1 p2 l1 k1 h3' k3 (decide_eq_false (fun hh=>h (cmpR_le.1 hh)))
  simpa only [h,decide_false,Bool.false_and] using this
theorem smakea_k {n1:Bool} {a1 b1:ByteArray}{n2:Bool} {a2 b2:ByteArray}{x y:Rat} {K L:Nat} (h1':IsR n1 a1 b1 x K) (k1:K≤100000000)(h2':IsR n2 a2 b2 y L) (k2:L≤100000000) (h:x≤y):CSpec Tryz.prog 83 #[rv n1 a1 b1,rv n2 a2 b2] (.tuple #[ag [rc x,rc y],.int .i64 0]) :=
  smake2 h1' k1 h2' k2 (decide_eq_false (fun hh=>absurd (cmpR_gt.1 hh) (Rat.not_lt.2 h)))
theorem ssq1 {n1:Bool} {a1 b1:ByteArray}{n2:Bool} {a2 b2:ByteArray}{x y:Rat} {K J1:Nat} (h1':IsS n1 a1 b1 n2 a2 b2 x y J1) (p1:Sz x K) (p2:Sz y K) (l1:x≤y) (k1:K≤100000000) (h7:(decide (x≤(0:Rat))&&decide ((0:Rat)≤y))=true):CSpec Tryz.prog 84 #[(ag [rr n1 a1 b1,rr n2 a2 b2])] (ag [rc (0:Rat),rc (mx (x*x) (y*y))]):=by
  have s0:=(isR_s p1)
  have s1:=(isR_s p2)
  have s2:=(mul_s p1 p1)
  have s3:=(mul_s p2 p2)
  have s4:=(isS_s p1 p2 l1 (by omega))
  have s5:=sz0_s
  have s6:=(isR_s s5)
  exact fn_ok Tryz.func84 (sc:=[(1,1,.fix (ag [rc x,rc y])),(2,4,.fix (Rv (x*x))),(2,9,.fix (Rv (y*y))),(2,11,.read (ag [rc (mn (x*x) (y*y)),rc (mx (x*x) (y*y))])),(3,1,.fix (Rv (0:Rat))),(3,2,.fix (.bool true)),(4,0,.fix (Rv (0:Rat)))]) (sb:=[]) (by kernel_rfl) (hC (sfit_k h1') (hC (mul_k s0 s0 (by omega)) (hC (mul_k s1 s1 (by omega)) (hF (around2_k s2 s3 (by omega)) (hC of0_k (hC (cbool (shas_k s4 p1 p2 l1 k1 s6 (by decide +kernel)) h7) (hC of0_k hN)))))))
end Go.Proofs.YtbfpmofhopglfaaGreatDoor.G
end
section
namespace Go.Proofs.YtbfpmofhopglfaaGreatDoor.G
open Go.Proofs.YtbfpmofhopglfaaGreatDoor.U Go.RowKit Go.Proofs.YtbfpmofhopglfaaGreatDoor.A Go.Proofs.YtbfpmofhopglfaaGreatDoor.X
theorem nt1_k {n:Nat} (h:n=1):CSpec Tryz.prog 131 #[.string (M.B n)] (.string ⟨#[49]⟩):=fun w _=>by
  subst h
  rw [B_one1]
  exact nat_Text.calls 40 one1 ⟨#[49]⟩ w (by decide +kernel)
theorem B_two1:M.B 2=⟨#[2]⟩:=by
  have h:M.B (M.V ⟨#[2]⟩)=⟨#[2]⟩:=SA.lead_of _ (.inr (by decide))
  exact h
theorem nt2_k {n:Nat} (h:n=2):CSpec Tryz.prog 131 #[.string (M.B n)] (.string ⟨#[50]⟩):=fun w _=>by
  subst h
  rw [B_two1]
  exact nat_Text.calls 40 ⟨#[2]⟩ ⟨#[50]⟩ w (by decide +kernel)
theorem fitR_k {x:Rat} {K:Nat} (h:Sz x K) (hK:K≤68719476736):CSpec Tryz.prog 53 #[Rv x] (Rv x):=fit_Rv x (h.mono hK)
theorem rtx    : CSpec Tryz.prog 109 #[(Rv (-1/2))] (.string ({ data:=#[(45:UInt8)] }++{ data:=#[(49:UInt8)] }++({ data:=#[(47:UInt8)] }++{ data:=#[(50:UInt8)] }))):=by
  have s0:=szm1_s
  have s1:=sz2_s
  have s2:=(div_s s0 s1)
  exact fn_ok Tryz.func109 (sc:=[(1,1,.fix (Rv (-1/2:Rat))),(2,2,.fix (.string ({ data:=#[(49:UInt8)] }))),(6,3,.fix (.string ({ data:=#[(50:UInt8)] })))]) (sb:=[]) (by kernel_rfl) (hC (fitR_k s2 (by decide +kernel)) (hC (nt1_k (n:=Int.natAbs (Rat.num (-1/2:Rat))) (by decide +kernel)) (hC (nt2_k (n:=Rat.den (-1/2:Rat)) (by decide +kernel)) hN)))
theorem rtext_k {x:Rat} (h:x = -1/2):CSpec Tryz.prog 109 #[Rv x] (.string ⟨#[45,49,47,50]⟩):=by
  subst h
  exact rtx
theorem num_k {n m:Int} (hn:-9223372036854775808≤n) (hn2:n≤9223372036854775807) (hm:-9223372036854775808≤m) (hm2:m≤9223372036854775807) (h0:m≠0)  : CSpec Tryz.prog 38 #[(.int .i64 n),(.int .i64 m)] (Rv ((↑n:Rat)/(↑m:Rat))):=by
  exact fn_ok Tryz.func38 (sc:=[(1,2,.fix (.tuple #[Rv ((↑n:Rat)/(↑m:Rat)),.int IntKind.i64 (0:Int)]))]) (sb:=[]) (by kernel_rfl) (hC (make_k hn hn2 hm hm2 h0) hN)
theorem ratBegun_k    : CSpec Tryz.prog 71 #[] (.bool true):=by
  have s0:=(int_s (n:=(2:Int)) (by decide +kernel))
  have s1:=(int_s (n:=(-4:Int)) (by decide +kernel))
  have s2:=(div_s s0 s1)
  exact fn_ok Tryz.func71 (sc:=[(1,0,.fix (.tuple #[Rv ((↑(2:Int):Rat)/(↑(-4:Int):Rat)),.int IntKind.i64 (0:Int)])),(2,4,.fix (.string ({ data:=#[(45:UInt8),(49:UInt8),(47:UInt8),(50:UInt8)] }))),(2,9,.fix (.bool true))]) (sb:=[]) (by kernel_rfl) (hC (make_k (n:=(2:Int)) (m:=(-4:Int)) (by decide +kernel) (by decide +kernel) (by decide +kernel) (by decide +kernel) (by decide +kernel)) (hC (rtext_k (x:=(↑(2:Int):Rat)/(↑(-4:Int):Rat)) (by decide +kernel)) (hC (gooda_k s2 (by decide +kernel)) hN)))
end Go.Proofs.YtbfpmofhopglfaaGreatDoor.G
end
section
namespace Go.Proofs.YtbfpmofhopglfaaGreatDoor.G
open Go.Proofs.YtbfpmofhopglfaaGreatDoor.U Go.RowKit
theorem ssqz_k {n1:Bool} {a1 b1:ByteArray}{n2:Bool} {a2 b2:ByteArray}{x y:Rat} {K J1:Nat} (h1':IsS n1 a1 b1 n2 a2 b2 x y J1) (p1:Sz x K) (p2:Sz y K) (l1:x≤y) (k1:K≤100000000) (hz:(decide (x≤0)&&decide (0≤y))=true):CSpec Tryz.prog 84 #[ag [rr n1 a1 b1,rr n2 a2 b2]] (ag [rc 0,rc (mx (x*x) (y*y))]):=ssq1 h1' p1 p2 l1 k1 hz
theorem spanB1   (h7:gs (decide (Rat.num ((↑(-1:Int):Rat)/(↑(2:Int):Rat)) < (0:Int))) (M.B (Int.natAbs (Rat.num ((↑(-1:Int):Rat)/(↑(2:Int):Rat))))) (M.B (Rat.den ((↑(-1:Int):Rat)/(↑(2:Int):Rat)))) (decide (Rat.num ((↑(2:Int):Rat)/(↑(1:Int):Rat)) < (0:Int))) (M.B (Int.natAbs (Rat.num ((↑(2:Int):Rat)/(↑(1:Int):Rat))))) (M.B (Rat.den ((↑(2:Int):Rat)/(↑(1:Int):Rat))))=true):CSpec Tryz.prog 36 #[] (.bool true):=by
  have s0:=(int_s (n:=(-1:Int)) (by decide +kernel))
  have s1:=(int_s (n:=(2:Int)) (by decide +kernel))
  have s2:=(div_s s0 s1)
  have s3:=(isR_s s2)
  have s4:=(int_s (n:=(1:Int)) (by decide +kernel))
  have s5:=(div_s s1 s4)
  have s6:=(isR_s s5)
  have s8:=(isS_s s2 s5 (by decide +kernel) (by decide +kernel))
  exact fn_ok Tryz.func36 (sc:=[(1,0,.fix (Rv ((↑(-1:Int):Rat)/(↑(2:Int):Rat)))),(1,1,.fix (Rv ((↑(2:Int):Rat)/(↑(1:Int):Rat)))),(1,2,.fix (.tuple #[ag [rc ((↑(-1:Int):Rat)/(↑(2:Int):Rat)),rc ((↑(2:Int):Rat)/(↑(1:Int):Rat))],.int IntKind.i64 (0:Int)])),(2,0,.fix (.bool true)),(2,7,.fix (.bool true)),(2,11,.fix (ag [rc (0:Rat),rc (mx ((↑(-1:Int):Rat)/(↑(2:Int):Rat)*((↑(-1:Int):Rat)/(↑(2:Int):Rat))) ((↑(2:Int):Rat)/(↑(1:Int):Rat)*((↑(2:Int):Rat)/(↑(1:Int):Rat))))])),(2,12,.fix (Rv ((↑(0:Int):Rat)/(↑(1:Int):Rat)))),(2,13,.fix (Rv ((↑(4:Int):Rat)/(↑(1:Int):Rat))))]) (sb:=[]) (by kernel_rfl) (hC (num_k (n:=(-1:Int)) (m:=(2:Int)) (by decide +kernel) (by decide +kernel) (by decide +kernel) (by decide +kernel) (by decide +kernel)) (hC (num_k (n:=(2:Int)) (m:=(1:Int)) (by decide +kernel) (by decide +kernel) (by decide +kernel) (by decide +kernel) (by decide +kernel)) (hC (smakea_k s3 (by decide +kernel) s6 (by decide +kernel) (by decide +kernel)) (hC ratBegun_k (hC (cbool (sgood_k s3 (by decide +kernel) s6 (by decide +kernel)) h7) (hC (ssqz_k s8 s2 s5 (by decide +kernel) (by decide +kernel) (by decide +kernel)) (hC (num_k (n:=(0:Int)) (m:=(1:Int)) (by decide +kernel) (by decide +kernel) (by decide +kernel) (by decide +kernel) (by decide +kernel)) (hC (num_k (n:=(4:Int)) (m:=(1:Int)) (by decide +kernel) (by decide +kernel) (by decide +kernel) (by decide +kernel) (by decide +kernel)) hN))))))))
theorem gs_s {x y:Rat} (hle:x≤y):gs (decide (x.num < 0)) (M.B x.num.natAbs) (M.B x.den) (decide (y.num < 0)) (M.B y.num.natAbs) (M.B y.den)=true:=by
  unfold gs
  rw [gd_Rv,gd_Rv,qv_Rv,qv_Rv,decide_eq_true hle]
  rfl
theorem spanBegun_k:CSpec Tryz.prog 36 #[] (.bool true):=spanB1 (gs_s (by decide +kernel))
end Go.Proofs.YtbfpmofhopglfaaGreatDoor.G
end
