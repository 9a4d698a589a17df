import Derived.Test.YtikepohhmagdpaaDoorYKA
import Derived.Test.YtikepohhmagdpaaDoorYX0
import Derived.Test.YtikepohhmagdpaaDoorYX1
section
namespace Go.Proofs.YtikepohhmagdpaaDoor.G
open Go.Proofs.YtikepohhmagdpaaDoor.U Go.RowKit
set_option linter.unusedVariables false
set_option maxRecDepth 100000
theorem mi_self_k {n : Bool} {a b : ByteArray} {x : Rat} {K : Nat} (h : IsR n a b x K) (hs : K ≤ 8589934592) : CSpec Tryd.prog 104 #[rv n a b, rv n a b] (Rv x) := by
  have := min_k h h (by omega)
  rwa [mn_self] at this
theorem of0_k : CSpec Tryd.prog 94 #[.int .i64 0] (Rv 0) := of_r 0 (by decide) (by decide)
theorem of1_k : CSpec Tryd.prog 94 #[.int .i64 1] (Rv 1) := of_r 1 (by decide) (by decide)
theorem of2_k : CSpec Tryd.prog 94 #[.int .i64 2] (Rv 2) := of_r 2 (by decide) (by decide)
theorem of0m1_k : CSpec Tryd.prog 94 #[.int .i64 (-1)] (Rv (-1)) := of_r (-1) (by decide) (by decide)
theorem sz0_s : Sz 0 1 := ⟨by decide, by decide⟩
theorem sz1_s : Sz 1 1 := ⟨by decide, by decide⟩
theorem sz2_s : Sz 2 1 := ⟨by decide, by decide⟩
theorem szm1_s : Sz (-1) 1 := ⟨by decide, by decide⟩
theorem isR0_s : IsR false ⟨#[]⟩ ⟨#[]⟩ 0 1 := ⟨dif_neg (fun h => h.nz rfl), by decide, by decide, sz0_s⟩
theorem sq_pos (x : Rat) : 0 ≤ x * x := by
  rcases Rat.le_total (a := 0) (b := x) with h | h
  · exact Rat.mul_nonneg h h
  · have h2 : 0 ≤ -x := by grind
    have := Rat.mul_nonneg h2 h2
    grind
theorem sq_nn (x : Rat) : 1 + x * x ≠ 0 := by
  have := sq_pos x
  grind
theorem tof_k {n : Bool} {a b : ByteArray} {x : Rat} {K : Nat} (hx : IsR n a b x K) (hK : K ≤ 8000000000)  : CSpec Tryd.prog 42 #[(rv n a b)] (ag [[.bool false], rc x]) := by
  exact fn_ok Tryd.func42 (sc := [(1,2,.fix (Rv x))]) (sb := []) (by kernel_rfl) (hC (mi_self_k hx (by omega)) hN)
theorem thalf_k    : CSpec Tryd.prog 132 #[] (ag [[.bool true], rc (0 : Rat)]) := by
  exact fn_ok Tryd.func132 (sc := [(1,0,.fix (Rv (0 : Rat)))]) (sb := []) (by kernel_rfl) (hC of0_k hN)
theorem tfitf_k {n : Bool} {a b : ByteArray} {x : Rat} {K : Nat} (hx : IsR n a b x K) (hK : K ≤ 8000000000)  : CSpec Tryd.prog 130 #[(ag [[.bool false], rr n a b])] (ag [[.bool false], rc x]) := by
  exact fn_ok Tryd.func130 (sc := [(3,2,.fix (ag [[.bool false], rc x]))]) (sb := []) (by kernel_rfl) (hC (tof_k hx hK) hN)
theorem tfith_k {n : Bool} {a b : ByteArray}   : CSpec Tryd.prog 130 #[(ag [[.bool true], rr n a b])] (ag [[.bool true], rc (0 : Rat)]) := by
  exact fn_ok Tryd.func130 (sc := [(2,0,.fix (ag [[.bool true], rc (0 : Rat)]))]) (sb := []) (by kernel_rfl) (hC thalf_k hN)
theorem cosf {n : Bool} {a b : ByteArray} {x : Rat} {K : Nat} (hx : IsR n a b x K) (hK : K ≤ 2000000000) (h9 : (1 : Rat) + x * x ≠ (0 : Rat)) : CSpec Tryd.prog 43 #[(ag [[.bool false], rr n a b])] (Rv (((1 : Rat) - x * x) / ((1 : Rat) + x * x))) := by
  have s0 := (isR_s (szr hx))
  have s1 := sz1_s
  have s2 := (isR_s s1)
  have s3 := (mul_s (szr hx) (szr hx))
  have s4 := (isR_s s3)
  have s5 := (sub_s s1 s3)
  have s6 := (isR_s s5)
  have s7 := (add_s s1 s3)
  have s8 := (isR_s s7)
  exact fn_ok Tryd.func43 (sc := [(1,1,.fix (ag [[.bool false], rc x])), (4,4,.fix (Rv (x * x))), (5,0,.fix (Rv (1 : Rat))), (5,2,.fix (Rv ((1 : Rat) - x * x))), (5,3,.fix (Rv (1 : Rat))), (5,5,.fix (Rv ((1 : Rat) + x * x))), (5,6,.fix (.tuple #[Rv (((1 : Rat) - x * x) / ((1 : Rat) + x * x)), .int IntKind.i64 (0 : Int)]))]) (sb := []) (by kernel_rfl) (hC (tfitf_k hx (by omega)) (hC (mul_k s0 s0 (by omega)) (hC of1_k (hC (sub_k s2 s4 (by omega)) (hC of1_k (hC (add_k s2 s4 (by omega)) (hC (div_k s6 s8 (by omega) h9) hN)))))))
theorem cosh {n : Bool} {a b : ByteArray}   : CSpec Tryd.prog 43 #[(ag [[.bool true], rr n a b])] (Rv (-1 : Rat)) := by
  exact fn_ok Tryd.func43 (sc := [(1,1,.fix (ag [[.bool true], rc (0 : Rat)])), (3,0,.fix (Rv (-1 : Rat)))]) (sb := []) (by kernel_rfl) (hC (tfith_k (n := n) (a := a) (b := b)) (hC of0m1_k hN))
theorem sinf {n : Bool} {a b : ByteArray} {x : Rat} {K : Nat} (hx : IsR n a b x K) (hK : K ≤ 2000000000) (h9 : (1 : Rat) + x * x ≠ (0 : Rat)) : CSpec Tryd.prog 44 #[(ag [[.bool false], rr n a b])] (Rv ((x + x) / ((1 : Rat) + x * x))) := by
  have s0 := (isR_s (szr hx))
  have s1 := sz1_s
  have s2 := (isR_s s1)
  have s3 := (mul_s (szr hx) (szr hx))
  have s4 := (isR_s s3)
  have s5 := (add_s (szr hx) (szr hx))
  have s6 := (isR_s s5)
  have s7 := (add_s s1 s3)
  have s8 := (isR_s s7)
  exact fn_ok Tryd.func44 (sc := [(1,1,.fix (ag [[.bool false], rc x])), (2,4,.fix (Rv (x + x))), (2,5,.fix (Rv (1 : Rat))), (2,10,.fix (Rv (x * x))), (2,11,.fix (Rv ((1 : Rat) + x * x))), (2,12,.fix (.tuple #[Rv ((x + x) / ((1 : Rat) + x * x)), .int IntKind.i64 (0 : Int)]))]) (sb := []) (by kernel_rfl) (hC (tfitf_k hx (by omega)) (hC (add_k s0 s0 (by omega)) (hC of1_k (hC (mul_k s0 s0 (by omega)) (hC (add_k s2 s4 (by omega)) (hC (div_k s6 s8 (by omega) h9) hN))))))
theorem sinh {n : Bool} {a b : ByteArray}   : CSpec Tryd.prog 44 #[(ag [[.bool true], rr n a b])] (Rv (((0 : Rat) + (0 : Rat)) / ((1 : Rat) + (0 : Rat) * (0 : Rat)))) := by
  have s0 := sz0_s
  have s1 := (isR_s s0)
  have s2 := sz1_s
  have s3 := (isR_s s2)
  have s4 := (mul_s s0 s0)
  have s5 := (isR_s s4)
  have s6 := (add_s s0 s0)
  have s7 := (isR_s s6)
  have s8 := (add_s s2 s4)
  have s9 := (isR_s s8)
  exact fn_ok Tryd.func44 (sc := [(1,1,.fix (ag [[.bool true], rc (0 : Rat)])), (2,4,.fix (Rv ((0 : Rat) + (0 : Rat)))), (2,5,.fix (Rv (1 : Rat))), (2,10,.fix (Rv ((0 : Rat) * (0 : Rat)))), (2,11,.fix (Rv ((1 : Rat) + (0 : Rat) * (0 : Rat)))), (2,12,.fix (.tuple #[Rv (((0 : Rat) + (0 : Rat)) / ((1 : Rat) + (0 : Rat) * (0 : Rat))), .int IntKind.i64 (0 : Int)]))]) (sb := []) (by kernel_rfl) (hC (tfith_k (n := n) (a := a) (b := b)) (hC (add_k s1 s1 (by decide +kernel)) (hC of1_k (hC (mul_k s1 s1 (by decide +kernel)) (hC (add_k s3 s5 (by decide +kernel)) (hC (div_k s7 s9 (by decide +kernel) (by decide +kernel)) hN))))))
theorem oppf {x : Rat} {K : Nat} (hx : Sz x K) (hK : K ≤ 4000000000) (h4 : x ≠ (0 : Rat)) : CSpec Tryd.prog 131 #[(ag [[.bool false], rc x])] (ag [[.bool false], rc ((-1 : Rat) / x)]) := by
  have s0 := sz1_s
  have s1 := (neg_s s0)
  have s2 := (isR_s s1)
  have s3 := (isR_s hx)
  have s5 := (div_s s1 hx)
  have s6 := (isR_s s5)
  exact fn_ok Tryd.func131 (sc := [(1,0,.fix (Rv (-1 : Rat))), (1,3,.fix (.tuple #[Rv ((-1 : Rat) / x), .int IntKind.i64 (0 : Int)])), (4,1,.fix (ag [[.bool false], rc ((-1 : Rat) / x)]))]) (sb := []) (by kernel_rfl) (hC of0m1_k (hC (div_k s2 s3 (by omega) h4) (hC (tof_k s6 (by omega)) hN)))
theorem oppz {x : Rat} {K : Nat} (hx : Sz x K) (hK : K ≤ 4000000000) (h4 : x = (0 : Rat)) : CSpec Tryd.prog 131 #[(ag [[.bool false], rc x])] (ag [[.bool true], rc (0 : Rat)]) := by
  have s0 := sz1_s
  have s1 := (neg_s s0)
  have s2 := (isR_s s1)
  have s3 := (isR_s hx)
  exact fn_ok Tryd.func131 (sc := [(1,0,.fix (Rv (-1 : Rat))), (1,3,.fix (.tuple #[ag [[.bool false], [.string ({ data := #[] })], [.string ({ data := #[] })]], .int IntKind.i64 (12 : Int)])), (3,0,.fix (ag [[.bool true], rc (0 : Rat)]))]) (sb := []) (by kernel_rfl) (hC of0m1_k (hC (divz_k s2 s3 (by omega) h4) (hC thalf_k hN)))
def cosT (h : Bool) (x : Rat) : Rat := if h then -1 else (1 - x * x) / (1 + x * x)
def sinT (h : Bool) (x : Rat) : Rat := if h then 0 else (x + x) / (1 + x * x)
def opp (x : Rat) : Bool × Rat := if x = 0 then (true, 0) else (false, -1 / x)
def thn (h : Bool) (x : Rat) (g : Bool) (y : Rat) : Bool × Rat :=
  if h then (if g then (false, 0) else opp y) else if g then opp x else if 1 - x * y = 0 then (true, 0) else (false, (x + y) / (1 - x * y))
def fz (h : Bool) (x : Rat) : Rat := if h then 0 else x
section
variable {n n' h h' : Bool} {a b a' b' : ByteArray} {x y : Rat} {K L : Nat}
theorem tcos_k (hx : IsR n a b x K) (hK : K ≤ 2000000000) : CSpec Tryd.prog 43 #[ag [[.bool h], rr n a b]] (Rv (cosT h x)) := by
  cases h
  · exact cosf hx hK (sq_nn x)
  · exact cosh
theorem tsin_k (hx : IsR n a b x K) (hK : K ≤ 2000000000) : CSpec Tryd.prog 44 #[ag [[.bool h], rr n a b]] (Rv (sinT h x)) := by
  cases h
  · exact sinf hx hK (sq_nn x)
  · have := sinh (n := n) (a := a) (b := b)
    have e : ((0 : Rat) + 0) / (1 + 0 * 0) = 0 := by decide +kernel
    rw [e] at this
    exact this
theorem cosT_s (hx : Sz x K) : Sz (cosT h x) (4 * K + 8) := by
  unfold cosT
  split
  · exact szm1_s.mono (by omega)
  · exact (div_s (sub_s sz1_s (hx.mul hx)) (sz1_s.add (hx.mul hx))).mono (by omega)
theorem sinT_s (hx : Sz x K) : Sz (sinT h x) (4 * K + 8) := by
  unfold sinT
  split
  · exact sz0_s.mono (by omega)
  · exact (div_s (hx.add hx) (sz1_s.add (hx.mul hx))).mono (by omega)
theorem topp_k (hx : Sz x K) (hK : K ≤ 4000000000) : CSpec Tryd.prog 131 #[ag [[.bool false], rc x]] (ag [[.bool (opp x).1], rc (opp x).2]) := by
  unfold opp
  split
  · rename_i h
    exact oppz hx hK h
  · rename_i h
    exact oppf hx hK h
theorem opp_s (hx : Sz x K) : Sz (opp x).2 (K + 1) := by
  unfold opp
  split
  · exact sz0_s.mono (by omega)
  · exact (div_s szm1_s hx).mono (by omega)
theorem fz_s (hx : Sz x K) : Sz (fz h x) (K + 1) := by
  unfold fz
  split
  · exact sz0_s.mono (by omega)
  · exact hx.mono (by omega)
end
theorem then1 {n : Bool} {a b : ByteArray} {x : Rat} {K : Nat}{n' : Bool} {a' b' : ByteArray} {y : Rat} {L : Nat} (hx : IsR n a b x K) (hK : K ≤ 1000000000)(hy : IsR n' a' b' y L) (hL : L ≤ 1000000000) (h10 : (1 : Rat) - x * y ≠ (0 : Rat)) : CSpec Tryd.prog 46 #[(ag [[.bool false], rr n a b]), (ag [[.bool false], rr n' a' b'])] (ag [[.bool false], rc ((x + y) / ((1 : Rat) - x * y))]) := by
  have s0 := (isR_s (szr hx))
  have s1 := (isR_s (szr hy))
  have s2 := sz1_s
  have s3 := (isR_s s2)
  have s4 := (mul_s (szr hx) (szr hy))
  have s5 := (isR_s s4)
  have s6 := (add_s (szr hx) (szr hy))
  have s7 := (isR_s s6)
  have s8 := (sub_s s2 s4)
  have s9 := (isR_s s8)
  have s11 := (div_s s6 s8)
  have s12 := (isR_s s11)
  exact fn_ok Tryd.func46 (sc := [(1,1,.fix (ag [[.bool false], rc x])), (1,3,.fix (ag [[.bool false], rc y])), (8,4,.fix (Rv (x + y))), (8,5,.fix (Rv (1 : Rat))), (8,10,.fix (Rv (x * y))), (8,11,.fix (Rv ((1 : Rat) - x * y))), (8,12,.fix (.tuple #[Rv ((x + y) / ((1 : Rat) - x * y)), .int IntKind.i64 (0 : Int)])), (11,1,.fix (ag [[.bool false], rc ((x + y) / ((1 : Rat) - x * y))]))]) (sb := []) (by kernel_rfl) (hC (tfitf_k hx (by omega)) (hC (tfitf_k hy (by omega)) (hC (add_k s0 s1 (by omega)) (hC of1_k (hC (mul_k s0 s1 (by omega)) (hC (sub_k s3 s5 (by omega)) (hC (div_k s7 s9 (by omega) h10) (hC (tof_k s12 (by omega)) hN))))))))
theorem then1z {n : Bool} {a b : ByteArray} {x : Rat} {K : Nat}{n' : Bool} {a' b' : ByteArray} {y : Rat} {L : Nat} (hx : IsR n a b x K) (hK : K ≤ 1000000000)(hy : IsR n' a' b' y L) (hL : L ≤ 1000000000) (h10 : (1 : Rat) - x * y = (0 : Rat)) : CSpec Tryd.prog 46 #[(ag [[.bool false], rr n a b]), (ag [[.bool false], rr n' a' b'])] (ag [[.bool true], rc (0 : Rat)]) := by
  have s0 := (isR_s (szr hx))
  have s1 := (isR_s (szr hy))
  have s2 := sz1_s
  have s3 := (isR_s s2)
  have s4 := (mul_s (szr hx) (szr hy))
  have s5 := (isR_s s4)
  have s6 := (add_s (szr hx) (szr hy))
  have s7 := (isR_s s6)
  have s8 := (sub_s s2 s4)
  have s9 := (isR_s s8)
  exact fn_ok Tryd.func46 (sc := [(1,1,.fix (ag [[.bool false], rc x])), (1,3,.fix (ag [[.bool false], rc y])), (8,4,.fix (Rv (x + y))), (8,5,.fix (Rv (1 : Rat))), (8,10,.fix (Rv (x * y))), (8,11,.fix (Rv ((1 : Rat) - x * y))), (8,12,.fix (.tuple #[ag [[.bool false], [.string ({ data := #[] })], [.string ({ data := #[] })]], .int IntKind.i64 (12 : Int)])), (10,0,.fix (ag [[.bool true], rc (0 : Rat)]))]) (sb := []) (by kernel_rfl) (hC (tfitf_k hx (by omega)) (hC (tfitf_k hy (by omega)) (hC (add_k s0 s1 (by omega)) (hC of1_k (hC (mul_k s0 s1 (by omega)) (hC (sub_k s3 s5 (by omega)) (hC (divz_k s7 s9 (by omega) h10) (hC thalf_k hN))))))))
theorem then2 {n : Bool} {a b : ByteArray} {x : Rat} {K : Nat}{n' : Bool} {a' b' : ByteArray} (hx : IsR n a b x K) (hK : K ≤ 1000000000)  : CSpec Tryd.prog 46 #[(ag [[.bool false], rr n a b]), (ag [[.bool true], rr n' a' b'])] (ag [[.bool (Prod.fst (opp x))], rc (Prod.snd (opp x))]) := by
  exact fn_ok Tryd.func46 (sc := [(1,1,.fix (ag [[.bool false], rc x])), (1,3,.fix (ag [[.bool true], rc (0 : Rat)])), (7,1,.fix (ag [[.bool (Prod.fst (opp x))], rc (Prod.snd (opp x))]))]) (sb := []) (by kernel_rfl) (hC (tfitf_k hx (by omega)) (hC (tfith_k (n := n') (a := a') (b := b')) (hC (topp_k (szr hx) (by omega)) hN)))
theorem then3 {n' : Bool} {a' b' : ByteArray} {y : Rat} {L : Nat}{n : Bool} {a b : ByteArray} (hy : IsR n' a' b' y L) (hL : L ≤ 1000000000)  : CSpec Tryd.prog 46 #[(ag [[.bool true], rr n a b]), (ag [[.bool false], rr n' a' b'])] (ag [[.bool (Prod.fst (opp y))], rc (Prod.snd (opp y))]) := by
  exact fn_ok Tryd.func46 (sc := [(1,1,.fix (ag [[.bool true], rc (0 : Rat)])), (1,3,.fix (ag [[.bool false], rc y])), (5,1,.fix (ag [[.bool (Prod.fst (opp y))], rc (Prod.snd (opp y))]))]) (sb := []) (by kernel_rfl) (hC (tfith_k (n := n) (a := a) (b := b)) (hC (tfitf_k hy (by omega)) (hC (topp_k (szr hy) (by omega)) hN)))
theorem then4 {n n' : Bool} {a b a' b' : ByteArray}   : CSpec Tryd.prog 46 #[(ag [[.bool true], rr n a b]), (ag [[.bool true], rr n' a' b'])] (ag [[.bool false], rc (0 : Rat)]) := by
  have s0 := sz0_s
  have s1 := (isR_s s0)
  exact fn_ok Tryd.func46 (sc := [(1,1,.fix (ag [[.bool true], rc (0 : Rat)])), (1,3,.fix (ag [[.bool true], rc (0 : Rat)])), (3,0,.fix (Rv (0 : Rat))), (3,1,.fix (ag [[.bool false], rc (0 : Rat)]))]) (sb := []) (by kernel_rfl) (hC (tfith_k (n := n) (a := a) (b := b)) (hC (tfith_k (n := n') (a := a') (b := b')) (hC of0_k (hC (tof_k s1 (by decide +kernel)) hN))))
theorem backf {n : Bool} {a b : ByteArray} {x : Rat} {K : Nat} (hx : IsR n a b x K) (hK : K ≤ 4000000000)  : CSpec Tryd.prog 47 #[(ag [[.bool false], rr n a b])] (ag [[.bool false], rc (-x)]) := by
  have s0 := (isR_s (szr hx))
  exact fn_ok Tryd.func47 (sc := [(1,1,.fix (ag [[.bool false], rc x])), (2,2,.fix (Rv (-x)))]) (sb := []) (by kernel_rfl) (hC (tfitf_k hx (by omega)) (hC (neg_k s0 (by omega)) hN))
theorem backh {n : Bool} {a b : ByteArray}   : CSpec Tryd.prog 47 #[(ag [[.bool true], rr n a b])] (ag [[.bool true], rc (-0 : Rat)]) := by
  have s0 := sz0_s
  have s1 := (isR_s s0)
  exact fn_ok Tryd.func47 (sc := [(1,1,.fix (ag [[.bool true], rc (0 : Rat)])), (2,2,.fix (Rv (-0 : Rat)))]) (sb := []) (by kernel_rfl) (hC (tfith_k (n := n) (a := a) (b := b)) (hC (neg_k s1 (by decide +kernel)) hN))
theorem cmp1 {n : Bool} {a b : ByteArray} {x : Rat} {K : Nat}{n' : Bool} {a' b' : ByteArray} {y : Rat} {L : Nat} (hx : IsR n a b x K) (hK : K ≤ 4000000000)(hy : IsR n' a' b' y L) (hL : L ≤ 4000000000)  : CSpec Tryd.prog 48 #[(ag [[.bool false], rr n a b]), (ag [[.bool false], rr n' a' b'])] (.int IntKind.i64 (cmpR x y)) := by
  have s0 := (isR_s (szr hx))
  have s1 := (isR_s (szr hy))
  exact fn_ok Tryd.func48 (sc := [(1,1,.fix (ag [[.bool false], rc x])), (1,3,.fix (ag [[.bool false], rc y])), (8,4,.fix (.int IntKind.i64 (cmpR x y)))]) (sb := []) (by kernel_rfl) (hC (tfitf_k hx (by omega)) (hC (tfitf_k hy (by omega)) (hC (cmp_k s0 s1 (by omega)) hN)))
theorem cmp2 {n : Bool} {a b : ByteArray} {x : Rat} {K : Nat}{n' : Bool} {a' b' : ByteArray} (hx : IsR n a b x K) (hK : K ≤ 4000000000)  : CSpec Tryd.prog 48 #[(ag [[.bool false], rr n a b]), (ag [[.bool true], rr n' a' b'])] (.int IntKind.i64 (-1 : Int)) := by
  exact fn_ok Tryd.func48 (sc := [(1,1,.fix (ag [[.bool false], rc x])), (1,3,.fix (ag [[.bool true], rc (0 : Rat)]))]) (sb := []) (by kernel_rfl) (hC (tfitf_k hx (by omega)) (hC (tfith_k (n := n') (a := a') (b := b')) hN))
theorem cmp3 {n' : Bool} {a' b' : ByteArray} {y : Rat} {L : Nat}{n : Bool} {a b : ByteArray} (hy : IsR n' a' b' y L) (hL : L ≤ 4000000000)  : CSpec Tryd.prog 48 #[(ag [[.bool true], rr n a b]), (ag [[.bool false], rr n' a' b'])] (.int IntKind.i64 (1 : Int)) := by
  exact fn_ok Tryd.func48 (sc := [(1,1,.fix (ag [[.bool true], rc (0 : Rat)])), (1,3,.fix (ag [[.bool false], rc y]))]) (sb := []) (by kernel_rfl) (hC (tfith_k (n := n) (a := a) (b := b)) (hC (tfitf_k hy (by omega)) hN))
theorem cmp4 {n n' : Bool} {a b a' b' : ByteArray}   : CSpec Tryd.prog 48 #[(ag [[.bool true], rr n a b]), (ag [[.bool true], rr n' a' b'])] (.int IntKind.i64 (0 : Int)) := by
  exact fn_ok Tryd.func48 (sc := [(1,1,.fix (ag [[.bool true], rc (0 : Rat)])), (1,3,.fix (ag [[.bool true], rc (0 : Rat)]))]) (sb := []) (by kernel_rfl) (hC (tfith_k (n := n) (a := a) (b := b)) (hC (tfith_k (n := n') (a := a') (b := b')) hN))
section
variable {n n' h h' : Bool} {a b a' b' : ByteArray} {x y : Rat} {K L : Nat}
theorem tthen_k (hx : IsR n a b x K) (hK : K ≤ 1000000000) (hy : IsR n' a' b' y L) (hL : L ≤ 1000000000) : CSpec Tryd.prog 46 #[ag [[.bool h], rr n a b], ag [[.bool h'], rr n' a' b']] (ag [[.bool (thn h x h' y).1], rc (thn h x h' y).2]) := by
  cases h <;> cases h'
  · by_cases hz : 1 - x * y = 0
    · have := then1z hx hK hy hL hz
      simpa only [thn, if_pos hz, Bool.false_eq_true, if_false] using this
    · have := then1 hx hK hy hL hz
      simpa only [thn, if_neg hz, Bool.false_eq_true, if_false] using this
  · exact then2 hx hK
  · exact then3 hy hL
  · exact then4
theorem thn_s (hx : Sz x K) (hy : Sz y L) : Sz (thn h x h' y).2 (2 * K + 2 * L + 8) := by
  unfold thn
  split
  · split
    · exact sz0_s.mono (by omega)
    · exact (opp_s hy).mono (by omega)
  · split
    · exact (opp_s hx).mono (by omega)
    · split
      · exact sz0_s.mono (by omega)
      · exact (div_s (hx.add hy) (sub_s sz1_s (hx.mul hy))).mono (by omega)
theorem tback_k (hx : IsR n a b x K) (hK : K ≤ 4000000000) : CSpec Tryd.prog 47 #[ag [[.bool h], rr n a b]] (ag [[.bool h], rc (-(fz h x))]) := by
  cases h
  · exact backf hx hK
  · exact backh
theorem tcmph_k (hy : IsR n' a' b' y L) (hL : L ≤ 4000000000) : CSpec Tryd.prog 48 #[ag [[.bool true], rr n a b], ag [[.bool h'], rr n' a' b']] (.int .i64 (if h' then 0 else 1)) := by
  cases h'
  · exact cmp3 hy hL
  · exact cmp4
theorem tcmpf_k (hx : IsR n a b x K) (hK : K ≤ 4000000000) (hy : IsR n' a' b' y L) (hL : L ≤ 4000000000) : CSpec Tryd.prog 48 #[ag [[.bool false], rr n a b], ag [[.bool h'], rr n' a' b']] (.int .i64 (if h' then -1 else cmpR x y)) := by
  cases h'
  · exact cmp1 hx hK hy hL
  · exact cmp2 hx hK
end
end Go.Proofs.YtikepohhmagdpaaDoor.G
end
section
namespace Go.Proofs.YtikepohhmagdpaaDoor.G
open Go.Proofs.YtikepohhmagdpaaDoor.U Go.RowKit
set_option linter.unusedVariables false
set_option maxRecDepth 100000
theorem ri_k {n : Int} (h1 : -9223372036854775808 ≤ n) (h2 : n ≤ 9223372036854775807)  : CSpec Tryd.prog 21 #[(.int .i64 n)] (Rv (↑n : Rat)) := by
  exact fn_ok Tryd.func21 (sc := [(1,1,.fix (Rv (↑n : Rat)))]) (sb := []) (by kernel_rfl) (hC (of_k h1 h2) hN)
theorem ri0_k    : CSpec Tryd.prog 21 #[(.int .i64 0)] (Rv (0 : Rat)) := by
  exact fn_ok Tryd.func21 (sc := [(1,1,.fix (Rv (0 : Rat)))]) (sb := []) (by kernel_rfl) (hC of0_k hN)
theorem ri1_k    : CSpec Tryd.prog 21 #[(.int .i64 1)] (Rv (1 : Rat)) := by
  exact fn_ok Tryd.func21 (sc := [(1,1,.fix (Rv (1 : Rat)))]) (sb := []) (by kernel_rfl) (hC of1_k hN)
theorem ri2_k    : CSpec Tryd.prog 21 #[(.int .i64 2)] (Rv (2 : Rat)) := by
  exact fn_ok Tryd.func21 (sc := [(1,1,.fix (Rv (2 : Rat)))]) (sb := []) (by kernel_rfl) (hC of2_k hN)
theorem ri0m1_k    : CSpec Tryd.prog 21 #[(.int .i64 (-1))] (Rv (-1 : Rat)) := by
  exact fn_ok Tryd.func21 (sc := [(1,1,.fix (Rv (-1 : Rat)))]) (sb := []) (by kernel_rfl) (hC of0m1_k hN)
theorem pl0 {n1 : Bool} {a1 b1 : ByteArray} {x1 : Rat} {K1 : Nat} (h1' : IsR n1 a1 b1 x1 K1) (k1 : K1 ≤ 2000000000)  : CSpec Tryd.prog 128 #[(rv n1 a1 b1)] (Rv (x1 + (0 : Rat))) := by
  have s0 := sz0_s
  have s1 := (isR_s s0)
  exact fn_ok Tryd.func128 (sc := [(1,1,.fix (Rv (0 : Rat))), (1,2,.fix (Rv (x1 + (0 : Rat))))]) (sb := []) (by kernel_rfl) (hC ri0_k (hC (add_k h1' s1 (by omega)) hN))
theorem plain_k {n1 : Bool} {a1 b1 : ByteArray} {x1 : Rat} {K1 : Nat} (h1' : IsR n1 a1 b1 x1 K1) (k1 : K1 ≤ 2000000000) : CSpec Tryd.prog 128 #[rv n1 a1 b1] (Rv x1) := by
  have := pl0 h1' k1
  rwa [Rat.add_zero] at this
theorem vadd_k {n1 : Bool} {a1 b1 : ByteArray} {x1 : Rat} {K1 : Nat}{n2 : Bool} {a2 b2 : ByteArray} {x2 : Rat} {K2 : Nat}{n3 : Bool} {a3 b3 : ByteArray} {x3 : Rat} {K3 : Nat}{n4 : Bool} {a4 b4 : ByteArray} {x4 : Rat} {K4 : Nat} (h1' : IsR n1 a1 b1 x1 K1) (k1 : K1 ≤ 2000000000) (h2' : IsR n2 a2 b2 x2 K2) (k2 : K2 ≤ 2000000000) (h3' : IsR n3 a3 b3 x3 K3) (k3 : K3 ≤ 2000000000) (h4' : IsR n4 a4 b4 x4 K4) (k4 : K4 ≤ 2000000000)  : CSpec Tryd.prog 25 #[(ag [rr n1 a1 b1, rr n2 a2 b2]), (ag [rr n3 a3 b3, rr n4 a4 b4])] (ag [rc (x1 + x3), rc (x2 + x4)]) := by
  exact fn_ok Tryd.func25 (sc := [(1,4,.fix (Rv (x1 + x3))), (1,9,.fix (Rv (x2 + x4)))]) (sb := []) (by kernel_rfl) (hC (add_k h1' h3' (by omega)) (hC (add_k h2' h4' (by omega)) hN))
theorem vsub_k {n1 : Bool} {a1 b1 : ByteArray} {x1 : Rat} {K1 : Nat}{n2 : Bool} {a2 b2 : ByteArray} {x2 : Rat} {K2 : Nat}{n3 : Bool} {a3 b3 : ByteArray} {x3 : Rat} {K3 : Nat}{n4 : Bool} {a4 b4 : ByteArray} {x4 : Rat} {K4 : Nat} (h1' : IsR n1 a1 b1 x1 K1) (k1 : K1 ≤ 2000000000) (h2' : IsR n2 a2 b2 x2 K2) (k2 : K2 ≤ 2000000000) (h3' : IsR n3 a3 b3 x3 K3) (k3 : K3 ≤ 2000000000) (h4' : IsR n4 a4 b4 x4 K4) (k4 : K4 ≤ 2000000000)  : CSpec Tryd.prog 26 #[(ag [rr n1 a1 b1, rr n2 a2 b2]), (ag [rr n3 a3 b3, rr n4 a4 b4])] (ag [rc (x1 - x3), rc (x2 - x4)]) := by
  exact fn_ok Tryd.func26 (sc := [(1,4,.fix (Rv (x1 - x3))), (1,9,.fix (Rv (x2 - x4)))]) (sb := []) (by kernel_rfl) (hC (sub_k h1' h3' (by omega)) (hC (sub_k h2' h4' (by omega)) hN))
theorem vscale_k {n1 : Bool} {a1 b1 : ByteArray} {x1 : Rat} {K1 : Nat}{n2 : Bool} {a2 b2 : ByteArray} {x2 : Rat} {K2 : Nat}{n3 : Bool} {a3 b3 : ByteArray} {x3 : Rat} {K3 : Nat} (h1' : IsR n1 a1 b1 x1 K1) (k1 : K1 ≤ 2000000000) (h2' : IsR n2 a2 b2 x2 K2) (k2 : K2 ≤ 2000000000) (h3' : IsR n3 a3 b3 x3 K3) (k3 : K3 ≤ 2000000000)  : CSpec Tryd.prog 28 #[(ag [rr n1 a1 b1, rr n2 a2 b2]), (rv n3 a3 b3)] (ag [rc (x1 * x3), rc (x2 * x3)]) := by
  exact fn_ok Tryd.func28 (sc := [(1,3,.fix (Rv (x1 * x3))), (1,7,.fix (Rv (x2 * x3)))]) (sb := []) (by kernel_rfl) (hC (mul_k h1' h3' (by omega)) (hC (mul_k h2' h3' (by omega)) hN))
theorem vdot_k {n1 : Bool} {a1 b1 : ByteArray} {x1 : Rat} {K1 : Nat}{n2 : Bool} {a2 b2 : ByteArray} {x2 : Rat} {K2 : Nat}{n3 : Bool} {a3 b3 : ByteArray} {x3 : Rat} {K3 : Nat}{n4 : Bool} {a4 b4 : ByteArray} {x4 : Rat} {K4 : Nat} (h1' : IsR n1 a1 b1 x1 K1) (k1 : K1 ≤ 2000000000) (h2' : IsR n2 a2 b2 x2 K2) (k2 : K2 ≤ 2000000000) (h3' : IsR n3 a3 b3 x3 K3) (k3 : K3 ≤ 2000000000) (h4' : IsR n4 a4 b4 x4 K4) (k4 : K4 ≤ 2000000000)  : CSpec Tryd.prog 20 #[(ag [rr n1 a1 b1, rr n2 a2 b2]), (ag [rr n3 a3 b3, rr n4 a4 b4])] (Rv (x1 * x3 + x2 * x4)) := by
  have s0 := (mul_s (szr h1') (szr h3'))
  have s1 := (isR_s s0)
  have s2 := (mul_s (szr h2') (szr h4'))
  have s3 := (isR_s s2)
  exact fn_ok Tryd.func20 (sc := [(1,4,.fix (Rv (x1 * x3))), (1,9,.fix (Rv (x2 * x4))), (1,10,.fix (Rv (x1 * x3 + x2 * x4)))]) (sb := []) (by kernel_rfl) (hC (mul_k h1' h3' (by omega)) (hC (mul_k h2' h4' (by omega)) (hC (add_k s1 s3 (by omega)) hN)))
theorem vcross_k {n1 : Bool} {a1 b1 : ByteArray} {x1 : Rat} {K1 : Nat}{n2 : Bool} {a2 b2 : ByteArray} {x2 : Rat} {K2 : Nat}{n3 : Bool} {a3 b3 : ByteArray} {x3 : Rat} {K3 : Nat}{n4 : Bool} {a4 b4 : ByteArray} {x4 : Rat} {K4 : Nat} (h1' : IsR n1 a1 b1 x1 K1) (k1 : K1 ≤ 2000000000) (h2' : IsR n2 a2 b2 x2 K2) (k2 : K2 ≤ 2000000000) (h3' : IsR n3 a3 b3 x3 K3) (k3 : K3 ≤ 2000000000) (h4' : IsR n4 a4 b4 x4 K4) (k4 : K4 ≤ 2000000000)  : CSpec Tryd.prog 30 #[(ag [rr n1 a1 b1, rr n2 a2 b2]), (ag [rr n3 a3 b3, rr n4 a4 b4])] (Rv (x1 * x4 - x2 * x3)) := by
  have s0 := (mul_s (szr h1') (szr h4'))
  have s1 := (isR_s s0)
  have s2 := (mul_s (szr h2') (szr h3'))
  have s3 := (isR_s s2)
  exact fn_ok Tryd.func30 (sc := [(1,4,.fix (Rv (x1 * x4))), (1,9,.fix (Rv (x2 * x3))), (1,10,.fix (Rv (x1 * x4 - x2 * x3)))]) (sb := []) (by kernel_rfl) (hC (mul_k h1' h4' (by omega)) (hC (mul_k h2' h3' (by omega)) (hC (sub_k s1 s3 (by omega)) hN)))
theorem rv_k {n1 : Bool} {a1 b1 : ByteArray} {x1 : Rat} {K1 : Nat}{n2 : Bool} {a2 b2 : ByteArray} {x2 : Rat} {K2 : Nat}{n3 : Bool} {a3 b3 : ByteArray} {x3 : Rat} {K3 : Nat}{n4 : Bool} {a4 b4 : ByteArray} {x4 : Rat} {K4 : Nat} (h1' : IsR n1 a1 b1 x1 K1) (k1 : K1 ≤ 2000000000) (h2' : IsR n2 a2 b2 x2 K2) (k2 : K2 ≤ 2000000000) (h3' : IsR n3 a3 b3 x3 K3) (k3 : K3 ≤ 2000000000) (h4' : IsR n4 a4 b4 x4 K4) (k4 : K4 ≤ 2000000000)  : CSpec Tryd.prog 27 #[(ag [rr n1 a1 b1, rr n2 a2 b2]), (ag [rr n3 a3 b3, rr n4 a4 b4])] (ag [rc (x3 - x1), rc (x4 - x2)]) := by
  exact fn_ok Tryd.func27 (sc := [(1,4,.fix (Rv (x3 - x1))), (1,9,.fix (Rv (x4 - x2)))]) (sb := []) (by kernel_rfl) (hC (sub_k h3' h1' (by omega)) (hC (sub_k h4' h2' (by omega)) hN))
theorem rcross_k {n1 : Bool} {a1 b1 : ByteArray} {x1 : Rat} {K1 : Nat}{n2 : Bool} {a2 b2 : ByteArray} {x2 : Rat} {K2 : Nat}{n3 : Bool} {a3 b3 : ByteArray} {x3 : Rat} {K3 : Nat}{n4 : Bool} {a4 b4 : ByteArray} {x4 : Rat} {K4 : Nat} (h1' : IsR n1 a1 b1 x1 K1) (k1 : K1 ≤ 2000000000) (h2' : IsR n2 a2 b2 x2 K2) (k2 : K2 ≤ 2000000000) (h3' : IsR n3 a3 b3 x3 K3) (k3 : K3 ≤ 2000000000) (h4' : IsR n4 a4 b4 x4 K4) (k4 : K4 ≤ 2000000000)  : CSpec Tryd.prog 31 #[(ag [rr n1 a1 b1, rr n2 a2 b2]), (ag [rr n3 a3 b3, rr n4 a4 b4])] (Rv (x1 * x4 - x2 * x3)) := by
  have s0 := (mul_s (szr h1') (szr h4'))
  have s1 := (isR_s s0)
  have s2 := (mul_s (szr h2') (szr h3'))
  have s3 := (isR_s s2)
  exact fn_ok Tryd.func31 (sc := [(1,4,.fix (Rv (x1 * x4))), (1,9,.fix (Rv (x2 * x3))), (1,10,.fix (Rv (x1 * x4 - x2 * x3)))]) (sb := []) (by kernel_rfl) (hC (mul_k h1' h4' (by omega)) (hC (mul_k h2' h3' (by omega)) (hC (sub_k s1 s3 (by omega)) hN)))
theorem rdot_k {n1 : Bool} {a1 b1 : ByteArray} {x1 : Rat} {K1 : Nat}{n2 : Bool} {a2 b2 : ByteArray} {x2 : Rat} {K2 : Nat}{n3 : Bool} {a3 b3 : ByteArray} {x3 : Rat} {K3 : Nat}{n4 : Bool} {a4 b4 : ByteArray} {x4 : Rat} {K4 : Nat} (h1' : IsR n1 a1 b1 x1 K1) (k1 : K1 ≤ 2000000000) (h2' : IsR n2 a2 b2 x2 K2) (k2 : K2 ≤ 2000000000) (h3' : IsR n3 a3 b3 x3 K3) (k3 : K3 ≤ 2000000000) (h4' : IsR n4 a4 b4 x4 K4) (k4 : K4 ≤ 2000000000)  : CSpec Tryd.prog 29 #[(ag [rr n1 a1 b1, rr n2 a2 b2]), (ag [rr n3 a3 b3, rr n4 a4 b4])] (Rv (x1 * x3 + x2 * x4)) := by
  have s0 := (mul_s (szr h1') (szr h3'))
  have s1 := (isR_s s0)
  have s2 := (mul_s (szr h2') (szr h4'))
  have s3 := (isR_s s2)
  exact fn_ok Tryd.func29 (sc := [(1,4,.fix (Rv (x1 * x3))), (1,9,.fix (Rv (x2 * x4))), (1,10,.fix (Rv (x1 * x3 + x2 * x4)))]) (sb := []) (by kernel_rfl) (hC (mul_k h1' h3' (by omega)) (hC (mul_k h2' h4' (by omega)) (hC (add_k s1 s3 (by omega)) hN)))
theorem vturn_k {n1 : Bool} {a1 b1 : ByteArray} {x1 : Rat} {K1 : Nat}{n2 : Bool} {a2 b2 : ByteArray} {x2 : Rat} {K2 : Nat}{n5 : Bool} {a5 b5 : ByteArray} {x5 : Rat} {K5 : Nat}{g : Bool} (h1' : IsR n1 a1 b1 x1 K1) (k1 : K1 ≤ 500000000) (h2' : IsR n2 a2 b2 x2 K2) (k2 : K2 ≤ 500000000) (h5' : IsR n5 a5 b5 x5 K5) (k5 : K5 ≤ 500000000)  : CSpec Tryd.prog 32 #[(ag [rr n1 a1 b1, rr n2 a2 b2]), (ag [[.bool g], rr n5 a5 b5])] (ag [rc (x1 * cosT g x5 - x2 * sinT g x5), rc (x1 * sinT g x5 + x2 * cosT g x5)]) := by
  have s0 := (cosT_s (h := g) (szr h5'))
  have s1 := (isR_s s0)
  have s2 := (sinT_s (h := g) (szr h5'))
  have s3 := (isR_s s2)
  have s4 := (mul_s (szr h1') s0)
  have s5 := (isR_s s4)
  have s6 := (mul_s (szr h2') s2)
  have s7 := (isR_s s6)
  have s8 := (mul_s (szr h1') s2)
  have s9 := (isR_s s8)
  have s10 := (mul_s (szr h2') s0)
  have s11 := (isR_s s10)
  exact fn_ok Tryd.func32 (sc := [(1,1,.fix (Rv (cosT g x5))), (1,3,.fix (Rv (sinT g x5))), (2,4,.fix (Rv (x1 * cosT g x5))), (2,9,.fix (Rv (x2 * sinT g x5))), (2,10,.fix (Rv (x1 * cosT g x5 - x2 * sinT g x5))), (2,15,.fix (Rv (x1 * sinT g x5))), (2,20,.fix (Rv (x2 * cosT g x5))), (2,21,.fix (Rv (x1 * sinT g x5 + x2 * cosT g x5)))]) (sb := []) (by kernel_rfl) (hC (tcos_k (h := g) h5' (by omega)) (hC (tsin_k (h := g) h5' (by omega)) (hC (mul_k h1' s1 (by omega)) (hC (mul_k h2' s3 (by omega)) (hC (sub_k s5 s7 (by omega)) (hC (mul_k h1' s3 (by omega)) (hC (mul_k h2' s1 (by omega)) (hC (add_k s9 s11 (by omega)) hN))))))))
theorem circf {n5 : Bool} {a5 b5 : ByteArray} {x5 : Rat} {K5 : Nat} (h5' : IsR n5 a5 b5 x5 K5) (k5 : K5 ≤ 500000000) (h9 : (1 : Rat) + x5 * x5 ≠ (0 : Rat)) : CSpec Tryd.prog 37 #[(ag [[.bool false], rr n5 a5 b5])] (.tuple #[Rv ((2 : Rat) / ((1 : Rat) + x5 * x5) - (1 : Rat)), Rv (x5 * ((2 : Rat) / ((1 : Rat) + x5 * x5)))]) := by
  have s0 := (isR_s (szr h5'))
  have s1 := sz1_s
  have s2 := (isR_s s1)
  have s3 := (mul_s (szr h5') (szr h5'))
  have s4 := (isR_s s3)
  have s5 := sz2_s
  have s6 := (isR_s s5)
  have s7 := (add_s s1 s3)
  have s8 := (isR_s s7)
  have s10 := (div_s s5 s7)
  have s11 := (isR_s s10)
  exact fn_ok Tryd.func37 (sc := [(3,2,.fix (Rv x5)), (4,0,.fix (Rv (2 : Rat))), (4,1,.fix (Rv (1 : Rat))), (4,4,.fix (Rv (x5 * x5))), (4,5,.fix (Rv ((1 : Rat) + x5 * x5))), (4,6,.fix (.tuple #[Rv ((2 : Rat) / ((1 : Rat) + x5 * x5)), .int IntKind.i64 (0 : Int)])), (5,1,.fix (Rv (1 : Rat))), (5,2,.fix (Rv ((2 : Rat) / ((1 : Rat) + x5 * x5) - (1 : Rat)))), (5,5,.fix (Rv (x5 * ((2 : Rat) / ((1 : Rat) + x5 * x5)))))]) (sb := []) (by kernel_rfl) (hC (plain_k h5' (by omega)) (hC ri2_k (hC ri1_k (hC (mul_k s0 s0 (by omega)) (hC (add_k s2 s4 (by omega)) (hC (div_k s6 s8 (by omega) h9) (hC ri1_k (hC (sub_k s11 s2 (by omega)) (hC (mul_k s0 s11 (by omega)) hN)))))))))
theorem circh {n5 : Bool} {a5 b5 : ByteArray}   : CSpec Tryd.prog 37 #[(ag [[.bool true], rr n5 a5 b5])] (.tuple #[Rv (-1 : Rat), Rv (0 : Rat)]) := by
  exact fn_ok Tryd.func37 (sc := [(2,0,.fix (Rv (-1 : Rat))), (2,1,.fix (Rv (0 : Rat)))]) (sb := []) (by kernel_rfl) (hC ri0m1_k (hC ri0_k hN))
section
variable {g : Bool} {x y t : Rat} {K : Nat}
theorem circ_x : 2 / (1 + x * x) - 1 = cosT false x := by
  have := sq_nn x
  simp only [cosT, Bool.false_eq_true, if_false]
  grind
theorem circ_y : x * (2 / (1 + x * x)) = sinT false x := by
  have := sq_nn x
  simp only [sinT, Bool.false_eq_true, if_false]
  grind
end
theorem circle_k {g : Bool} {n5 : Bool} {a5 b5 : ByteArray} {x5 : Rat} {K5 : Nat} (h5' : IsR n5 a5 b5 x5 K5) (k5 : K5 ≤ 500000000) : CSpec Tryd.prog 37 #[ag [[.bool g], rr n5 a5 b5]] (.tuple #[Rv (cosT g x5), Rv (sinT g x5)]) := by
  cases g
  · have := circf h5' k5 (sq_nn x5)
    rwa [circ_x, circ_y] at this
  · exact circh
theorem moved_k {n1 : Bool} {a1 b1 : ByteArray} {x1 : Rat} {K1 : Nat}{n2 : Bool} {a2 b2 : ByteArray} {x2 : Rat} {K2 : Nat}{n3 : Bool} {a3 b3 : ByteArray} {x3 : Rat} {K3 : Nat}{n4 : Bool} {a4 b4 : ByteArray} {x4 : Rat} {K4 : Nat}{n5 : Bool} {a5 b5 : ByteArray} {x5 : Rat} {K5 : Nat}{g : Bool} (h1' : IsR n1 a1 b1 x1 K1) (k1 : K1 ≤ 500000000) (h2' : IsR n2 a2 b2 x2 K2) (k2 : K2 ≤ 500000000) (h3' : IsR n3 a3 b3 x3 K3) (k3 : K3 ≤ 500000000) (h4' : IsR n4 a4 b4 x4 K4) (k4 : K4 ≤ 500000000) (h5' : IsR n5 a5 b5 x5 K5) (k5 : K5 ≤ 500000000)  : CSpec Tryd.prog 24 #[(ag [rr n3 a3 b3, rr n4 a4 b4, [.bool g], rr n5 a5 b5]), (ag [rr n1 a1 b1, rr n2 a2 b2])] (ag [rc (x3 + (x1 * cosT g x5 - x2 * sinT g x5)), rc (x4 + (x1 * sinT g x5 + x2 * cosT g x5))]) := by
  have s0 := (cosT_s (h := g) (szr h5'))
  have s1 := (isR_s s0)
  have s2 := (sinT_s (h := g) (szr h5'))
  have s3 := (isR_s s2)
  have s4 := (mul_s (szr h1') s0)
  have s5 := (isR_s s4)
  have s6 := (mul_s (szr h2') s2)
  have s7 := (isR_s s6)
  have s8 := (sub_s s4 s6)
  have s9 := (isR_s s8)
  have s10 := (mul_s (szr h1') s2)
  have s11 := (isR_s s10)
  have s12 := (mul_s (szr h2') s0)
  have s13 := (isR_s s12)
  have s14 := (add_s s10 s12)
  have s15 := (isR_s s14)
  exact fn_ok Tryd.func24 (sc := [(1,2,.fix (.tuple #[Rv (cosT g x5), Rv (sinT g x5)])), (2,6,.fix (Rv (x1 * cosT g x5))), (2,10,.fix (Rv (x2 * sinT g x5))), (2,11,.fix (Rv (x1 * cosT g x5 - x2 * sinT g x5))), (2,12,.fix (Rv (x3 + (x1 * cosT g x5 - x2 * sinT g x5)))), (2,19,.fix (Rv (x1 * sinT g x5))), (2,23,.fix (Rv (x2 * cosT g x5))), (2,24,.fix (Rv (x1 * sinT g x5 + x2 * cosT g x5))), (2,25,.fix (Rv (x4 + (x1 * sinT g x5 + x2 * cosT g x5))))]) (sb := []) (by kernel_rfl) (hC (circle_k (g := g) h5' k5) (hC (mul_k h1' s1 (by omega)) (hC (mul_k h2' s3 (by omega)) (hC (sub_k s5 s7 (by omega)) (hC (add_k h3' s9 (by omega)) (hC (mul_k h1' s3 (by omega)) (hC (mul_k h2' s1 (by omega)) (hC (add_k s11 s13 (by omega)) (hC (add_k h4' s15 (by omega)) hN)))))))))
theorem turnof1 {n1 : Bool} {a1 b1 : ByteArray} {x1 : Rat} {K1 : Nat}{n2 : Bool} {a2 b2 : ByteArray} {x2 : Rat} {K2 : Nat} (h1' : IsR n1 a1 b1 x1 K1) (k1 : K1 ≤ 2000000000) (h2' : IsR n2 a2 b2 x2 K2) (k2 : K2 ≤ 2000000000) (h4 : (1 : Rat) + x1 ≠ (0 : Rat)) : CSpec Tryd.prog 38 #[(rv n1 a1 b1), (rv n2 a2 b2)] (ag [[.bool false], rc (x2 / ((1 : Rat) + x1))]) := by
  have s0 := sz1_s
  have s1 := (isR_s s0)
  have s2 := (add_s s0 (szr h1'))
  have s3 := (isR_s s2)
  exact fn_ok Tryd.func38 (sc := [(1,1,.fix (Rv (1 : Rat))), (1,3,.fix (Rv ((1 : Rat) + x1))), (1,4,.fix (.tuple #[Rv (x2 / ((1 : Rat) + x1)), .int IntKind.i64 (0 : Int)]))]) (sb := []) (by kernel_rfl) (hC ri1_k (hC (add_k s1 h1' (by omega)) (hC (div_k h2' s3 (by omega) h4) hN)))
theorem turnofz {n1 : Bool} {a1 b1 : ByteArray} {x1 : Rat} {K1 : Nat}{n2 : Bool} {a2 b2 : ByteArray} {x2 : Rat} {K2 : Nat} (h1' : IsR n1 a1 b1 x1 K1) (k1 : K1 ≤ 2000000000) (h2' : IsR n2 a2 b2 x2 K2) (k2 : K2 ≤ 2000000000) (h4 : (1 : Rat) + x1 = (0 : Rat)) : CSpec Tryd.prog 38 #[(rv n1 a1 b1), (rv n2 a2 b2)] (ag [[.bool true], rc (0 : Rat)]) := by
  have s0 := sz1_s
  have s1 := (isR_s s0)
  have s2 := (add_s s0 (szr h1'))
  have s3 := (isR_s s2)
  exact fn_ok Tryd.func38 (sc := [(1,1,.fix (Rv (1 : Rat))), (1,3,.fix (Rv ((1 : Rat) + x1))), (1,4,.fix (.tuple #[ag [[.bool false], [.string ({ data := #[] })], [.string ({ data := #[] })]], .int IntKind.i64 (12 : Int)])), (3,0,.fix (Rv (0 : Rat)))]) (sb := []) (by kernel_rfl) (hC ri1_k (hC (add_k s1 h1' (by omega)) (hC (divz_k h2' s3 (by omega) h4) (hC ri0_k hN))))
def tof (c s : Rat) : Bool × Rat := if 1 + c = 0 then (true, 0) else (false, s / (1 + c))
theorem turnof_k {n1 : Bool} {a1 b1 : ByteArray} {x1 : Rat} {K1 : Nat}{n2 : Bool} {a2 b2 : ByteArray} {x2 : Rat} {K2 : Nat} (h1' : IsR n1 a1 b1 x1 K1) (k1 : K1 ≤ 2000000000) (h2' : IsR n2 a2 b2 x2 K2) (k2 : K2 ≤ 2000000000) : CSpec Tryd.prog 38 #[rv n1 a1 b1, rv n2 a2 b2] (ag [[.bool (tof x1 x2).1], rc (tof x1 x2).2]) := by
  unfold tof
  split
  · rename_i h
    exact turnofz h1' k1 h2' k2 h
  · rename_i h
    exact turnof1 h1' k1 h2' k2 h
theorem tof_s {c s : Rat} {K L : Nat} (hc : Sz c K) (hs : Sz s L) : Sz (tof c s).2 (K + L + 8) := by
  unfold tof
  split
  · exact sz0_s.mono (by omega)
  · exact (div_s hs (sz1_s.add hc)).mono (by omega)
theorem both_k {n1 : Bool} {a1 b1 : ByteArray} {x1 : Rat} {K1 : Nat}{n2 : Bool} {a2 b2 : ByteArray} {x2 : Rat} {K2 : Nat}{g h : Bool} (h1' : IsR n1 a1 b1 x1 K1) (k1 : K1 ≤ 100000000) (h2' : IsR n2 a2 b2 x2 K2) (k2 : K2 ≤ 100000000)  : CSpec Tryd.prog 40 #[(ag [[.bool g], rr n1 a1 b1]), (ag [[.bool h], rr n2 a2 b2])] (ag [[.bool (Prod.fst (tof (cosT g x1 * cosT h x2 - sinT g x1 * sinT h x2) (sinT g x1 * cosT h x2 + cosT g x1 * sinT h x2)))], rc (Prod.snd (tof (cosT g x1 * cosT h x2 - sinT g x1 * sinT h x2) (sinT g x1 * cosT h x2 + cosT g x1 * sinT h x2)))]) := by
  have s0 := (cosT_s (h := g) (szr h1'))
  have s1 := (isR_s s0)
  have s2 := (cosT_s (h := h) (szr h2'))
  have s3 := (isR_s s2)
  have s4 := (sinT_s (h := g) (szr h1'))
  have s5 := (isR_s s4)
  have s6 := (sinT_s (h := h) (szr h2'))
  have s7 := (isR_s s6)
  have s8 := (mul_s s0 s2)
  have s9 := (isR_s s8)
  have s10 := (mul_s s4 s6)
  have s11 := (isR_s s10)
  have s12 := (mul_s s4 s2)
  have s13 := (isR_s s12)
  have s14 := (mul_s s0 s6)
  have s15 := (isR_s s14)
  have s16 := (sub_s s8 s10)
  have s17 := (isR_s s16)
  have s18 := (add_s s12 s14)
  have s19 := (isR_s s18)
  exact fn_ok Tryd.func40 (sc := [(1,1,.fix (.tuple #[Rv (cosT g x1), Rv (sinT g x1)])), (2,1,.fix (.tuple #[Rv (cosT h x2), Rv (sinT h x2)])), (3,2,.fix (Rv (cosT g x1 * cosT h x2))), (3,5,.fix (Rv (sinT g x1 * sinT h x2))), (3,6,.fix (Rv (cosT g x1 * cosT h x2 - sinT g x1 * sinT h x2))), (3,9,.fix (Rv (sinT g x1 * cosT h x2))), (3,12,.fix (Rv (cosT g x1 * sinT h x2))), (3,13,.fix (Rv (sinT g x1 * cosT h x2 + cosT g x1 * sinT h x2))), (3,14,.fix (ag [[.bool (Prod.fst (tof (cosT g x1 * cosT h x2 - sinT g x1 * sinT h x2) (sinT g x1 * cosT h x2 + cosT g x1 * sinT h x2)))], rc (Prod.snd (tof (cosT g x1 * cosT h x2 - sinT g x1 * sinT h x2) (sinT g x1 * cosT h x2 + cosT g x1 * sinT h x2)))]))]) (sb := []) (by kernel_rfl) (hC (circle_k (g := g) h1' (by omega)) (hC (circle_k (g := h) h2' (by omega)) (hC (mul_k s1 s3 (by omega)) (hC (mul_k s5 s7 (by omega)) (hC (sub_k s9 s11 (by omega)) (hC (mul_k s5 s3 (by omega)) (hC (mul_k s1 s7 (by omega)) (hC (add_k s13 s15 (by omega)) (hC (turnof_k s17 (by omega) s19 (by omega)) hN)))))))))
theorem eq1 {n1 : Bool} {a1 b1 : ByteArray} {x1 : Rat} {K1 : Nat}{n2 : Bool} {a2 b2 : ByteArray} {x2 : Rat} {K2 : Nat}{n3 : Bool} {a3 b3 : ByteArray} {x3 : Rat} {K3 : Nat}{n4 : Bool} {a4 b4 : ByteArray} {x4 : Rat} {K4 : Nat} (h1' : IsR n1 a1 b1 x1 K1) (k1 : K1 ≤ 2000000000) (h2' : IsR n2 a2 b2 x2 K2) (k2 : K2 ≤ 2000000000) (h3' : IsR n3 a3 b3 x3 K3) (k3 : K3 ≤ 2000000000) (h4' : IsR n4 a4 b4 x4 K4) (k4 : K4 ≤ 2000000000) (h2 : decide (Int.sign (Rat.num (x1 - x3)) = (0 : Int)) = true) : CSpec Tryd.prog 34 #[(ag [rr n1 a1 b1, rr n2 a2 b2]), (ag [rr n3 a3 b3, rr n4 a4 b4])] (.bool (decide (Int.sign (Rat.num (x2 - x4)) = (0 : Int)))) := by
  have s0 := (sub_s (szr h1') (szr h3'))
  have s1 := (isR_s s0)
  have s3 := (sub_s (szr h2') (szr h4'))
  have s4 := (isR_s s3)
  exact fn_ok Tryd.func34 (sc := [(1,4,.fix (Rv (x1 - x3))), (1,5,.fix (.int IntKind.i64 (Int.sign (Rat.num (x1 - x3))))), (1,6,.is (.c (.bool true))), (1,12,.fix (Rv (x2 - x4))), (1,13,.fix (.int IntKind.i64 (Int.sign (Rat.num (x2 - x4)))))]) (sb := []) (by kernel_rfl) (hC (sub_k h1' h3' (by omega)) (hC (sign_k s1 (by omega)) (hP (isB h2) (hC (sub_k h2' h4' (by omega)) (hC (sign_k s4 (by omega)) hN)))))
theorem eq2 {n1 : Bool} {a1 b1 : ByteArray} {x1 : Rat} {K1 : Nat}{n2 : Bool} {a2 b2 : ByteArray} {x2 : Rat} {K2 : Nat}{n3 : Bool} {a3 b3 : ByteArray} {x3 : Rat} {K3 : Nat}{n4 : Bool} {a4 b4 : ByteArray} {x4 : Rat} {K4 : Nat} (h1' : IsR n1 a1 b1 x1 K1) (k1 : K1 ≤ 2000000000) (h2' : IsR n2 a2 b2 x2 K2) (k2 : K2 ≤ 2000000000) (h3' : IsR n3 a3 b3 x3 K3) (k3 : K3 ≤ 2000000000) (h4' : IsR n4 a4 b4 x4 K4) (k4 : K4 ≤ 2000000000) (h2 : decide (Int.sign (Rat.num (x1 - x3)) = (0 : Int)) = false) : CSpec Tryd.prog 34 #[(ag [rr n1 a1 b1, rr n2 a2 b2]), (ag [rr n3 a3 b3, rr n4 a4 b4])] (.bool false) := by
  have s0 := (sub_s (szr h1') (szr h3'))
  have s1 := (isR_s s0)
  exact fn_ok Tryd.func34 (sc := [(1,4,.fix (Rv (x1 - x3))), (1,5,.fix (.int IntKind.i64 (Int.sign (Rat.num (x1 - x3))))), (1,6,.is (.c (.bool false)))]) (sb := []) (by kernel_rfl) (hC (sub_k h1' h3' (by omega)) (hC (sign_k s1 (by omega)) (hP (isB h2) hN)))
theorem same1 {n1 : Bool} {a1 b1 : ByteArray} {x1 : Rat} {K1 : Nat}{n2 : Bool} {a2 b2 : ByteArray} {x2 : Rat} {K2 : Nat}{n3 : Bool} {a3 b3 : ByteArray} {x3 : Rat} {K3 : Nat}{n4 : Bool} {a4 b4 : ByteArray} {x4 : Rat} {K4 : Nat} (h1' : IsR n1 a1 b1 x1 K1) (k1 : K1 ≤ 2000000000) (h2' : IsR n2 a2 b2 x2 K2) (k2 : K2 ≤ 2000000000) (h3' : IsR n3 a3 b3 x3 K3) (k3 : K3 ≤ 2000000000) (h4' : IsR n4 a4 b4 x4 K4) (k4 : K4 ≤ 2000000000) (h0 : decide (cmpR x1 x3 = (0 : Int)) = true) : CSpec Tryd.prog 33 #[(ag [rr n1 a1 b1, rr n2 a2 b2]), (ag [rr n3 a3 b3, rr n4 a4 b4])] (.bool (decide (cmpR x2 x4 = (0 : Int)))) := by
  exact fn_ok Tryd.func33 (sc := [(1,4,.fix (.int IntKind.i64 (cmpR x1 x3))), (1,5,.is (.c (.bool true))), (1,11,.fix (.int IntKind.i64 (cmpR x2 x4)))]) (sb := []) (by kernel_rfl) (hC (cmp_k h1' h3' (by omega)) (hP (isB h0) (hC (cmp_k h2' h4' (by omega)) hN)))
theorem same2 {n1 : Bool} {a1 b1 : ByteArray} {x1 : Rat} {K1 : Nat}{n2 : Bool} {a2 b2 : ByteArray} {x2 : Rat} {K2 : Nat}{n3 : Bool} {a3 b3 : ByteArray} {x3 : Rat} {K3 : Nat}{n4 : Bool} {a4 b4 : ByteArray} {x4 : Rat} {K4 : Nat} (h1' : IsR n1 a1 b1 x1 K1) (k1 : K1 ≤ 2000000000) (h2' : IsR n2 a2 b2 x2 K2) (k2 : K2 ≤ 2000000000) (h3' : IsR n3 a3 b3 x3 K3) (k3 : K3 ≤ 2000000000) (h4' : IsR n4 a4 b4 x4 K4) (k4 : K4 ≤ 2000000000) (h0 : decide (cmpR x1 x3 = (0 : Int)) = false) : CSpec Tryd.prog 33 #[(ag [rr n1 a1 b1, rr n2 a2 b2]), (ag [rr n3 a3 b3, rr n4 a4 b4])] (.bool false) := by
  exact fn_ok Tryd.func33 (sc := [(1,4,.fix (.int IntKind.i64 (cmpR x1 x3))), (1,5,.is (.c (.bool false)))]) (sb := []) (by kernel_rfl) (hC (cmp_k h1' h3' (by omega)) (hP (isB h0) hN))
theorem st1 {g h : Bool} {x y : Rat} (hg : (g == h) = true) (h0 : Rv x = (Rv y : Value)) : CSpec Tryd.prog 45 #[(ag [[.bool g], rc x]), (ag [[.bool h], rc y])] (.bool true) := by
  exact fn_ok Tryd.func45 (sc := [(1,4,.is (.c (.bool true))), (1,10,.eqs)]) (sb := []) (by kernel_rfl) (hP (isB hg) (hP h0 hN))
theorem reqv_k {n1 : Bool} {a1 b1 : ByteArray} {x1 : Rat} {K1 : Nat}{n2 : Bool} {a2 b2 : ByteArray} {x2 : Rat} {K2 : Nat}{n3 : Bool} {a3 b3 : ByteArray} {x3 : Rat} {K3 : Nat}{n4 : Bool} {a4 b4 : ByteArray} {x4 : Rat} {K4 : Nat} (h1' : IsR n1 a1 b1 x1 K1) (k1 : K1 ≤ 2000000000) (h2' : IsR n2 a2 b2 x2 K2) (k2 : K2 ≤ 2000000000) (h3' : IsR n3 a3 b3 x3 K3) (k3 : K3 ≤ 2000000000) (h4' : IsR n4 a4 b4 x4 K4) (k4 : K4 ≤ 2000000000) : CSpec Tryd.prog 34 #[ag [rr n1 a1 b1, rr n2 a2 b2], ag [rr n3 a3 b3, rr n4 a4 b4]] (.bool (decide (x1 = x3) && decide (x2 = x4))) := by
  have d : ∀ x y : Rat, (x - y).num.sign = 0 ↔ x = y := fun x y => by
    rw [sign_eq]
    constructor <;> intro h <;> grind
  by_cases h : x1 = x3
  · have := eq1 h1' k1 h2' k2 h3' k3 h4' k4 (decide_eq_true ((d _ _).2 h))
    simpa only [d, h, decide_true, Bool.true_and] using this
  · have := eq2 h1' k1 h2' k2 h3' k3 h4' k4 (decide_eq_false (fun hh => h ((d _ _).1 hh)))
    simpa only [h, decide_false, Bool.false_and] using this
theorem vsame_k {n1 : Bool} {a1 b1 : ByteArray} {x1 : Rat} {K1 : Nat}{n2 : Bool} {a2 b2 : ByteArray} {x2 : Rat} {K2 : Nat}{n3 : Bool} {a3 b3 : ByteArray} {x3 : Rat} {K3 : Nat}{n4 : Bool} {a4 b4 : ByteArray} {x4 : Rat} {K4 : Nat} (h1' : IsR n1 a1 b1 x1 K1) (k1 : K1 ≤ 2000000000) (h2' : IsR n2 a2 b2 x2 K2) (k2 : K2 ≤ 2000000000) (h3' : IsR n3 a3 b3 x3 K3) (k3 : K3 ≤ 2000000000) (h4' : IsR n4 a4 b4 x4 K4) (k4 : K4 ≤ 2000000000) : CSpec Tryd.prog 33 #[ag [rr n1 a1 b1, rr n2 a2 b2], ag [rr n3 a3 b3, rr n4 a4 b4]] (.bool (decide (x1 = x3) && decide (x2 = x4))) := by
  by_cases h : x1 = x3
  · have := same1 h1' k1 h2' k2 h3' k3 h4' k4 (decide_eq_true (cmpR_eq.2 h))
    simpa only [cmpR_eq, h, decide_true, Bool.true_and] using this
  · have := same2 h1' k1 h2' k2 h3' k3 h4' k4 (decide_eq_false (fun hh => h (cmpR_eq.1 hh)))
    simpa only [h, decide_false, Bool.false_and] using this
theorem st_k {g h : Bool} {x y : Rat} (hg : g = h) (hx : x = y) : CSpec Tryd.prog 45 #[ag [[.bool g], rc x], ag [[.bool h], rc y]] (.bool true) := st1 (by rw [hg]; exact beq_self_eq_true _) (by rw [hx])
theorem fzero_k    : CSpec Tryd.prog 49 #[] (ag [rc (0 : Rat), rc (0 : Rat), [.bool false], rc (0 : Rat)]) := by
  have s0 := sz0_s
  have s1 := (isR_s s0)
  exact fn_ok Tryd.func49 (sc := [(1,0,.fix (Rv (0 : Rat))), (2,4,.fix (ag [[.bool false], rc (0 : Rat)]))]) (sb := []) (by kernel_rfl) (hC of0_k (hC (tof_k s1 (by decide +kernel)) hN))
theorem fput_k {n1 : Bool} {a1 b1 : ByteArray} {x1 : Rat} {K1 : Nat}{n2 : Bool} {a2 b2 : ByteArray} {x2 : Rat} {K2 : Nat}{n3 : Bool} {a3 b3 : ByteArray} {x3 : Rat} {K3 : Nat}{n4 : Bool} {a4 b4 : ByteArray} {x4 : Rat} {K4 : Nat}{n5 : Bool} {a5 b5 : ByteArray} {x5 : Rat} {K5 : Nat}{g : Bool} (h1' : IsR n1 a1 b1 x1 K1) (k1 : K1 ≤ 100000000) (h2' : IsR n2 a2 b2 x2 K2) (k2 : K2 ≤ 100000000) (h3' : IsR n3 a3 b3 x3 K3) (k3 : K3 ≤ 100000000) (h4' : IsR n4 a4 b4 x4 K4) (k4 : K4 ≤ 100000000) (h5' : IsR n5 a5 b5 x5 K5) (k5 : K5 ≤ 100000000)  : CSpec Tryd.prog 35 #[(ag [rr n3 a3 b3, rr n4 a4 b4, [.bool g], rr n5 a5 b5]), (ag [rr n1 a1 b1, rr n2 a2 b2])] (ag [rc (x3 + (x1 * cosT g x5 - x2 * sinT g x5)), rc (x4 + (x1 * sinT g x5 + x2 * cosT g x5))]) := by
  have s0 := (cosT_s (h := g) (szr h5'))
  have s1 := (mul_s (szr h1') s0)
  have s2 := (sinT_s (h := g) (szr h5'))
  have s3 := (mul_s (szr h2') s2)
  have s4 := (sub_s s1 s3)
  have s5 := (isR_s s4)
  have s6 := (mul_s (szr h1') s2)
  have s7 := (mul_s (szr h2') s0)
  have s8 := (add_s s6 s7)
  have s9 := (isR_s s8)
  exact fn_ok Tryd.func35 (sc := [(1,5,.fix (ag [rc (x1 * cosT g x5 - x2 * sinT g x5), rc (x1 * sinT g x5 + x2 * cosT g x5)])), (1,6,.fix (ag [rc (x3 + (x1 * cosT g x5 - x2 * sinT g x5)), rc (x4 + (x1 * sinT g x5 + x2 * cosT g x5))]))]) (sb := []) (by kernel_rfl) (hC (vturn_k (g := g) h1' (by omega) h2' (by omega) h5' (by omega)) (hC (vadd_k h3' (by omega) h4' (by omega) s5 (by omega) s9 (by omega)) hN))
theorem fthen_k {n1 : Bool} {a1 b1 : ByteArray} {x1 : Rat} {K1 : Nat}{n2 : Bool} {a2 b2 : ByteArray} {x2 : Rat} {K2 : Nat}{n3 : Bool} {a3 b3 : ByteArray} {x3 : Rat} {K3 : Nat}{n4 : Bool} {a4 b4 : ByteArray} {x4 : Rat} {K4 : Nat}{n5 : Bool} {a5 b5 : ByteArray} {x5 : Rat} {K5 : Nat}{n6 : Bool} {a6 b6 : ByteArray} {x6 : Rat} {K6 : Nat}{g h : Bool} (h1' : IsR n1 a1 b1 x1 K1) (k1 : K1 ≤ 100000000) (h2' : IsR n2 a2 b2 x2 K2) (k2 : K2 ≤ 100000000) (h3' : IsR n3 a3 b3 x3 K3) (k3 : K3 ≤ 100000000) (h4' : IsR n4 a4 b4 x4 K4) (k4 : K4 ≤ 100000000) (h5' : IsR n5 a5 b5 x5 K5) (k5 : K5 ≤ 100000000) (h6' : IsR n6 a6 b6 x6 K6) (k6 : K6 ≤ 100000000)  : CSpec Tryd.prog 50 #[(ag [rr n3 a3 b3, rr n4 a4 b4, [.bool g], rr n5 a5 b5]), (ag [rr n1 a1 b1, rr n2 a2 b2, [.bool h], rr n6 a6 b6])] (ag [rc (x3 + (x1 * cosT g x5 - x2 * sinT g x5)), rc (x4 + (x1 * sinT g x5 + x2 * cosT g x5)), [.bool (Prod.fst (thn g x5 h x6))], rc (Prod.snd (thn g x5 h x6))]) := by
  exact fn_ok Tryd.func50 (sc := [(1,3,.fix (ag [rc (x3 + (x1 * cosT g x5 - x2 * sinT g x5)), rc (x4 + (x1 * sinT g x5 + x2 * cosT g x5))])), (1,8,.fix (ag [[.bool (Prod.fst (thn g x5 h x6))], rc (Prod.snd (thn g x5 h x6))]))]) (sb := []) (by kernel_rfl) (hC (fput_k (g := g) h1' k1 h2' k2 h3' k3 h4' k4 h5' k5) (hC (tthen_k (h := g) (h' := h) h5' (by omega) h6' (by omega)) hN))
theorem fback_k {n3 : Bool} {a3 b3 : ByteArray} {x3 : Rat} {K3 : Nat}{n4 : Bool} {a4 b4 : ByteArray} {x4 : Rat} {K4 : Nat}{n5 : Bool} {a5 b5 : ByteArray} {x5 : Rat} {K5 : Nat}{g : Bool} (h3' : IsR n3 a3 b3 x3 K3) (k3 : K3 ≤ 100000000) (h4' : IsR n4 a4 b4 x4 K4) (k4 : K4 ≤ 100000000) (h5' : IsR n5 a5 b5 x5 K5) (k5 : K5 ≤ 100000000)  : CSpec Tryd.prog 51 #[(ag [rr n3 a3 b3, rr n4 a4 b4, [.bool g], rr n5 a5 b5])] (ag [rc (((0 : Rat) - x3) * cosT g (-fz g x5) - ((0 : Rat) - x4) * sinT g (-fz g x5)), rc (((0 : Rat) - x3) * sinT g (-fz g x5) + ((0 : Rat) - x4) * cosT g (-fz g x5)), [.bool g], rc (-fz g x5)]) := by
  have s0 := sz0_s
  have s1 := (isR_s s0)
  have s2 := (sub_s s0 (szr h3'))
  have s3 := (isR_s s2)
  have s4 := (sub_s s0 (szr h4'))
  have s5 := (isR_s s4)
  have s6 := (fz_s (h := g) (szr h5'))
  have s7 := (neg_s s6)
  have s8 := (isR_s s7)
  exact fn_ok Tryd.func51 (sc := [(1,2,.fix (ag [[.bool g], rc (-fz g x5)])), (2,0,.fix (ag [rc (0 : Rat), rc (0 : Rat), [.bool false], rc (0 : Rat)])), (2,4,.fix (ag [rc ((0 : Rat) - x3), rc ((0 : Rat) - x4)])), (2,6,.fix (ag [rc (((0 : Rat) - x3) * cosT g (-fz g x5) - ((0 : Rat) - x4) * sinT g (-fz g x5)), rc (((0 : Rat) - x3) * sinT g (-fz g x5) + ((0 : Rat) - x4) * cosT g (-fz g x5))]))]) (sb := []) (by kernel_rfl) (hC (tback_k (h := g) h5' (by omega)) (hC fzero_k (hC (vsub_k s1 (by decide +kernel) s1 (by decide +kernel) h3' (by omega) h4' (by omega)) (hC (vturn_k (g := g) s3 (by omega) s5 (by omega) s8 (by omega)) hN))))
end Go.Proofs.YtikepohhmagdpaaDoor.G
end
section
namespace Go.Proofs.YtikepohhmagdpaaDoor.G
open Go.Proofs.YtikepohhmagdpaaDoor.U Go.RowKit Go.Proofs.YtikepohhmagdpaaDoor.A Go.Proofs.YtikepohhmagdpaaDoor.X
set_option linter.unusedVariables false
set_option maxRecDepth 100000
theorem nt1_k {n : Nat} (h : n = 1) : CSpec Tryd.prog 112 #[.string (M.B n)] (.string ⟨#[49]⟩) := fun w _ => by
  subst h
  rw [B_one1]
  exact nat_Text.calls 40 one1 ⟨#[49]⟩ w (by decide +kernel)
theorem B_two1 : M.B 2 = ⟨#[2]⟩ := by
  have h : M.B (M.V ⟨#[2]⟩) = ⟨#[2]⟩ := SA.lead_of _ (.inr (by decide))
  exact h
theorem nt2_k {n : Nat} (h : n = 2) : CSpec Tryd.prog 112 #[.string (M.B n)] (.string ⟨#[50]⟩) := fun w _ => by
  subst h
  rw [B_two1]
  exact nat_Text.calls 40 ⟨#[2]⟩ ⟨#[50]⟩ w (by decide +kernel)
theorem fitR_k {x : Rat} {K : Nat} (h : Sz x K) (hK : K ≤ 68719476736) : CSpec Tryd.prog 124 #[Rv x] (Rv x) := fit_Rv x (h.mono hK)
theorem rtx    : CSpec Tryd.prog 118 #[(Rv (-1/2))] (.string ({ data := #[(45 : UInt8)] } ++ { data := #[(49 : UInt8)] } ++ ({ data := #[(47 : UInt8)] } ++ { data := #[(50 : UInt8)] }))) := by
  have s0 := szm1_s
  have s1 := sz2_s
  have s2 := (div_s s0 s1)
  exact fn_ok Tryd.func118 (sc := [(1,1,.fix (Rv (-1 / 2 : Rat))), (2,2,.fix (.string ({ data := #[(49 : UInt8)] }))), (6,3,.fix (.string ({ data := #[(50 : UInt8)] })))]) (sb := []) (by kernel_rfl) (hC (fitR_k s2 (by decide +kernel)) (hC (nt1_k (n := Int.natAbs (Rat.num (-1 / 2 : Rat))) (by decide +kernel)) (hC (nt2_k (n := Rat.den (-1 / 2 : Rat)) (by decide +kernel)) hN)))
theorem rtext_k {x : Rat} (h : x = -1/2) : CSpec Tryd.prog 118 #[Rv x] (.string ⟨#[45, 49, 47, 50]⟩) := by
  subst h
  exact rtx
theorem num_k {n m : Int} (hn : -9223372036854775808 ≤ n) (hn2 : n ≤ 9223372036854775807) (hm : -9223372036854775808 ≤ m) (hm2 : m ≤ 9223372036854775807) (h0 : m ≠ 0)  : CSpec Tryd.prog 123 #[(.int .i64 n), (.int .i64 m)] (Rv ((↑n : Rat) / (↑m : Rat))) := by
  exact fn_ok Tryd.func123 (sc := [(1,2,.fix (.tuple #[Rv ((↑n : Rat) / (↑m : Rat)), .int IntKind.i64 (0 : Int)]))]) (sb := []) (by kernel_rfl) (hC (make_k hn hn2 hm hm2 h0) hN)
theorem ratBegun_k    : CSpec Tryd.prog 86 #[] (.bool true) := by
  have s0 := (int_s (n := (2 : Int)) (by decide +kernel))
  have s1 := (int_s (n := (-4 : Int)) (by decide +kernel))
  have s2 := (div_s s0 s1)
  exact fn_ok Tryd.func86 (sc := [(1,0,.fix (.tuple #[Rv ((↑(2 : Int) : Rat) / (↑(-4 : Int) : Rat)), .int IntKind.i64 (0 : Int)])), (2,4,.fix (.string ({ data := #[(45 : UInt8), (49 : UInt8), (47 : UInt8), (50 : UInt8)] }))), (2,9,.fix (.bool true))]) (sb := []) (by kernel_rfl) (hC (make_k (n := (2 : Int)) (m := (-4 : Int)) (by decide +kernel) (by decide +kernel) (by decide +kernel) (by decide +kernel) (by decide +kernel)) (hC (rtext_k (x := (↑(2 : Int) : Rat) / (↑(-4 : Int) : Rat)) (by decide +kernel)) (hC (gooda_k s2 (by decide +kernel)) hN)))
theorem turnBegun_k    : CSpec Tryd.prog 19 #[] (.bool true) := by
  have s0 := (int_s (n := (1 : Int)) (by decide +kernel))
  have s1 := (int_s (n := (2 : Int)) (by decide +kernel))
  have s2 := (div_s s0 s1)
  have s3 := (isR_s s2)
  exact fn_ok Tryd.func19 (sc := [(1,0,.fix (Rv ((↑(1 : Int) : Rat) / (↑(2 : Int) : Rat)))), (1,1,.fix (ag [[.bool false], rc ((↑(1 : Int) : Rat) / (↑(2 : Int) : Rat))])), (2,0,.fix (.bool true)), (2,3,.fix (Rv (cosT false ((↑(1 : Int) : Rat) / (↑(2 : Int) : Rat))))), (2,4,.fix (Rv ((↑(3 : Int) : Rat) / (↑(5 : Int) : Rat)))), (2,9,.fix (Rv (sinT false ((↑(1 : Int) : Rat) / (↑(2 : Int) : Rat))))), (2,10,.fix (Rv ((↑(4 : Int) : Rat) / (↑(5 : Int) : Rat))))]) (sb := []) (by kernel_rfl) (hC (num_k (n := (1 : Int)) (m := (2 : Int)) (by decide +kernel) (by decide +kernel) (by decide +kernel) (by decide +kernel) (by decide +kernel)) (hC (tof_k s3 (by decide +kernel)) (hC ratBegun_k (hC (tcos_k (h := false) s3 (by decide +kernel)) (hC (num_k (n := (3 : Int)) (m := (5 : Int)) (by decide +kernel) (by decide +kernel) (by decide +kernel) (by decide +kernel) (by decide +kernel)) (hC (tsin_k (h := false) s3 (by decide +kernel)) (hC (num_k (n := (4 : Int)) (m := (5 : Int)) (by decide +kernel) (by decide +kernel) (by decide +kernel) (by decide +kernel) (by decide +kernel)) hN)))))))
end Go.Proofs.YtikepohhmagdpaaDoor.G
end
