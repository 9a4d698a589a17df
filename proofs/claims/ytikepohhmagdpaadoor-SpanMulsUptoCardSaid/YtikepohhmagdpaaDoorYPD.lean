import Derived.Test.YtikepohhmagdpaaDoorYKA
import Derived.Test.YtikepohhmagdpaaDoorYPB
section
namespace Go.Proofs.YtikepohhmagdpaaDoor.G
open Go.Proofs.YtikepohhmagdpaaDoor.U Go.RowKit
set_option linter.unusedVariables false
set_option maxRecDepth 100000
def SzN (m K : Nat) : Prop := m < 256 ^ K
theorem szq_s {x : Rat} {K : Nat} (h : Sz x K) : SzN (x.num.natAbs / x.den) K := Nat.lt_of_le_of_lt (Nat.div_le_self _ _) h.1
theorem szq1_s {x : Rat} {K : Nat} (h : Sz x K) : SzN (x.num.natAbs / x.den + 1) (K + 1) := by
  have h1 := szq_s h
  unfold SzN at *
  have : 256 ^ K * 256 = 256 ^ (K + 1) := (Nat.pow_succ ..).symm
  have : 0 < 256 ^ K := Nat.pow_pos (by decide)
  omega
theorem ndivx_k {x : Rat} {K : Nat} (h : Sz x K) (hK : K ≤ 17179869184) : CSpec Tryd.prog 157 #[.string (M.B x.num.natAbs), .string (M.B x.den)] (.tuple #[.string (M.B (x.num.natAbs / x.den)), .string (M.B (x.num.natAbs % x.den)), .int .i64 0]) := by
  have := div_c (M.B x.num.natAbs) (M.B x.den) (Nat.le_trans h.num (by omega)) (Nat.le_trans h.den (by omega)) (by rw [M.V_B]; exact x.den_nz)
  rwa [M.V_B, M.V_B] at this
theorem nadd1_k {x : Rat} {K : Nat} (h : Sz x K) (hK : K ≤ 17179869184) : CSpec Tryd.prog 146 #[.string (M.B (x.num.natAbs / x.den)), .string ⟨#[1]⟩] (.string (M.B (x.num.natAbs / x.den + 1))) := by
  have := add_c (M.B (x.num.natAbs / x.den)) (M.B 1) (Nat.le_trans (M.size_B_le (szq_s h)) (by omega)) (by rw [B_one1]; decide)
  rw [M.V_B, M.V_B] at this
  rw [B_one1] at this
  exact this
theorem made1_k {n : Bool} {m K : Nat} (hm : SzN m K) (hK : K ≤ 17179869184) : CSpec Tryd.prog 126 #[.bool n, .string (M.B m), .string ⟨#[1]⟩] (Rv ((sgn n m : Int) : Rat)) := by
  have := made_c n m 1 (by decide) (Nat.le_trans (M.size_B_le hm) (by omega)) (by rw [B_one1]; decide)
  rw [B_one1] at this
  rw [Rat.mkRat_one] at this
  exact this
theorem whole1 {x : Rat} {K : Nat} (h1' : Sz x K) (k1 : K ≤ 4000000000) (h0 : decide (Rat.num x < (0 : Int)) = false) : CSpec Tryd.prog 136 #[(Rv x)] (Rv ((↑(sgn false (Int.natAbs (Rat.num x) / Rat.den x)) : Rat))) := by
  have s1 := (szq_s h1')
  exact fn_ok Tryd.func136 (sc := [(1,4,.fix (.tuple #[.string (M.B (Int.natAbs (Rat.num x) / Rat.den x)), .string (M.B (Int.natAbs (Rat.num x) % Rat.den x)), .int IntKind.i64 (0 : Int)])), (2,1,.is (.c (.bool false))), (4,1,.is (.c (.bool false))), (4,3,.fix (Rv ((↑(sgn false (Int.natAbs (Rat.num x) / Rat.den x)) : Rat))))]) (sb := []) (by kernel_rfl) (hC (ndivx_k h1' (by omega)) (hP (isB h0) (hP (isB h0) (hC (made1_k (n := false) s1 (by omega)) hN))))
theorem whole2 {x : Rat} {K : Nat} (h1' : Sz x K) (k1 : K ≤ 4000000000) (h0 : decide (Rat.num x < (0 : Int)) = true) (h1 : (!ByteArray.toList (M.B (Int.natAbs (Rat.num x) % Rat.den x)) == ByteArray.toList { data := #[] }) = false) : CSpec Tryd.prog 136 #[(Rv x)] (Rv ((↑(sgn true (Int.natAbs (Rat.num x) / Rat.den x)) : Rat))) := by
  have s2 := (szq_s h1')
  exact fn_ok Tryd.func136 (sc := [(1,4,.fix (.tuple #[.string (M.B (Int.natAbs (Rat.num x) / Rat.den x)), .string (M.B (Int.natAbs (Rat.num x) % Rat.den x)), .int IntKind.i64 (0 : Int)])), (2,1,.is (.c (.bool true))), (2,4,.is (.c (.bool false))), (4,1,.is (.c (.bool true))), (4,3,.fix (Rv ((↑(sgn true (Int.natAbs (Rat.num x) / Rat.den x)) : Rat))))]) (sb := []) (by kernel_rfl) (hC (ndivx_k h1' (by omega)) (hP (isB h0) (hP (isB h1) (hP (isB h0) (hC (made1_k (n := true) s2 (by omega)) hN)))))
theorem whole3 {x : Rat} {K : Nat} (h1' : Sz x K) (k1 : K ≤ 4000000000) (h0 : decide (Rat.num x < (0 : Int)) = true) (h1 : (!ByteArray.toList (M.B (Int.natAbs (Rat.num x) % Rat.den x)) == ByteArray.toList { data := #[] }) = true) : CSpec Tryd.prog 136 #[(Rv x)] (Rv ((↑(sgn true (Int.natAbs (Rat.num x) / Rat.den x + (1 : Nat))) : Rat))) := by
  have s2 := (szq1_s h1')
  exact fn_ok Tryd.func136 (sc := [(1,4,.fix (.tuple #[.string (M.B (Int.natAbs (Rat.num x) / Rat.den x)), .string (M.B (Int.natAbs (Rat.num x) % Rat.den x)), .int IntKind.i64 (0 : Int)])), (2,1,.is (.c (.bool true))), (2,4,.is (.c (.bool true))), (3,1,.fix (.string (M.B (Int.natAbs (Rat.num x) / Rat.den x + (1 : Nat))))), (4,1,.is (.c (.bool true))), (4,3,.fix (Rv ((↑(sgn true (Int.natAbs (Rat.num x) / Rat.den x + (1 : Nat))) : Rat))))]) (sb := []) (by kernel_rfl) (hC (ndivx_k h1' (by omega)) (hP (isB h0) (hP (isB h1) (hC (nadd1_k h1' (by omega)) (hP (isB h0) (hC (made1_k (n := true) s2 (by omega)) hN))))))
def fl (x : Rat) : Int := x.num / (x.den : Int)
theorem Bn0 {n : Nat} : (!(M.B n).toList == ByteArray.toList { data := #[] }) = decide (n ≠ 0) := by
  by_cases h : n = 0
  · have := str_ne_f (B_nil h)
    rw [decide_eq_false (fun hh => hh h)]
    injection this with h1
    injection h1
  · have := str_ne_t (B_ne h)
    rw [decide_eq_true h]
    injection this with h1
    injection h1
theorem fl_eq (x : Rat) : fl x = if x.num < 0 then (if x.num.natAbs % x.den = 0 then sgn true (x.num.natAbs / x.den) else sgn true (x.num.natAbs / x.den + 1)) else sgn false (x.num.natAbs / x.den) := by
  unfold fl
  have hd : (0 : Int) < x.den := by have := x.den_pos; omega
  split
  · rename_i h
    have e : x.num = -(x.num.natAbs : Int) := by omega
    generalize x.num.natAbs = a at *
    rw [e, Int.neg_ediv]
    by_cases h2 : a % x.den = 0
    · rw [if_pos h2, if_pos (Int.natCast_dvd_natCast.2 (Nat.dvd_of_mod_eq_zero h2))]
      simp [sgn]
    · rw [if_neg h2, if_neg (fun hh => h2 (Nat.mod_eq_zero_of_dvd (Int.natCast_dvd_natCast.1 hh))), Int.sign_eq_one_of_pos hd]
      simp [sgn]
      omega
  · rename_i h
    have e : x.num = (x.num.natAbs : Int) := by omega
    generalize x.num.natAbs = a at *
    rw [e]
    simp [sgn]
theorem whole_k {x : Rat} {K : Nat} (h1' : Sz x K) (k1 : K ≤ 4000000000) : CSpec Tryd.prog 136 #[Rv x] (Rv ((fl x : Int) : Rat)) := by
  rw [fl_eq]
  by_cases h : x.num < 0
  · rw [if_pos h]
    by_cases h2 : x.num.natAbs % x.den = 0
    · rw [if_pos h2]
      exact whole2 h1' k1 (decide_eq_true h) (by rw [Bn0]; exact decide_eq_false (fun hh => hh h2))
    · rw [if_neg h2]
      exact whole3 h1' k1 (decide_eq_true h) (by rw [Bn0]; exact decide_eq_true h2)
  · rw [if_neg h]
    exact whole1 h1' k1 (decide_eq_false h)
end Go.Proofs.YtikepohhmagdpaaDoor.G
end
section
namespace Go.Proofs.YtikepohhmagdpaaDoor.G
open Go.Proofs.YtikepohhmagdpaaDoor.U Go.RowKit
set_option linter.unusedVariables false
set_option maxRecDepth 100000
theorem m1_1 (n : Int) : (1 : Int) ≤ (if (1 : Int) > n then (1 : Int) else n) := by split <;> omega
theorem m1_2 {n : Int} (h : n ≤ 9223372036854775807) : (if (1 : Int) > n then (1 : Int) else n) ≤ 9223372036854775807 := by split <;> omega
theorem nof_k {n : Int} (h : n ≤ 9223372036854775807) : CSpec Tryd.prog 135 #[.int .i64 (if (1 : Int) > n then (1 : Int) else n)] (.string (M.B (if (1 : Int) > n then (1 : Int) else n).toNat)) := of_c _ (Int.lt_of_le_of_lt (m1_2 h) (by decide))
theorem szd_s {n : Int} (h : n ≤ 9223372036854775807) : SzN (if (1 : Int) > n then (1 : Int) else n).toNat 8 := by
  unfold SzN
  have : (256 : Nat) ^ 8 = 18446744073709551616 := by decide
  have := m1_2 h
  have := m1_1 n
  omega
theorem isRn_s {d K : Nat} (h : SzN d K) : IsR false (M.B d) ⟨#[1]⟩ (d : Rat) (K + 1) := by
  have hs : Sz (d : Rat) (K + 1) := by
    refine ⟨?_, ?_⟩
    · show (d : Rat).num.natAbs < _
      rw [Rat.num_natCast, Int.natAbs_natCast]
      exact Nat.lt_of_lt_of_le h (Nat.pow_le_pow_right (by decide) (by omega))
    · rw [Rat.den_natCast]
      exact Nat.one_lt_pow (by omega) (by decide)
  have := isR_s hs
  rw [Rat.num_natCast, Rat.den_natCast, Int.natAbs_natCast, B_one1, decide_eq_false (by omega)] at this
  exact this
def SzI (z : Int) (K : Nat) : Prop := Sz (z : Rat) K
theorem flabs (x : Rat) : (fl x).natAbs ≤ x.num.natAbs / x.den + 1 := by
  rw [fl_eq]
  generalize x.num.natAbs / x.den = q
  unfold sgn
  split
  · split <;> simp only [if_true] <;> omega
  · simp only [Bool.false_eq_true, if_false]
    omega
theorem szfl_s {x : Rat} {K : Nat} (h : Sz x K) : SzI (fl x) (K + 1) := by
  refine ⟨?_, ?_⟩
  · rw [Rat.num_intCast]
    have h1 := szq1_s h
    unfold SzN at h1
    exact Nat.lt_of_le_of_lt (flabs x) h1
  · rw [Rat.den_intCast]
    exact Nat.one_lt_pow (by omega) (by decide)
theorem made2_k {z : Int} {K : Nat} {n : Int} (hz : SzI z K) (hK : K ≤ 17179869184) (hn : n ≤ 9223372036854775807) : CSpec Tryd.prog 126 #[.bool (decide ((z : Rat).num < 0)), .string (M.B (z : Rat).num.natAbs), .string (M.B (if (1 : Int) > n then (1 : Int) else n).toNat)] (Rv (mkRat z (if (1 : Int) > n then (1 : Int) else n).toNat)) := by
  have := made_c (decide ((z : Rat).num < 0)) (z : Rat).num.natAbs (if (1 : Int) > n then (1 : Int) else n).toNat (by have := m1_1 n; omega) (Nat.le_trans hz.num (by omega)) (Nat.le_trans (M.size_B_le (szd_s hn)) (by omega))
  rw [sgn_num, Rat.num_intCast] at this
  rw [Rat.num_intCast]
  exact this
theorem down0 {n1 : Bool} {a1 b1 : ByteArray} {x : Rat} {K : Nat} {n : Int} (h1' : IsR n1 a1 b1 x K) (k1 : K ≤ 1000000000) (hn : n ≤ 9223372036854775807)  : CSpec Tryd.prog 73 #[(rv n1 a1 b1), (.int .i64 n)] (Rv (mkRat (fl (x * (↑(Int.toNat (if (1 : Int) > n then (1 : Int) else n)) : Rat))) (Int.toNat (if (1 : Int) > n then (1 : Int) else n)))) := by
  have s0 := (szd_s hn)
  have s1 := (isRn_s s0)
  have s2 := (mul_s (szr h1') (szr s1))
  have s3 := (szfl_s s2)
  exact fn_ok Tryd.func73 (sc := [(1,2,.fix (.string (M.B (Int.toNat (if (1 : Int) > n then (1 : Int) else n))))), (2,3,.fix (Rv (x * (↑(Int.toNat (if (1 : Int) > n then (1 : Int) else n)) : Rat)))), (2,4,.fix (Rv ((↑(fl (x * (↑(Int.toNat (if (1 : Int) > n then (1 : Int) else n)) : Rat))) : Rat)))), (3,5,.fix (Rv (mkRat (fl (x * (↑(Int.toNat (if (1 : Int) > n then (1 : Int) else n)) : Rat))) (Int.toNat (if (1 : Int) > n then (1 : Int) else n)))))]) (sb := []) (by kernel_rfl) (hC (nof_k hn) (hC (mul_k h1' s1 (by omega)) (hC (whole_k s2 (by omega)) (hC (made2_k s3 (by omega) hn) hN))))
def dn (x : Rat) (n : Int) : Rat := mkRat (fl (x * ((if (1 : Int) > n then (1 : Int) else n).toNat : Rat))) (if (1 : Int) > n then (1 : Int) else n).toNat
theorem dn_s {x : Rat} {n : Int} {K : Nat} (h : Sz x K) (hn : n ≤ 9223372036854775807) : Sz (dn x n) (K + 10) := by
  have h1 : Sz (((if (1 : Int) > n then (1 : Int) else n).toNat : Nat) : Rat) 9 := (isRn_s (szd_s hn)).sz
  have h2 := szfl_s (h.mul h1)
  unfold SzI Sz at h2
  rw [Rat.num_intCast] at h2
  refine Sz.mk (by have := m1_1 n; omega) (by simpa using h2.1) ?_
  have h3 := szd_s hn
  unfold SzN at h3
  exact Nat.lt_of_lt_of_le h3 (Nat.pow_le_pow_right (by decide) (by omega))
theorem down_k {n1 : Bool} {a1 b1 : ByteArray} {x : Rat} {K : Nat} {n : Int} (h1' : IsR n1 a1 b1 x K) (k1 : K ≤ 1000000000) (hn : n ≤ 9223372036854775807) : CSpec Tryd.prog 73 #[rv n1 a1 b1, .int .i64 n] (Rv (dn x n)) := down0 h1' k1 hn
theorem up_k {n1 : Bool} {a1 b1 : ByteArray} {x : Rat} {K : Nat} {n : Int} (h1' : IsR n1 a1 b1 x K) (k1 : K ≤ 500000000) (hn : n ≤ 9223372036854775807)  : CSpec Tryd.prog 74 #[(rv n1 a1 b1), (.int .i64 n)] (Rv (-dn (-x) n)) := by
  have s0 := (neg_s (szr h1'))
  have s1 := (isR_s s0)
  have s2 := (dn_s s0 hn)
  have s3 := (isR_s s2)
  exact fn_ok Tryd.func74 (sc := [(1,1,.fix (Rv (-x))), (1,3,.fix (Rv (dn (-x) n))), (1,4,.fix (Rv (-dn (-x) n)))]) (sb := []) (by kernel_rfl) (hC (neg_k h1' (by omega)) (hC (down_k s1 (by omega) hn) (hC (neg_k s3 (by omega)) hN)))
end Go.Proofs.YtikepohhmagdpaaDoor.G
end
section
namespace Go.Proofs.YtikepohhmagdpaaDoor.G
open Go.Proofs.YtikepohhmagdpaaDoor.U Go.RowKit
set_option linter.unusedVariables false
set_option maxRecDepth 100000
theorem sout_k {n1 : Bool} {a1 b1 : ByteArray}{n2 : Bool} {a2 b2 : ByteArray}{x y : Rat} {K J1 : Nat} {n : Int} (h1' : IsS n1 a1 b1 n2 a2 b2 x y J1) (p1 : Sz x K) (p2 : Sz y K) (l1 : x ≤ y) (k1 : K ≤ 20000000) (hn : n ≤ 9223372036854775807)  : CSpec Tryd.prog 72 #[(ag [rr n1 a1 b1, rr n2 a2 b2]), (.int .i64 n)] (ag [rc (dn x n), rc (-dn (-y) n)]) := by
  have s0 := (isR_s p1)
  have s1 := (isR_s p2)
  exact fn_ok Tryd.func72 (sc := [(1,1,.fix (ag [rc x, rc y])), (2,3,.fix (Rv (dn x n))), (2,7,.fix (Rv (-dn (-y) n)))]) (sb := []) (by kernel_rfl) (hC (sfit_k h1') (hC (down_k s0 (by omega) hn) (hC (up_k s1 (by omega) hn) hN)))
theorem sdiv1 {n1 : Bool} {a1 b1 : ByteArray}{n2 : Bool} {a2 b2 : ByteArray}{n3 : Bool} {a3 b3 : ByteArray}{n4 : Bool} {a4 b4 : ByteArray}{x y z u : Rat} {K L J1 J3 : Nat} (h1' : IsS n1 a1 b1 n2 a2 b2 x y J1) (p1 : Sz x K) (p2 : Sz y K) (l1 : x ≤ y) (k1 : K ≤ 20000000)(h3' : IsS n3 a3 b3 n4 a4 b4 z u J3) (p3 : Sz z L) (p4 : Sz u L) (l3 : z ≤ u) (k3 : L ≤ 20000000) (h2 : decide (IntKind.wrap IntKind.i64 (Int.sign (Rat.num z) * Int.sign (Rat.num u)) ≤ (0 : Int)) = true) : CSpec Tryd.prog 67 #[(ag [rr n1 a1 b1, rr n2 a2 b2]), (ag [rr n3 a3 b3, rr n4 a4 b4])] (.tuple #[ag [[.bool false], [.string ({ data := #[] })], [.string ({ data := #[] })], [.bool false], [.string ({ data := #[] })], [.string ({ data := #[] })]], .int IntKind.i64 (12 : Int)]) := by
  have s0 := (isR_s p3)
  have s1 := (isR_s p4)
  exact fn_ok Tryd.func67 (sc := [(1,1,.fix (ag [rc x, rc y])), (1,3,.fix (ag [rc z, rc u])), (2,2,.fix (.int IntKind.i64 (Int.sign (Rat.num z)))), (2,5,.fix (.int IntKind.i64 (Int.sign (Rat.num u)))), (2,7,.is (.c (.bool true)))]) (sb := []) (by kernel_rfl) (hC (sfit_k h1') (hC (sfit_k h3') (hC (sign_k s0 (by omega)) (hC (sign_k s1 (by omega)) (hP (isB h2) hN)))))
theorem sdiv2 {n1 : Bool} {a1 b1 : ByteArray}{n2 : Bool} {a2 b2 : ByteArray}{n3 : Bool} {a3 b3 : ByteArray}{n4 : Bool} {a4 b4 : ByteArray}{x y z u : Rat} {K L J1 J3 : Nat} (h1' : IsS n1 a1 b1 n2 a2 b2 x y J1) (p1 : Sz x K) (p2 : Sz y K) (l1 : x ≤ y) (k1 : K ≤ 20000000)(h3' : IsS n3 a3 b3 n4 a4 b4 z u J3) (p3 : Sz z L) (p4 : Sz u L) (l3 : z ≤ u) (k3 : L ≤ 20000000) (h2 : decide (IntKind.wrap IntKind.i64 (Int.sign (Rat.num z) * Int.sign (Rat.num u)) ≤ (0 : Int)) = false) (h5 : u ≠ (0 : Rat)) (h6 : z ≠ (0 : Rat)) (h10 : (1 : Rat) / u ≤ (1 : Rat) / z) : CSpec Tryd.prog 67 #[(ag [rr n1 a1 b1, rr n2 a2 b2]), (ag [rr n3 a3 b3, rr n4 a4 b4])] (.tuple #[ag [rc (mn (mn (mn (x * ((1 : Rat) / u)) (x * ((1 : Rat) / z))) (y * ((1 : Rat) / u))) (y * ((1 : Rat) / z))), rc (mx (mx (mx (x * ((1 : Rat) / u)) (x * ((1 : Rat) / z))) (y * ((1 : Rat) / u))) (y * ((1 : Rat) / z)))], .int IntKind.i64 (0 : Int)]) := by
  have s0 := (isR_s p3)
  have s1 := (isR_s p4)
  have s3 := sz1_s
  have s4 := (isR_s s3)
  have s7 := (isS_s p1 p2 l1 (by omega))
  have s8 := (div_s s3 p4)
  have s9 := (div_s s3 p3)
  have s11 := (isS_s s8 s9 h10 (by omega))
  exact fn_ok Tryd.func67 (sc := [(1,1,.fix (ag [rc x, rc y])), (1,3,.fix (ag [rc z, rc u])), (2,2,.fix (.int IntKind.i64 (Int.sign (Rat.num z)))), (2,5,.fix (.int IntKind.i64 (Int.sign (Rat.num u)))), (2,7,.is (.c (.bool false))), (4,0,.fix (Rv (1 : Rat))), (4,3,.fix (.tuple #[Rv ((1 : Rat) / u), .int IntKind.i64 (0 : Int)])), (5,0,.fix (Rv (1 : Rat))), (5,3,.fix (.tuple #[Rv ((1 : Rat) / z), .int IntKind.i64 (0 : Int)])), (6,4,.fix (ag [rc (mn (mn (mn (x * ((1 : Rat) / u)) (x * ((1 : Rat) / z))) (y * ((1 : Rat) / u))) (y * ((1 : Rat) / z))), rc (mx (mx (mx (x * ((1 : Rat) / u)) (x * ((1 : Rat) / z))) (y * ((1 : Rat) / u))) (y * ((1 : Rat) / z)))]))]) (sb := []) (by kernel_rfl) (hC (sfit_k h1') (hC (sfit_k h3') (hC (sign_k s0 (by omega)) (hC (sign_k s1 (by omega)) (hP (isB h2) (hC of1_k (hC (div_k s4 s1 (by omega) h5) (hC of1_k (hC (div_k s4 s0 (by omega) h6) (hC (smul_k s7 p1 p2 l1 (by omega) s11 s8 s9 h10 (by omega)) hN))))))))))
theorem mdiv_k {n1 : Bool} {a1 b1 : ByteArray}{n2 : Bool} {a2 b2 : ByteArray}{x y : Rat} {K L : Nat} (h1' : IsR n1 a1 b1 x K) (k1 : K ≤ 20000000)(h2' : IsR n2 a2 b2 y L) (k2 : L ≤ 20000000)(h0 : y ≠ 0)  : CSpec Tryd.prog 68 #[(rv n1 a1 b1), (rv n2 a2 b2)] (Rv (x / y)) := by
  exact fn_ok Tryd.func68 (sc := [(1,2,.fix (.tuple #[Rv (x / y), .int IntKind.i64 (0 : Int)]))]) (sb := []) (by kernel_rfl) (hC (div_k h1' h2' (by omega) h0) hN)
theorem rendsDiv_k {n1 : Bool} {a1 b1 : ByteArray}{n2 : Bool} {a2 b2 : ByteArray}{n3 : Bool} {a3 b3 : ByteArray}{n4 : Bool} {a4 b4 : ByteArray}{x y z u : Rat} {K L J1 J3 : Nat} (h1' : IsS n1 a1 b1 n2 a2 b2 x y J1) (p1 : Sz x K) (p2 : Sz y K) (l1 : x ≤ y) (k1 : K ≤ 20000000)(h3' : IsS n3 a3 b3 n4 a4 b4 z u J3) (p3 : Sz z L) (p4 : Sz u L) (l3 : z ≤ u) (k3 : L ≤ 20000000)(z0 : z ≠ 0) (u0 : u ≠ 0)  : CSpec Tryd.prog 61 #[(ag [rr n1 a1 b1, rr n2 a2 b2]), (ag [rr n3 a3 b3, rr n4 a4 b4]), (.func (.func 68) #[] #[])] (ag [rc (mn (mn (mn (x / z) (x / u)) (y / z)) (y / u)), rc (mx (mx (mx (x / z) (x / u)) (y / z)) (y / u))]) := by
  have s0 := (isR_s p1)
  have s1 := (isR_s p3)
  have s2 := (isR_s p4)
  have s3 := (isR_s p2)
  have s4 := (div_s p1 p3)
  have s5 := (div_s p1 p4)
  have s6 := (div_s p2 p3)
  have s7 := (div_s p2 p4)
  exact fn_ok Tryd.func61 (sc := [(1,1,.fix (ag [rc x, rc y])), (1,3,.fix (ag [rc z, rc u])), (2,5,.fix (Rv (x / z))), (2,11,.fix (Rv (x / u))), (2,17,.fix (Rv (y / z))), (2,23,.fix (Rv (y / u))), (2,25,.read (ag [rc (mn (mn (mn (x / z) (x / u)) (y / z)) (y / u)), rc (mx (mx (mx (x / z) (x / u)) (y / z)) (y / u))]))]) (sb := []) (by kernel_rfl) (hC (rpair_k h1') (hC (rpair_k h3') (hC (mdiv_k s0 k1 s1 k3 z0) (hC (mdiv_k s0 k1 s2 k3 u0) (hC (mdiv_k s3 k1 s1 k3 z0) (hC (mdiv_k s3 k1 s2 k3 u0) (hF (rAround4_k s4 s5 s6 s7 (by omega)) hN)))))))
end Go.Proofs.YtikepohhmagdpaaDoor.G
end
