import Derived.Test.YtikepohhmagdpaaDoorYBA
namespace Go.Proofs.YtikepohhmagdpaaDoor.G
open Go.Proofs.YtikepohhmagdpaaDoor.U Go.RowKit
set_option linter.unusedVariables false
set_option maxRecDepth 100000
theorem sg1 {n1 : Bool} {a1 b1 : ByteArray} {x1 : Rat} {K1 : Nat}{n2 : Bool} {a2 b2 : ByteArray} {x2 : Rat} {K2 : Nat} (h1' : IsR n1 a1 b1 x1 K1) (k1 : K1 ≤ 2000000000) (h2' : IsR n2 a2 b2 x2 K2) (k2 : K2 ≤ 2000000000) (h0 : gd n1 a1 b1 = true) (h1 : gd n2 a2 b2 = true) : CSpec Tryd.prog 57 #[(ag [rr n1 a1 b1, rr n2 a2 b2])] (.bool (decide (cmpR x1 x2 ≤ (0 : Int)))) := by
  exact fn_ok Tryd.func57 (sc := [(1,2,.fix (.bool true)), (1,6,.fix (.bool true)), (1,13,.fix (.int IntKind.i64 (cmpR x1 x2)))]) (sb := []) (by kernel_rfl) (hC (cbool (goodb_k h1' (by omega)) h0) (hC (cbool (goodb_k h2' (by omega)) h1) (hC (cmp_k h1' h2' (by omega)) hN)))
theorem sg2 {n1 : Bool} {a1 b1 : ByteArray} {x1 : Rat} {K1 : Nat}{n2 : Bool} {a2 b2 : ByteArray} {x2 : Rat} {K2 : Nat} (h1' : IsR n1 a1 b1 x1 K1) (k1 : K1 ≤ 2000000000) (h2' : IsR n2 a2 b2 x2 K2) (k2 : K2 ≤ 2000000000) (h0 : gd n1 a1 b1 = true) (h1 : gd n2 a2 b2 = false) : CSpec Tryd.prog 57 #[(ag [rr n1 a1 b1, rr n2 a2 b2])] (.bool false) := by
  exact fn_ok Tryd.func57 (sc := [(1,2,.fix (.bool true)), (1,6,.fix (.bool false))]) (sb := []) (by kernel_rfl) (hC (cbool (goodb_k h1' (by omega)) h0) (hC (cbool (goodb_k h2' (by omega)) h1) hN))
theorem sg3 {n1 : Bool} {a1 b1 : ByteArray} {x1 : Rat} {K1 : Nat}{n2 : Bool} {a2 b2 : ByteArray} {x2 : Rat} {K2 : Nat} (h1' : IsR n1 a1 b1 x1 K1) (k1 : K1 ≤ 2000000000) (h2' : IsR n2 a2 b2 x2 K2) (k2 : K2 ≤ 2000000000) (h0 : gd n1 a1 b1 = false) : CSpec Tryd.prog 57 #[(ag [rr n1 a1 b1, rr n2 a2 b2])] (.bool false) := by
  exact fn_ok Tryd.func57 (sc := [(1,2,.fix (.bool false))]) (sb := []) (by kernel_rfl) (hC (cbool (goodb_k h1' (by omega)) h0) hN)
noncomputable def gs (n1 : Bool) (a1 b1 : ByteArray) (n2 : Bool) (a2 b2 : ByteArray) : Bool := gd n1 a1 b1 && (gd n2 a2 b2 && decide (qv n1 a1 b1 ≤ qv n2 a2 b2))
theorem sgood_k {n1 : Bool} {a1 b1 : ByteArray} {x1 : Rat} {K1 : Nat}{n2 : Bool} {a2 b2 : ByteArray} {x2 : Rat} {K2 : Nat} (h1' : IsR n1 a1 b1 x1 K1) (k1 : K1 ≤ 2000000000) (h2' : IsR n2 a2 b2 x2 K2) (k2 : K2 ≤ 2000000000) : CSpec Tryd.prog 57 #[ag [rr n1 a1 b1, rr n2 a2 b2]] (.bool (gs n1 a1 b1 n2 a2 b2)) := by
  have e1 := h1'.eq
  have e2 := h2'.eq
  unfold gs
  rw [e1, e2]
  cases g1 : gd n1 a1 b1 with
  | false => exact sg3 h1' k1 h2' k2 g1
  | true => cases g2 : gd n2 a2 b2 with
    | false => exact sg2 h1' k1 h2' k2 g1 g2
    | true =>
      have := sg1 h1' k1 h2' k2 g1 g2
      simpa only [cmpR_le, Bool.true_and] using this
theorem sof_k {n1 : Bool} {a1 b1 : ByteArray} {x1 : Rat} {K1 : Nat} (h1' : IsR n1 a1 b1 x1 K1) (k1 : K1 ≤ 2000000000)  : CSpec Tryd.prog 58 #[(rv n1 a1 b1)] (ag [rc x1, rc x1]) := by
  exact fn_ok Tryd.func58 (sc := [(1,2,.fix (Rv x1))]) (sb := []) (by kernel_rfl) (hC (mi_self_k h1' (by omega)) hN)
theorem sf1 {n1 : Bool} {a1 b1 : ByteArray} {x1 : Rat} {K1 : Nat}{n2 : Bool} {a2 b2 : ByteArray} {x2 : Rat} {K2 : Nat} (h1' : IsR n1 a1 b1 x1 K1) (k1 : K1 ≤ 2000000000) (h2' : IsR n2 a2 b2 x2 K2) (k2 : K2 ≤ 2000000000) (h0 : gs n1 a1 b1 n2 a2 b2 = true) : CSpec Tryd.prog 133 #[(ag [rr n1 a1 b1, rr n2 a2 b2])] (ag [rr n1 a1 b1, rr n2 a2 b2]) := by
  exact fn_ok Tryd.func133 (sc := [(1,1,.fix (.bool true))]) (sb := []) (by kernel_rfl) (hC (cbool (sgood_k h1' k1 h2' k2) h0) hN)
theorem sf2 {n1 : Bool} {a1 b1 : ByteArray} {x1 : Rat} {K1 : Nat}{n2 : Bool} {a2 b2 : ByteArray} {x2 : Rat} {K2 : Nat} (h1' : IsR n1 a1 b1 x1 K1) (k1 : K1 ≤ 2000000000) (h2' : IsR n2 a2 b2 x2 K2) (k2 : K2 ≤ 2000000000) (h0 : gs n1 a1 b1 n2 a2 b2 = false) : CSpec Tryd.prog 133 #[(ag [rr n1 a1 b1, rr n2 a2 b2])] (ag [rc (0 : Rat), rc (0 : Rat)]) := by
  have s1 := sz0_s
  have s2 := (isR_s s1)
  exact fn_ok Tryd.func133 (sc := [(1,1,.fix (.bool false)), (2,0,.fix (Rv (0 : Rat))), (2,1,.fix (ag [rc (0 : Rat), rc (0 : Rat)]))]) (sb := []) (by kernel_rfl) (hC (cbool (sgood_k h1' k1 h2' k2) h0) (hC of0_k (hC (sof_k s2 (by decide +kernel)) hN)))
theorem pr1 {n1 : Bool} {a1 b1 : ByteArray} {x1 : Rat} {K1 : Nat}{n2 : Bool} {a2 b2 : ByteArray} {x2 : Rat} {K2 : Nat} (h1' : IsR n1 a1 b1 x1 K1) (k1 : K1 ≤ 2000000000) (h2' : IsR n2 a2 b2 x2 K2) (k2 : K2 ≤ 2000000000) (h0 : gd n1 a1 b1 = true) (h1 : gd n2 a2 b2 = true) (h4 : decide ((0 : Int) ≤ Int.sign (Rat.num (x2 - x1))) = true) : CSpec Tryd.prog 53 #[(ag [rr n1 a1 b1, rr n2 a2 b2])] (ag [rr n1 a1 b1, rr n2 a2 b2]) := by
  have s2 := (sub_s (szr h2') (szr h1'))
  have s3 := (isR_s s2)
  exact fn_ok Tryd.func53 (sc := [(1,2,.fix (.bool true)), (1,6,.fix (.bool true)), (1,13,.fix (Rv (x2 - x1))), (1,14,.fix (.int IntKind.i64 (Int.sign (Rat.num (x2 - x1))))), (1,15,.is (.c (.bool true)))]) (sb := []) (by kernel_rfl) (hC (cbool (goodb_k h1' (by omega)) h0) (hC (cbool (goodb_k h2' (by omega)) h1) (hC (sub_k h2' h1' (by omega)) (hC (sign_k s3 (by omega)) (hP (isB h4) hN)))))
theorem pr2 {n1 : Bool} {a1 b1 : ByteArray} {x1 : Rat} {K1 : Nat}{n2 : Bool} {a2 b2 : ByteArray} {x2 : Rat} {K2 : Nat} (h1' : IsR n1 a1 b1 x1 K1) (k1 : K1 ≤ 2000000000) (h2' : IsR n2 a2 b2 x2 K2) (k2 : K2 ≤ 2000000000) (h0 : gd n1 a1 b1 = true) (h1 : gd n2 a2 b2 = true) (h4 : decide ((0 : Int) ≤ Int.sign (Rat.num (x2 - x1))) = false) : CSpec Tryd.prog 53 #[(ag [rr n1 a1 b1, rr n2 a2 b2])] (ag [rc (0 : Rat), rc (0 : Rat)]) := by
  have s2 := (sub_s (szr h2') (szr h1'))
  have s3 := (isR_s s2)
  exact fn_ok Tryd.func53 (sc := [(1,2,.fix (.bool true)), (1,6,.fix (.bool true)), (1,13,.fix (Rv (x2 - x1))), (1,14,.fix (.int IntKind.i64 (Int.sign (Rat.num (x2 - x1))))), (1,15,.is (.c (.bool false))), (3,0,.fix (Rv (0 : Rat))), (3,1,.fix (Rv (0 : Rat)))]) (sb := []) (by kernel_rfl) (hC (cbool (goodb_k h1' (by omega)) h0) (hC (cbool (goodb_k h2' (by omega)) h1) (hC (sub_k h2' h1' (by omega)) (hC (sign_k s3 (by omega)) (hP (isB h4) (hC ri0_k (hC ri0_k hN)))))))
theorem pr3 {n1 : Bool} {a1 b1 : ByteArray} {x1 : Rat} {K1 : Nat}{n2 : Bool} {a2 b2 : ByteArray} {x2 : Rat} {K2 : Nat} (h1' : IsR n1 a1 b1 x1 K1) (k1 : K1 ≤ 2000000000) (h2' : IsR n2 a2 b2 x2 K2) (k2 : K2 ≤ 2000000000) (h0 : gd n1 a1 b1 = true) (h1 : gd n2 a2 b2 = false) : CSpec Tryd.prog 53 #[(ag [rr n1 a1 b1, rr n2 a2 b2])] (ag [rc (0 : Rat), rc (0 : Rat)]) := by
  exact fn_ok Tryd.func53 (sc := [(1,2,.fix (.bool true)), (1,6,.fix (.bool false)), (3,0,.fix (Rv (0 : Rat))), (3,1,.fix (Rv (0 : Rat)))]) (sb := []) (by kernel_rfl) (hC (cbool (goodb_k h1' (by omega)) h0) (hC (cbool (goodb_k h2' (by omega)) h1) (hC ri0_k (hC ri0_k hN))))
theorem pr4 {n1 : Bool} {a1 b1 : ByteArray} {x1 : Rat} {K1 : Nat}{n2 : Bool} {a2 b2 : ByteArray} {x2 : Rat} {K2 : Nat} (h1' : IsR n1 a1 b1 x1 K1) (k1 : K1 ≤ 2000000000) (h2' : IsR n2 a2 b2 x2 K2) (k2 : K2 ≤ 2000000000) (h0 : gd n1 a1 b1 = false) : CSpec Tryd.prog 53 #[(ag [rr n1 a1 b1, rr n2 a2 b2])] (ag [rc (0 : Rat), rc (0 : Rat)]) := by
  exact fn_ok Tryd.func53 (sc := [(1,2,.fix (.bool false)), (3,0,.fix (Rv (0 : Rat))), (3,1,.fix (Rv (0 : Rat)))]) (sb := []) (by kernel_rfl) (hC (cbool (goodb_k h1' (by omega)) h0) (hC ri0_k (hC ri0_k hN)))
end Go.Proofs.YtikepohhmagdpaaDoor.G
