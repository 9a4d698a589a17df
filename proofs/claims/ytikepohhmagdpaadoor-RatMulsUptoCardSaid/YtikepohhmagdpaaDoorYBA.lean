import Derived.Test.YtikepohhmagdpaaDoorYKA
import Derived.Test.YtikepohhmagdpaaDoorYX0
import Derived.Test.YtikepohhmagdpaaDoorYX1
section
namespace Go.Proofs.YtikepohhmagdpaaDoor.G
open Go.Proofs.YtikepohhmagdpaaDoor.U Go.RowKit
set_option linter.unusedVariables false
set_option maxRecDepth 100000
theorem sz2_s : Sz 2 1 := ⟨by decide, by decide⟩
theorem szm1_s : Sz (-1) 1 := ⟨by decide, by decide⟩
end Go.Proofs.YtikepohhmagdpaaDoor.G
end
section
namespace Go.Proofs.YtikepohhmagdpaaDoor.G
open Go.Proofs.YtikepohhmagdpaaDoor.U Go.RowKit
set_option linter.unusedVariables false
set_option maxRecDepth 100000
theorem eq1 {n1 : Bool} {a1 b1 : ByteArray} {x1 : Rat} {K1 : Nat}{n2 : Bool} {a2 b2 : ByteArray} {x2 : Rat} {K2 : Nat}{n3 : Bool} {a3 b3 : ByteArray} {x3 : Rat} {K3 : Nat}{n4 : Bool} {a4 b4 : ByteArray} {x4 : Rat} {K4 : Nat} (h1' : IsR n1 a1 b1 x1 K1) (k1 : K1 ≤ 2000000000) (h2' : IsR n2 a2 b2 x2 K2) (k2 : K2 ≤ 2000000000) (h3' : IsR n3 a3 b3 x3 K3) (k3 : K3 ≤ 2000000000) (h4' : IsR n4 a4 b4 x4 K4) (k4 : K4 ≤ 2000000000) (h2 : decide (Int.sign (Rat.num (x1 - x3)) = (0 : Int)) = true) : CSpec Tryd.prog 34 #[(ag [rr n1 a1 b1, rr n2 a2 b2]), (ag [rr n3 a3 b3, rr n4 a4 b4])] (.bool (decide (Int.sign (Rat.num (x2 - x4)) = (0 : Int)))) := by
  have s0 := (sub_s (szr h1') (szr h3'))
  have s1 := (isR_s s0)
  have s3 := (sub_s (szr h2') (szr h4'))
  have s4 := (isR_s s3)
  exact fn_ok Tryd.func34 (sc := [(1,4,.fix (Rv (x1 - x3))), (1,5,.fix (.int IntKind.i64 (Int.sign (Rat.num (x1 - x3))))), (1,6,.is (.c (.bool true))), (1,12,.fix (Rv (x2 - x4))), (1,13,.fix (.int IntKind.i64 (Int.sign (Rat.num (x2 - x4)))))]) (sb := []) (by kernel_rfl) (hC (sub_k h1' h3' (by omega)) (hC (sign_k s1 (by omega)) (hP (isB h2) (hC (sub_k h2' h4' (by omega)) (hC (sign_k s4 (by omega)) hN)))))
theorem eq2 {n1 : Bool} {a1 b1 : ByteArray} {x1 : Rat} {K1 : Nat}{n2 : Bool} {a2 b2 : ByteArray} {x2 : Rat} {K2 : Nat}{n3 : Bool} {a3 b3 : ByteArray} {x3 : Rat} {K3 : Nat}{n4 : Bool} {a4 b4 : ByteArray} {x4 : Rat} {K4 : Nat} (h1' : IsR n1 a1 b1 x1 K1) (k1 : K1 ≤ 2000000000) (h2' : IsR n2 a2 b2 x2 K2) (k2 : K2 ≤ 2000000000) (h3' : IsR n3 a3 b3 x3 K3) (k3 : K3 ≤ 2000000000) (h4' : IsR n4 a4 b4 x4 K4) (k4 : K4 ≤ 2000000000) (h2 : decide (Int.sign (Rat.num (x1 - x3)) = (0 : Int)) = false) : CSpec Tryd.prog 34 #[(ag [rr n1 a1 b1, rr n2 a2 b2]), (ag [rr n3 a3 b3, rr n4 a4 b4])] (.bool false) := by
  have s0 := (sub_s (szr h1') (szr h3'))
  have s1 := (isR_s s0)
  exact fn_ok Tryd.func34 (sc := [(1,4,.fix (Rv (x1 - x3))), (1,5,.fix (.int IntKind.i64 (Int.sign (Rat.num (x1 - x3))))), (1,6,.is (.c (.bool false)))]) (sb := []) (by kernel_rfl) (hC (sub_k h1' h3' (by omega)) (hC (sign_k s1 (by omega)) (hP (isB h2) hN)))
end Go.Proofs.YtikepohhmagdpaaDoor.G
end
section
namespace Go.Proofs.YtikepohhmagdpaaDoor.G
open Go.Proofs.YtikepohhmagdpaaDoor.U Go.RowKit Go.Proofs.YtikepohhmagdpaaDoor.A Go.Proofs.YtikepohhmagdpaaDoor.X
set_option linter.unusedVariables false
set_option maxRecDepth 100000
theorem nt1_k {n : Nat} (h : n = 1) : CSpec Tryd.prog 112 #[.string (M.B n)] (.string ⟨#[49]⟩) := fun w _ => by
  subst h
  rw [B_one1]
  exact nat_Text.calls 40 one1 ⟨#[49]⟩ w (by decide +kernel)
theorem B_two1 : M.B 2 = ⟨#[2]⟩ := by
  have h : M.B (M.V ⟨#[2]⟩) = ⟨#[2]⟩ := SA.lead_of _ (.inr (by decide))
  exact h
theorem nt2_k {n : Nat} (h : n = 2) : CSpec Tryd.prog 112 #[.string (M.B n)] (.string ⟨#[50]⟩) := fun w _ => by
  subst h
  rw [B_two1]
  exact nat_Text.calls 40 ⟨#[2]⟩ ⟨#[50]⟩ w (by decide +kernel)
theorem fitR_k {x : Rat} {K : Nat} (h : Sz x K) (hK : K ≤ 68719476736) : CSpec Tryd.prog 124 #[Rv x] (Rv x) := fit_Rv x (h.mono hK)
theorem rtx    : CSpec Tryd.prog 118 #[(Rv (-1/2))] (.string ({ data := #[(45 : UInt8)] } ++ { data := #[(49 : UInt8)] } ++ ({ data := #[(47 : UInt8)] } ++ { data := #[(50 : UInt8)] }))) := by
  have s0 := szm1_s
  have s1 := sz2_s
  have s2 := (div_s s0 s1)
  exact fn_ok Tryd.func118 (sc := [(1,1,.fix (Rv (-1 / 2 : Rat))), (2,2,.fix (.string ({ data := #[(49 : UInt8)] }))), (6,3,.fix (.string ({ data := #[(50 : UInt8)] })))]) (sb := []) (by kernel_rfl) (hC (fitR_k s2 (by decide +kernel)) (hC (nt1_k (n := Int.natAbs (Rat.num (-1 / 2 : Rat))) (by decide +kernel)) (hC (nt2_k (n := Rat.den (-1 / 2 : Rat)) (by decide +kernel)) hN)))
theorem rtext_k {x : Rat} (h : x = -1/2) : CSpec Tryd.prog 118 #[Rv x] (.string ⟨#[45, 49, 47, 50]⟩) := by
  subst h
  exact rtx
theorem ratBegun_k    : CSpec Tryd.prog 86 #[] (.bool true) := by
  have s0 := (int_s (n := (2 : Int)) (by decide +kernel))
  have s1 := (int_s (n := (-4 : Int)) (by decide +kernel))
  have s2 := (div_s s0 s1)
  exact fn_ok Tryd.func86 (sc := [(1,0,.fix (.tuple #[Rv ((↑(2 : Int) : Rat) / (↑(-4 : Int) : Rat)), .int IntKind.i64 (0 : Int)])), (2,4,.fix (.string ({ data := #[(45 : UInt8), (49 : UInt8), (47 : UInt8), (50 : UInt8)] }))), (2,9,.fix (.bool true))]) (sb := []) (by kernel_rfl) (hC (make_k (n := (2 : Int)) (m := (-4 : Int)) (by decide +kernel) (by decide +kernel) (by decide +kernel) (by decide +kernel) (by decide +kernel)) (hC (rtext_k (x := (↑(2 : Int) : Rat) / (↑(-4 : Int) : Rat)) (by decide +kernel)) (hC (gooda_k s2 (by decide +kernel)) hN)))
end Go.Proofs.YtikepohhmagdpaaDoor.G
end
