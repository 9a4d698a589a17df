import Derived.Test.YtikepohhmagdpaaDoorYPB
import Derived.Test.YtikepohhmagdpaaDoorYBA
namespace Go.Proofs.YtikepohhmagdpaaDoor.G
open Go.Proofs.YtikepohhmagdpaaDoor.U Go.RowKit
set_option linter.unusedVariables false
set_option maxRecDepth 100000
theorem ssqz_k {n1 : Bool} {a1 b1 : ByteArray}{n2 : Bool} {a2 b2 : ByteArray}{x y : Rat} {K J1 : Nat} (h1' : IsS n1 a1 b1 n2 a2 b2 x y J1) (p1 : Sz x K) (p2 : Sz y K) (l1 : x ≤ y) (k1 : K ≤ 100000000) (hz : (decide (x ≤ 0) && decide (0 ≤ y)) = true) : CSpec Tryd.prog 71 #[ag [rr n1 a1 b1, rr n2 a2 b2]] (ag [rc 0, rc (mx (x * x) (y * y))]) := ssq1 h1' p1 p2 l1 k1 hz
theorem spanB1   (h7 : gs (decide (Rat.num ((↑(-1 : Int) : Rat) / (↑(2 : Int) : Rat)) < (0 : Int))) (M.B (Int.natAbs (Rat.num ((↑(-1 : Int) : Rat) / (↑(2 : Int) : Rat))))) (M.B (Rat.den ((↑(-1 : Int) : Rat) / (↑(2 : Int) : Rat)))) (decide (Rat.num ((↑(2 : Int) : Rat) / (↑(1 : Int) : Rat)) < (0 : Int))) (M.B (Int.natAbs (Rat.num ((↑(2 : Int) : Rat) / (↑(1 : Int) : Rat))))) (M.B (Rat.den ((↑(2 : Int) : Rat) / (↑(1 : Int) : Rat)))) = true) : CSpec Tryd.prog 52 #[] (.bool true) := by
  have s0 := (int_s (n := (-1 : Int)) (by decide +kernel))
  have s1 := (int_s (n := (2 : Int)) (by decide +kernel))
  have s2 := (div_s s0 s1)
  have s3 := (isR_s s2)
  have s4 := (int_s (n := (1 : Int)) (by decide +kernel))
  have s5 := (div_s s1 s4)
  have s6 := (isR_s s5)
  have s8 := (isS_s s2 s5 (by decide +kernel) (by decide +kernel))
  exact fn_ok Tryd.func52 (sc := [(1,0,.fix (Rv ((↑(-1 : Int) : Rat) / (↑(2 : Int) : Rat)))), (1,1,.fix (Rv ((↑(2 : Int) : Rat) / (↑(1 : Int) : Rat)))), (1,2,.fix (.tuple #[ag [rc ((↑(-1 : Int) : Rat) / (↑(2 : Int) : Rat)), rc ((↑(2 : Int) : Rat) / (↑(1 : Int) : Rat))], .int IntKind.i64 (0 : Int)])), (2,0,.fix (.bool true)), (2,7,.fix (.bool true)), (2,11,.fix (ag [rc (0 : Rat), rc (mx ((↑(-1 : Int) : Rat) / (↑(2 : Int) : Rat) * ((↑(-1 : Int) : Rat) / (↑(2 : Int) : Rat))) ((↑(2 : Int) : Rat) / (↑(1 : Int) : Rat) * ((↑(2 : Int) : Rat) / (↑(1 : Int) : Rat))))])), (2,12,.fix (Rv ((↑(0 : Int) : Rat) / (↑(1 : Int) : Rat)))), (2,13,.fix (Rv ((↑(4 : Int) : Rat) / (↑(1 : Int) : Rat))))]) (sb := []) (by kernel_rfl) (hC (num_k (n := (-1 : Int)) (m := (2 : Int)) (by decide +kernel) (by decide +kernel) (by decide +kernel) (by decide +kernel) (by decide +kernel)) (hC (num_k (n := (2 : Int)) (m := (1 : Int)) (by decide +kernel) (by decide +kernel) (by decide +kernel) (by decide +kernel) (by decide +kernel)) (hC (smakea_k s3 (by decide +kernel) s6 (by decide +kernel) (by decide +kernel)) (hC ratBegun_k (hC (cbool (sgood_k s3 (by decide +kernel) s6 (by decide +kernel)) h7) (hC (ssqz_k s8 s2 s5 (by decide +kernel) (by decide +kernel) (by decide +kernel)) (hC (num_k (n := (0 : Int)) (m := (1 : Int)) (by decide +kernel) (by decide +kernel) (by decide +kernel) (by decide +kernel) (by decide +kernel)) (hC (num_k (n := (4 : Int)) (m := (1 : Int)) (by decide +kernel) (by decide +kernel) (by decide +kernel) (by decide +kernel) (by decide +kernel)) hN))))))))
theorem gs_s {x y : Rat} (hle : x ≤ y) : gs (decide (x.num < 0)) (M.B x.num.natAbs) (M.B x.den) (decide (y.num < 0)) (M.B y.num.natAbs) (M.B y.den) = true := by
  unfold gs
  rw [gd_Rv, gd_Rv, qv_Rv, qv_Rv, decide_eq_true hle]
  rfl
theorem spanBegun_k : CSpec Tryd.prog 52 #[] (.bool true) := spanB1 (gs_s (by decide +kernel))
end Go.Proofs.YtikepohhmagdpaaDoor.G
