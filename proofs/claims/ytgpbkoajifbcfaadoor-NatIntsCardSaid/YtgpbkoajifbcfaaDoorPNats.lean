/- The pure statements of the first laws on numbers, as their rows ask for them. -/
import Derived.Test.YtgpbkoajifbcfaaDoorSD
namespace Go.Proofs.YtgpbkoajifbcfaaDoor.SB
open Go.RowKit Go.Proofs.YtgpbkoajifbcfaaDoor.M Go.Proofs.YtgpbkoajifbcfaaDoor.A Go.Proofs.YtgpbkoajifbcfaaDoor.H Go.Proofs.YtgpbkoajifbcfaaDoor.B Go.Proofs.YtgpbkoajifbcfaaDoorW.PrintWords Go.Proofs.YtgpbkoajifbcfaaDoorW.PrintLast Go.Proofs.YtgpbkoajifbcfaaDoorW.PrintMore
theorem wf_i64 {a : Int} (h : (Lit.int .i64 a).wf = true) : -9223372036854775808 ≤ a ∧ a < 9223372036854775808 := by
  have h2 : IntKind.i64.min ≤ a ∧ a ≤ 9223372036854775807 := by simpa [Lit.wf] using h
  have h3 : IntKind.i64.min = -9223372036854775808 := rfl
  omega
theorem natIntsP (a0 : Int) (a1 : ByteArray) (w0 : (Lit.int .i64 a0).wf = true) (w1 : a1.size ≤ 140737488351232) : ∃ k, gantlaw1_NatInts.f k a0 a1 = some true :=
  (natInts a0 a1 (wf_i64 w0).1 (wf_i64 w0).2 w1).rounds
theorem natAddsP (a0 a1 : ByteArray) (_w0 : a0.size ≤ 140737488351232) (_w1 : a1.size ≤ 140737488351232) (hb : a0.size + a1.size ≤ 1048576) : ∃ k, gantlaw1_NatAdds.f k a0 a1 = some true :=
  (natAdds a0 a1 (by omega) (by omega)).rounds
end Go.Proofs.YtgpbkoajifbcfaaDoor.SB
