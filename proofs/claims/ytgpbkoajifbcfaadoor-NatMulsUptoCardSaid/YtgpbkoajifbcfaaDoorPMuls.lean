/- The pure statement of NatMuls, as its row asks for it. -/
import Derived.Test.YtgpbkoajifbcfaaDoorSR
namespace Go.Proofs.YtgpbkoajifbcfaaDoor.SB
open Go.RowKit Go.Proofs.YtgpbkoajifbcfaaDoor.M Go.Proofs.YtgpbkoajifbcfaaDoor.A Go.Proofs.YtgpbkoajifbcfaaDoor.H Go.Proofs.YtgpbkoajifbcfaaDoor.B Go.Proofs.YtgpbkoajifbcfaaDoor.C Go.Proofs.YtgpbkoajifbcfaaDoorW.PrintWords Go.Proofs.YtgpbkoajifbcfaaDoorW.PrintLast Go.Proofs.YtgpbkoajifbcfaaDoorW.PrintMore
theorem natMulsP (a0 a1 : ByteArray) (_w0 : a0.size ≤ 140737488351232) (_w1 : a1.size ≤ 140737488351232) (hb : a0.size + a1.size ≤ 1048576) : ∃ k, gantlaw1_NatMuls.f k a0 a1 = some true :=
  (natMuls a0 a1 (by omega) (by omega)).rounds
end Go.Proofs.YtgpbkoajifbcfaaDoor.SB
