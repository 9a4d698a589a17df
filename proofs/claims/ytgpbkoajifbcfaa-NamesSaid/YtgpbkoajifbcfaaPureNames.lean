/- The law gantlaw1.Names answers true: the list of error numbers is the list of the numbers from 0 on, and the limits are as specified; no condition. -/
import Derived.Test.YtgpbkoajifbcfaaPNamesx1
namespace Go.Proofs.Ytgpbkoajifbcfaa.Pure
open Go.RowKit Go.Proofs.Ytgpbkoajifbcfaa.PNames Go.Proofs.YtgpbkoajifbcfaaW.PrintWords Go.Proofs.YtgpbkoajifbcfaaW.PrintLast

theorem Names : gantlaw1_Names.Pure := by
  refine ⟨30, ?_⟩
  decide +kernel

end Go.Proofs.Ytgpbkoajifbcfaa.Pure
