-- printed by pp.py (wip/), a program of this work, by way of the kit's print; Lean checks it
import Derived.Test.YtgpbkoajifbcfaaDoorProg
import Derived.Below
import Derived.Deep.Draws
import Derived.Deep.AppendLies
import Derived.Maps.AppendAt
import Derived.OwnWalk
import Derived.Laws.BytesArg
import Derived.Laws.MakeOwn
import Derived.Laws.OwnMore
import Derived.Deep.OwnRows
import Derived.Tactics
import Derived.Lib.ConvBytes
import Derived.Laws.Slices
import Derived.WalkKit
import Derived.KernelRfl
import Derived.RowKit3
import Derived.Deep.LoopGhost
import Derived.Deep.QuietTactic
import Derived.BigQuiet
import Derived.WideLaws
import Derived.Deep.DeepCutAuto
import Derived.Deep.CutBlock
import Derived.Deep.RegionHeld3
import Derived.Laws.Rows
import Derived.Lib.AppendStr
import Derived.ArgAppend
import Derived.Laws.IdiomCopy
import Derived.OrdersHeld
import Derived.Laws.BitsLemmas
import Derived.RowKit
import Derived.Test.YtgpbkoajifbcfaaDoorWWords
import Derived.Test.YtgpbkoajifbcfaaDoorWLast
import Derived.Test.YtgpbkoajifbcfaaDoorWTab
import Derived.Test.YtgpbkoajifbcfaaDoorWFour
import Derived.Test.YtgpbkoajifbcfaaDoorWQPut
import Derived.Test.YtgpbkoajifbcfaaDoorWApart
import Derived.Test.YtgpbkoajifbcfaaDoorWArr
import Derived.Test.YtgpbkoajifbcfaaDoorWZeros
import Derived.Test.YtgpbkoajifbcfaaDoorWFoot
import Derived.Test.YtgpbkoajifbcfaaDoorWKept
import Derived.Test.YtgpbkoajifbcfaaDoorWShare
import Derived.Test.YtgpbkoajifbcfaaDoorWN
import Derived.Test.YtgpbkoajifbcfaaDoorWFootNe
import Derived.Test.YtgpbkoajifbcfaaDoorWAt
import Derived.Test.YtgpbkoajifbcfaaDoorWEqStruct
import Derived.Test.YtgpbkoajifbcfaaDoorWRepsOne
import Derived.Test.YtgpbkoajifbcfaaDoorWInv
import Derived.Test.YtgpbkoajifbcfaaDoorWInvWords
import Derived.Test.YtgpbkoajifbcfaaDoorWGuard
import Derived.Test.YtgpbkoajifbcfaaDoorWNEv
import Derived.Test.YtgpbkoajifbcfaaDoorWMore
namespace Go.Proofs.YtgpbkoajifbcfaaDoor.A
open Go.RowKit Go.Proofs.YtgpbkoajifbcfaaDoorW.PrintWords Go.Proofs.YtgpbkoajifbcfaaDoorW.PrintLast Go.Proofs.YtgpbkoajifbcfaaDoorW.PrintMore
attribute [local go_sem] max2_int min2_int max_two min_two max_three min_three max_four min_four   -- for this text's walks alone
set_option linter.unusedVariables false
set_option linter.unusedSimpArgs false



def errW : Option Int → Value
  | none => .nilIface
  | some c => .iface 0 (.int .i64 c)
theorem errW_none : errW none = .nilIface := rfl
theorem errW_some (c : Int) : errW (some c) = .iface 0 (.int .i64 c) := rfl

theorem info5 : (Tryd.prog.info? 5).map (fun i => (i.zero, i.size, i.bytes)) = some (some (.int .u8 0), 1, 1) := by kernel_rfl
theorem info101 : (Tryd.prog.info? 101).map (fun i => (i.zero, i.size, i.bytes)) = some (some (.int .u64 0), 1, 8) := by kernel_rfl
theorem info107 : (Tryd.prog.info? 107).map (fun i => (i.zero, i.size, i.bytes)) = some (some (.int .u32 0), 1, 4) := by kernel_rfl
-- the values' own types

end Go.Proofs.YtgpbkoajifbcfaaDoor.A
