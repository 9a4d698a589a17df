-- PRINTED BY print.sh 35421559b90ae4d0a3588c463048766b98c2df88dd9212a6774a882060cdf62d: not written by this session
import Derived.Test.YtgpbkoajifbcfaaProg
import Derived.Below
import Derived.Deep.Draws
import Derived.Deep.AppendLies
import Derived.Maps.AppendAt
import Derived.OwnWalk
import Derived.Laws.BytesArg
import Derived.Laws.MakeOwn
import Derived.Laws.OwnMore
import Derived.Deep.OwnRows
import Derived.Tactics
import Derived.Lib.ConvBytes
import Derived.Laws.Slices
import Derived.WalkKit
import Derived.KernelRfl
import Derived.RowKit3
import Derived.Deep.LoopGhost
import Derived.Deep.QuietTactic
import Derived.BigQuiet
import Derived.WideLaws
import Derived.Deep.DeepCutAuto
import Derived.Deep.CutBlock
import Derived.Deep.RegionHeld3
import Derived.Laws.Rows
import Derived.Lib.AppendStr
import Derived.ArgAppend
import Derived.Laws.IdiomCopy
import Derived.OrdersHeld
import Derived.Laws.BitsLemmas
import Derived.RowKit
import Derived.Test.YtgpbkoajifbcfaaWWords
import Derived.Test.YtgpbkoajifbcfaaWLast
import Derived.Test.YtgpbkoajifbcfaaWTab
import Derived.Test.YtgpbkoajifbcfaaWFour
import Derived.Test.YtgpbkoajifbcfaaWQPut
import Derived.Test.YtgpbkoajifbcfaaWApart
import Derived.Test.YtgpbkoajifbcfaaWArr
import Derived.Test.YtgpbkoajifbcfaaWZeros
import Derived.Test.YtgpbkoajifbcfaaWFoot
import Derived.Test.YtgpbkoajifbcfaaWKept
import Derived.Test.YtgpbkoajifbcfaaWShare
import Derived.Test.YtgpbkoajifbcfaaWN
import Derived.Test.YtgpbkoajifbcfaaWFootNe
import Derived.Test.YtgpbkoajifbcfaaWAt
import Derived.Test.YtgpbkoajifbcfaaWEqStruct
import Derived.Test.YtgpbkoajifbcfaaWRepsOne
import Derived.Test.YtgpbkoajifbcfaaWInv
import Derived.Test.YtgpbkoajifbcfaaWInvWords
import Derived.Test.YtgpbkoajifbcfaaWGuard
import Derived.Test.YtgpbkoajifbcfaaWNEv
import Derived.Test.YtgpbkoajifbcfaaWMore
namespace Go.Proofs.Ytgpbkoajifbcfaa.PNames
open Go.RowKit Go.Proofs.YtgpbkoajifbcfaaW.PrintWords Go.Proofs.YtgpbkoajifbcfaaW.PrintLast Go.Proofs.YtgpbkoajifbcfaaW.PrintMore
attribute [local go_sem] max2_int min2_int max_two min_two max_three min_three max_four min_four   -- for this text's walks alone
set_option linter.unusedVariables false
set_option linter.unusedSimpArgs false



def errW : Option Int → Value
  | none => .nilIface
  | some c => .iface 0 (.int .i64 c)
theorem errW_none : errW none = .nilIface := rfl
theorem errW_some (c : Int) : errW (some c) = .iface 0 (.int .i64 c) := rfl

theorem info22 : (Try.prog.info? 22).map (fun i => (i.zero, i.size, i.bytes)) = some (some (.int .i64 0), 1, 8) := by kernel_rfl
-- the values' own types

end Go.Proofs.Ytgpbkoajifbcfaa.PNames
