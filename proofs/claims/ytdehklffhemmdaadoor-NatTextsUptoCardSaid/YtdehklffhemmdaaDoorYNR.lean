import Derived.Test.YtdehklffhemmdaaDoorYU5
import Derived.Test.YtdehklffhemmdaaDoorYRB
namespace Go.Proofs.YtdehklffhemmdaaDoor.G
open Go.Proofs.YtdehklffhemmdaaDoor.U Go.RowKit Go.Proofs.YtdehklffhemmdaaDoor.R
set_option linter.unusedVariables false
theorem isB {b d:Bool} (h:b=d):V.c (.bool b)=V.c (.bool d):=by rw [h]
theorem str_neq (a b:ByteArray):(!(a.toList==b.toList))=decide (a≠b):=by
  rw [ByteArray.toList_eq,ByteArray.toList_eq]
  by_cases h:a=b
  · subst h; simp
  have:¬ a.data=b.data:=fun hh=>h (by
    cases a; cases b
    exact congrArg _ hh)
  simp [h,this]
theorem rbarer_k {a:ByteArray}:CSpec Tryd.prog 14 #[.string a] (.string (M.B (M.V a))):=fun w _=>(gantref1_Bare.calls a _ w (SB.bare_spec a)).mono fun e w' h=>⟨h.1,h.2.below⟩
end Go.Proofs.YtdehklffhemmdaaDoor.G
