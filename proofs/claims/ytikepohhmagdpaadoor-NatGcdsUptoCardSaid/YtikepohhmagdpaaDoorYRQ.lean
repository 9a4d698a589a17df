import Derived.Test.YtikepohhmagdpaaDoorYKA
import Derived.Test.YtikepohhmagdpaaDoorYRS
section
namespace Go.Proofs.YtikepohhmagdpaaDoor.G
open Go.Proofs.YtikepohhmagdpaaDoor.U Go.RowKit
set_option linter.unusedVariables false
set_option maxRecDepth 100000
def SzN (m K:Nat):Prop:=m < 256 ^ K
end Go.Proofs.YtikepohhmagdpaaDoor.G
end
section
namespace Go.Proofs.YtikepohhmagdpaaDoor.G
open Go.Proofs.YtikepohhmagdpaaDoor.U Go.RowKit Go.Proofs.YtikepohhmagdpaaDoor.A Go.Proofs.YtikepohhmagdpaaDoor.B Go.Proofs.YtikepohhmagdpaaDoor.C Go.Proofs.YtikepohhmagdpaaDoor.R Go.Proofs.YtikepohhmagdpaaDoor.H
set_option linter.unusedVariables false
set_option maxRecDepth 100000
theorem rcommonr_k {a b:ByteArray} (ha:a.size ≤ 2000000000) (hb:b.size ≤ 2000000000):CSpec Tryd.prog 109 #[.string a,.string b] (.string (M.B (Nat.gcd (M.V a) (M.V b)))):=fun w _=>by
  obtain ⟨k,hk⟩:=ev_some (SB.common_spec a b (by omega) (by omega))
  exact gantref1_Common.calls k a b _ w hk
section
variable {k l K L:Nat}
theorem SzN.size (h:SzN k K):(M.B k).size ≤ K:=M.size_B_le h
end
end Go.Proofs.YtikepohhmagdpaaDoor.G
end
section
namespace Go.Proofs.YtikepohhmagdpaaDoor.G
open Go.Proofs.YtikepohhmagdpaaDoor.U Go.RowKit
set_option linter.unusedVariables false
set_option maxRecDepth 100000
theorem str_eq (a b:ByteArray):(a.toList == b.toList) = decide (a = b):=by
  have:=str_neq a b
  by_cases h:a = b
  · subst h; simp
  rw [decide_eq_true h] at this
  rw [decide_eq_false h]
  simpa using this
end Go.Proofs.YtikepohhmagdpaaDoor.G
end
