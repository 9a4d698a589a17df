import Derived.Test.YtbfpmofhopglfaaGreatDoorRows
import Derived.WalkKit
import Derived.ProofKit
import Derived.JoinedOf
import Derived.KernelRfl
namespace Go.Proofs.YtbfpmofhopglfaaGreatDoor.O
theorem f_lo:laidOutB Tryz.prog=true:=by kernel_rfl
theorem f_mr:mapsRowed Tryz.prog=true:=by kernel_rfl
theorem f_pk:Tryz.prog.plainKeys=true:=by kernel_rfl
theorem f_sh:Tryz.prog.stopsHeard=true:=by kernel_rfl
theorem f_me:Tryz.prog.mayEnter=true:=by kernel_rfl
end Go.Proofs.YtbfpmofhopglfaaGreatDoor.O
