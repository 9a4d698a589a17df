import Derived.Test.YtmkgijiniopalaaDoorRows
import Derived.WalkKit
import Derived.ProofKit
import Derived.JoinedOf
import Derived.KernelRfl
namespace Go.Proofs.YtmkgijiniopalaaDoor.O
theorem f_lo:laidOutB Tryd.prog=true:=by kernel_rfl
theorem f_mr:mapsRowed Tryd.prog=true:=by kernel_rfl
theorem f_pk:Tryd.prog.plainKeys=true:=by kernel_rfl
theorem f_sh:Tryd.prog.stopsHeard=true:=by kernel_rfl
theorem f_me:Tryd.prog.mayEnter=true:=by kernel_rfl
end Go.Proofs.YtmkgijiniopalaaDoor.O
