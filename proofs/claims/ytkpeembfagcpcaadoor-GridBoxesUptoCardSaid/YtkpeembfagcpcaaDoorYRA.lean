import Derived.Test.YtkpeembfagcpcaaDoorYKA
set_option maxRecDepth 100000
set_option linter.unusedVariables false
section
namespace Go.Proofs.YtkpeembfagcpcaaDoor.G
open Go.Proofs.YtkpeembfagcpcaaDoor.U Go.RowKit
theorem sz0_s:Sz 0 1:=⟨by decide,by decide⟩
theorem isR0_s:IsR false ⟨#[]⟩ ⟨#[]⟩ 0 1:=⟨dif_neg (fun h=>h.nz rfl),by decide,by decide,sz0_s⟩
end Go.Proofs.YtkpeembfagcpcaaDoor.G
end
section
namespace Go.Proofs.YtkpeembfagcpcaaDoor.G
open Go.Proofs.YtkpeembfagcpcaaDoor.U Go.RowKit
theorem ri_k {n:Int} (h1:-9223372036854775808≤n) (h2:n≤9223372036854775807)  : CSpec Tryd.prog 25 #[(.int .i64 n)] (Rv (↑n:Rat)):=by
  exact fn_ok Tryd.func25 (sc:=[(1,1,.fix (Rv (↑n:Rat)))]) (sb:=[]) (by kernel_rfl) (hC (of_k h1 h2) hN)
end Go.Proofs.YtkpeembfagcpcaaDoor.G
end
