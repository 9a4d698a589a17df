import Derived.Test.YtkpeembfagcpcaaDoorYKA
import Derived.Test.YtkpeembfagcpcaaDoorYX0
import Derived.Test.YtkpeembfagcpcaaDoorYX1
set_option maxRecDepth 100000
set_option linter.unusedVariables false
section
namespace Go.Proofs.YtkpeembfagcpcaaDoor.G
open Go.Proofs.YtkpeembfagcpcaaDoor.U Go.RowKit
theorem sz2_s:Sz 2 1:=⟨by decide,by decide⟩
theorem szm1_s:Sz (-1) 1:=⟨by decide,by decide⟩
end Go.Proofs.YtkpeembfagcpcaaDoor.G
end
section
namespace Go.Proofs.YtkpeembfagcpcaaDoor.G
open Go.Proofs.YtkpeembfagcpcaaDoor.U Go.RowKit Go.Proofs.YtkpeembfagcpcaaDoor.A Go.Proofs.YtkpeembfagcpcaaDoor.X
theorem nt1_k {n:Nat} (h:n=1):CSpec Tryd.prog 9 #[.string (M.B n)] (.string ⟨#[49]⟩):=fun w _=>by
 subst h
 rw [B_one1]
 exact nat_Text.calls 40 one1 ⟨#[49]⟩ w (by decide +kernel)
theorem B_two1:M.B 2=⟨#[2]⟩:=by
 have h:M.B (M.V ⟨#[2]⟩)=⟨#[2]⟩:=SA.lead_of _ (.inr (by decide))
 exact h
theorem nt2_k {n:Nat} (h:n=2):CSpec Tryd.prog 9 #[.string (M.B n)] (.string ⟨#[50]⟩):=fun w _=>by
 subst h
 rw [B_two1]
 exact nat_Text.calls 40 ⟨#[2]⟩ ⟨#[50]⟩ w (by decide +kernel)
theorem fitR_k {x:Rat} {K:Nat} (h:Sz x K) (hK:K≤68719476736):CSpec Tryd.prog 71 #[Rv x] (Rv x):=fit_Rv x (h.mono hK)
theorem rtx    : CSpec Tryd.prog 35 #[(Rv (-1/2))] (.string ({ data:=#[(45:UInt8)] }++{ data:=#[(49:UInt8)] }++({ data:=#[(47:UInt8)] }++{ data:=#[(50:UInt8)] }))):=by
 have s0:=szm1_s
 have s1:=sz2_s
 have s2:=(div_s s0 s1)
 exact fn_ok Tryd.func35 (sc:=[(1,1,.fix (Rv (-1/2:Rat))),(2,2,.fix (.string ({ data:=#[(49:UInt8)] }))),(6,3,.fix (.string ({ data:=#[(50:UInt8)] })))]) (sb:=[]) (by kernel_rfl) (hC (fitR_k s2 (by decide +kernel)) (hC (nt1_k (n:=Int.natAbs (Rat.num (-1/2:Rat))) (by decide +kernel)) (hC (nt2_k (n:=Rat.den (-1/2:Rat)) (by decide +kernel)) hN)))
theorem rtext_k {x:Rat} (h:x = -1/2):CSpec Tryd.prog 35 #[Rv x] (.string ⟨#[45,49,47,50]⟩):=by
 subst h
 exact rtx
theorem ratBegun_k    : CSpec Tryd.prog 31 #[] (.bool true):=by
 have s0:=(int_s (n:=(2:Int)) (by decide +kernel))
 have s1:=(int_s (n:=(-4:Int)) (by decide +kernel))
 have s2:=(div_s s0 s1)
 exact fn_ok Tryd.func31 (sc:=[(1,0,.fix (.tuple #[Rv ((↑(2:Int):Rat)/(↑(-4:Int):Rat)),.int IntKind.i64 (0:Int)])),(2,4,.fix (.string ({ data:=#[(45:UInt8),(49:UInt8),(47:UInt8),(50:UInt8)] }))),(2,9,.fix (.bool true))]) (sb:=[]) (by kernel_rfl) (hC (make_k (n:=(2:Int)) (m:=(-4:Int)) (by decide +kernel) (by decide +kernel) (by decide +kernel) (by decide +kernel) (by decide +kernel)) (hC (rtext_k (x:=(↑(2:Int):Rat)/(↑(-4:Int):Rat)) (by decide +kernel)) (hC (gooda_k s2 (by decide +kernel)) hN)))
end Go.Proofs.YtkpeembfagcpcaaDoor.G
end
