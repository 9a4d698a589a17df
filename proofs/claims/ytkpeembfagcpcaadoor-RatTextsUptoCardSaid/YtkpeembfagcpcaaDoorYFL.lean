import Derived.Test.YtkpeembfagcpcaaDoorYKA
namespace Go.Proofs.YtkpeembfagcpcaaDoor.G
open Go.Proofs.YtkpeembfagcpcaaDoor.U Go.RowKit
set_option linter.unusedVariables false
set_option maxRecDepth 100000
def SzN (m K:Nat):Prop:=m < 256^K
theorem made1_k {n:Bool} {m K:Nat} (hm:SzN m K) (hK:K≤17179869184):CSpec Tryd.prog 81 #[.bool n,.string (M.B m),.string ⟨#[1]⟩] (Rv ((sgn n m:Int):Rat)):=by
 have:=made_c n m 1 (by decide) (Nat.le_trans (M.size_B_le hm) (by omega)) (by rw [B_one1]; decide)
 rw [B_one1] at this
 rw [Rat.mkRat_one] at this
 exact this
end Go.Proofs.YtkpeembfagcpcaaDoor.G
