import Derived.Test.YtmkgijiniopalaaDoorYHA
import Derived.Test.YtmkgijiniopalaaDoorYHZ0
import Derived.Lib.Small
import Derived.Lib.BitFns
namespace Go.Proofs.YtmkgijiniopalaaDoor.H
open Go.RowKit Go.Proofs.YtmkgijiniopalaaDoor.A Go.Proofs.YtmkgijiniopalaaDoor.M Go.Proofs.YtmkgijiniopalaaDoorW.PrintWords Go.Proofs.YtmkgijiniopalaaDoorW.PrintLast Go.Proofs.YtmkgijiniopalaaDoorW.PrintMore
set_option linter.unusedVariables false
set_option linter.unusedSimpArgs false
def bits_LeadingZeros32.f (a0:Int):Option (Int):=if 0≤a0∧a0≤4294967295 then some (32 - (Lib.bitLen a0.toNat:Int)) else none
theorem lz32 (x:Int) (w:World) (h0:0≤x) (h1:x≤4294967295) :
 Calls Tryd.prog 92 #[.int .u32 x] w fun e w'=>e = .returned (.int .i64 (32 - (Lib.bitLen x.toNat:Int)))∧w' = w:=by
 have l:Lib.bitLen x.toNat≤32:=Lib.bitLen_le x.toNat 32 (by omega) (by omega)
 have e8:(32 - (Lib.bitLen x.toNat:Int)+9223372036854775808)%18446744073709551616 - 9223372036854775808=32 - (Lib.bitLen x.toNat:Int):=by omega
 go_enter Tryd.func92,Tryd.ntmps92
 go_wp2_with (go_at_call 100; refine (len32 x _ h0 h1).mono ?_; rintro e w' ⟨rfl,rfl⟩)
 go_ret
 refine ⟨?_,rfl⟩
 rw [← e8]
 rfl
theorem bits_LeadingZeros32.calls (a0:Int) (r:Int) (w:World) (h:bits_LeadingZeros32.f a0=some r) :
 Calls Tryd.prog 92 #[.int .u32 a0] w fun e w'=>e = .returned (.int .i64 r)∧Below w.heap.size w w':=by
 unfold bits_LeadingZeros32.f at h
 split at h
 ·rename_i hc
  obtain rfl:=Option.some.inj h
  refine (lz32 a0 w hc.1 hc.2).mono ?_
  rintro e w' ⟨rfl,rfl⟩
  exact ⟨rfl,Below.refl _ _⟩
 cases h
end Go.Proofs.YtmkgijiniopalaaDoor.H
