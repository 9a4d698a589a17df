import Derived.Test.YtmkgijiniopalaaDoorYL0
import Derived.Test.YtmkgijiniopalaaDoorYL1
namespace Go.Proofs.YtmkgijiniopalaaDoor.H
open Go.RowKit Go.Proofs.YtmkgijiniopalaaDoor.A Go.Proofs.YtmkgijiniopalaaDoor.L Go.Proofs.YtmkgijiniopalaaDoorW.PrintWords Go.Proofs.YtmkgijiniopalaaDoorW.PrintLast Go.Proofs.YtmkgijiniopalaaDoorW.PrintMore
def nat_longq.f (k:Nat) (l0 l1:List Int):Option (List Int × List Int):=(nat_long.f k l0 l1).bind fun p=>some (p.1,p.2.take l1.length)
theorem nat_longq.mono (l0 l1:List Int) (k:Nat):LeO (nat_longq.f k l0 l1) (nat_longq.f (k+1) l0 l1):=LeO.bind (nat_long.mono l0 l1 k) (fun _=>LeO.refl _)
theorem nat_longq.calls (k:Nat) (A0:Option Addr) (c0:Nat) (l0:List Int) (A1:Option Addr) (c1:Nat) (l1:List Int) (r1:List Int) (r2:List Int) (w:World) (hr0:Kd.C (Kd.int .u32) w A0 l0.length l0) (hc0:l0.length≤c0) (hr1:Kd.C (Kd.int .u32) w A1 l1.length l1) (hc1:l1.length≤c1) (h:nat_longq.f k l0 l1=some (r1,r2)) :
 Calls Tryd.prog 83 #[.slice A0 l0.length c0,.slice A1 l1.length c1] w fun e w'=>∃ v0_ v1_:Value,e = .returned (.tuple #[v0_,v1_])∧Kd.R (Kd.int .u32) 89 w' w.heap.size (fun k_=>some k_≠(v1_:Value).ownBlock) v0_ r1∧Kd.R (Kd.int .u32) 89 w' w.heap.size (fun k_=>some k_≠(v0_:Value).ownBlock) v1_ r2∧Below w.heap.size w w':=by
 unfold nat_longq.f at h
 obtain ⟨p,h1,h2⟩:=Option.bind_eq_some_iff.mp h
 injection h2 with h2
 injection h2 with h3 h4
 subst h3; subst h4
 exact nat_long.calls k A0 c0 l0 A1 c1 l1 p.1 p.2 w hr0 hc0 hr1 hc1 h1
end Go.Proofs.YtmkgijiniopalaaDoor.H
