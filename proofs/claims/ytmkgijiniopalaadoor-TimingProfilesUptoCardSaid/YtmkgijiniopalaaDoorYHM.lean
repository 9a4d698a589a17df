import Derived.Test.YtmkgijiniopalaaDoorYHL
import Derived.Test.YtmkgijiniopalaaDoorYHZ
namespace Go.Proofs.YtmkgijiniopalaaDoor.H
open Go.RowKit Go.Proofs.YtmkgijiniopalaaDoor.A Go.Proofs.YtmkgijiniopalaaDoor.M Go.Proofs.YtmkgijiniopalaaDoorW.PrintWords Go.Proofs.YtmkgijiniopalaaDoorW.PrintLast Go.Proofs.YtmkgijiniopalaaDoorW.PrintMore
set_option linter.unusedVariables false
def nat_takeAwayAt.f (l0 l1:List Int) (a2 a3 a4:Int):Option (Bool × List Int):=if 0≤a3∧a3+a4 < l0.length∧l0.length≤281474976710656∧0≤a4∧a4≤l1.length then some (tkB l0 (l1.take a4.toNat) a3.toNat a2,tkU l0 (l1.take a4.toNat) a3.toNat a2) else none
def nat_putBackAt.f (l0 l1:List Int) (a3 a4:Int):Option (List Int):=if 0≤a3∧a3+a4 < l0.length∧l0.length≤281474976710656∧0≤a4∧a4≤l1.length then some (pbU l0 (l1.take a4.toNat) a3.toNat) else none
theorem nat_takeAwayAt.ok {l0 l1:List Int} {a2 a3 a4:Int} {r:Bool × List Int} (h:nat_takeAwayAt.f l0 l1 a2 a3 a4=some r):0≤a3∧a3+a4 < l0.length∧l0.length≤281474976710656∧0≤a4∧a4≤l1.length:=by
 unfold nat_takeAwayAt.f at h
 split at h
 ·assumption
 cases h
theorem nat_putBackAt.ok {l0 l1:List Int} {a3 a4:Int} {r:List Int} (h:nat_putBackAt.f l0 l1 a3 a4=some r):0≤a3∧a3+a4 < l0.length∧l0.length≤281474976710656∧0≤a4∧a4≤l1.length:=by
 unfold nat_putBackAt.f at h
 split at h
 ·assumption
 cases h
theorem nat_takeAwayAt.length {l0 l1:List Int} {a2 a3 a4:Int} {r:Bool} {l:List Int} (h:nat_takeAwayAt.f l0 l1 a2 a3 a4=some (r,l)):l.length=l0.length:=by
 have ho:=nat_takeAwayAt.ok h
 unfold nat_takeAwayAt.f at h
 rw [if_pos ho] at h
 injection h with h
 injection h with _ h
 rw [← h,tkU,List.length_set,tkS_length]
theorem nat_putBackAt.length {l0 l1:List Int} {a3 a4:Int} {l:List Int} (h:nat_putBackAt.f l0 l1 a3 a4=some l):l.length=l0.length:=by
 have ho:=nat_putBackAt.ok h
 unfold nat_putBackAt.f at h
 rw [if_pos ho] at h
 injection h with h
 rw [← h,pbU,List.length_set,pbS_length]
theorem C_take {w:World} {A:Option Addr} {l:List Int} {n:Nat} (h:Kd.C (Kd.int .u32) w A l.length l) (hn:n≤l.length):Kd.C (Kd.int .u32) w A (l.take n).length (l.take n):=by
 have hl:(l.take n).length=n:=by rw [List.length_take]; omega
 refine ⟨rfl,by have:=h.2.1; omega,fun hp=>?_⟩
 obtain ⟨ad,rfl,hc⟩:=h.2.2 (by omega)
 refine ⟨ad,rfl,fun j p hj=>hc j p ?_⟩
 rw [List.getElem?_take] at hj
 split at hj
 ·exact hj
 cases hj
theorem nat_takeAwayAt.calls (P0_:Nat→Prop) (g cU N:Nat) (l0:List Int) (A1:Option Addr) (c1:Nat) (l1:List Int) (a2 a3 a4:Int) (r1:Bool) (r2:List Int) (w0 w:World) (hB:Below w0.heap.size w0 w) (ho0:Kd.R (Kd.int .u32) 89 w w0.heap.size P0_ (.slice (some ⟨g,0,none⟩) N cU) l0) (hr1:∀ W_,Kept w W_ (fun k_=>P0_ k_)→Kd.C (Kd.int .u32) W_ A1 l1.length l1) (hc1:l1.length≤c1) (h:nat_takeAwayAt.f l0 l1 a2 a3 a4=some (r1,r2)) (k n cu:Nat) (hk:a3=k) (hn:a4=n) (hN:N=l0.length) :
 Calls Tryd.prog 94 #[.slice (some ⟨g,k,none⟩) (n+1) cu,.slice A1 n c1,.int .u64 a2] w fun e w'=>e = .returned (.bool r1)∧Kd.R (Kd.int .u32) 89 w' w0.heap.size (fun k_=>(P0_ k_∨w.heap.size≤k_)) (.slice (some ⟨g,0,none⟩) N cU) r2∧Below w0.heap.size w0 w' ∧ Kept w w' (fun k_=>P0_ k_):=by
 subst hN
 subst hk
 subst hn
 have ho:=nat_takeAwayAt.ok h
 have hl:=nat_takeAwayAt.length h
 unfold nat_takeAwayAt.f at h
 rw [if_pos ho,Int.toNat_natCast,Int.toNat_natCast] at h
 injection h with h
 injection h with e1 e2
 subst e1
 have hPg:P0_ g:=ho0.1 g rfl
 have hnl:n≤l1.length:=by omega
 have hlt:(l1.take n).length=n:=by rw [List.length_take]; omega
 have hbg:w0.heap.size≤g:=Kd.R_base ho0 g rfl
 have hcall:=(takeAway_at w0.heap.size P0_ g k cu cU c1 l0 (l1.take n) a2 A1 w ho0 (fun W_ hW=>C_take (hr1 W_ (hW.mono (fun q hq=>by subst hq; exact hPg))) hnl) (by omega) ho.2.2.1)
 rw [hlt] at hcall
 refine hcall.mono ?_
 rintro e w' ⟨rfl,hR,hg⟩
 refine ⟨rfl,?_,pw_below_grown hB _ hB.size hg (fun q hq=>by injection hq with hq; subst hq; exact hbg),Kept.of_grown (S:=fun k_=>P0_ k_) hg (Kept.refl _ _) (fun q hq=>by injection hq with hq; subst hq; exact .inl hPg)⟩
 unfold Row at hR
 rw [e2,hl] at hR
 exact Kd.R_mono hR (fun q hq=>.inl hq)
theorem nat_putBackAt.calls (P0_:Nat→Prop) (g cU N:Nat) (l0:List Int) (A1:Option Addr) (c1:Nat) (l1:List Int) (a3 a4:Int) (r2:List Int) (w0 w:World) (hB:Below w0.heap.size w0 w) (ho0:Kd.R (Kd.int .u32) 89 w w0.heap.size P0_ (.slice (some ⟨g,0,none⟩) N cU) l0) (hr1:∀ W_,Kept w W_ (fun k_=>P0_ k_)→Kd.C (Kd.int .u32) W_ A1 l1.length l1) (hc1:l1.length≤c1) (h:nat_putBackAt.f l0 l1 a3 a4=some r2) (k n cu:Nat) (hk:a3=k) (hn:a4=n) (hN:N=l0.length) :
 Calls Tryd.prog 95 #[.slice (some ⟨g,k,none⟩) (n+1) cu,.slice A1 n c1] w fun e w'=>e = .returned (.tuple #[])∧Kd.R (Kd.int .u32) 89 w' w0.heap.size (fun k_=>(P0_ k_∨w.heap.size≤k_)) (.slice (some ⟨g,0,none⟩) N cU) r2∧Below w0.heap.size w0 w' ∧ Kept w w' (fun k_=>P0_ k_):=by
 subst hN
 subst hk
 subst hn
 have ho:=nat_putBackAt.ok h
 have hl:=nat_putBackAt.length h
 unfold nat_putBackAt.f at h
 rw [if_pos ho,Int.toNat_natCast,Int.toNat_natCast] at h
 injection h with e2
 have hPg:P0_ g:=ho0.1 g rfl
 have hnl:n≤l1.length:=by omega
 have hlt:(l1.take n).length=n:=by rw [List.length_take]; omega
 have hbg:w0.heap.size≤g:=Kd.R_base ho0 g rfl
 have hcall:=(putBack_at w0.heap.size P0_ g k cu cU c1 l0 (l1.take n) A1 w ho0 (fun W_ hW=>C_take (hr1 W_ (hW.mono (fun q hq=>by subst hq; exact hPg))) hnl) (by omega) ho.2.2.1)
 rw [hlt] at hcall
 refine hcall.mono ?_
 rintro e w' ⟨rfl,hR,hg⟩
 refine ⟨rfl,?_,pw_below_grown hB _ hB.size hg (fun q hq=>by injection hq with hq; subst hq; exact hbg),Kept.of_grown (S:=fun k_=>P0_ k_) hg (Kept.refl _ _) (fun q hq=>by injection hq with hq; subst hq; exact .inl hPg)⟩
 unfold Row at hR
 rw [e2,hl] at hR
 exact Kd.R_mono hR (fun q hq=>.inl hq)
end Go.Proofs.YtmkgijiniopalaaDoor.H
