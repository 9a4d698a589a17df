import Derived.Test.YtkpeembfagcpcaaDoorYHA
import Derived.Test.YtkpeembfagcpcaaDoorYT0
import Derived.Test.YtkpeembfagcpcaaDoorYT1
namespace Go.Proofs.YtkpeembfagcpcaaDoor.SA
open Go.RowKit Go.Proofs.YtkpeembfagcpcaaDoor.M Go.Proofs.YtkpeembfagcpcaaDoor.A Go.Proofs.YtkpeembfagcpcaaDoor.T Go.Proofs.YtkpeembfagcpcaaDoorW.PrintWords Go.Proofs.YtkpeembfagcpcaaDoorW.PrintLast Go.Proofs.YtkpeembfagcpcaaDoorW.PrintMore
theorem trimLeft_l0 (n:Nat):∀ a:ByteArray,a.size=n→Ev (fun k=>strings_trimLeftByte.l0 k a 0) (B (V a)):=by
 induction n with
 | zero =>
   intro a h
   refine Ev.step (f:=fun _=>some (B (V a))) (fun k=>?_) (Ev.now _)
   simp only [strings_trimLeftByte.l0]
   rw [if_neg (by omega),lead_of a (.inl h)]
 | succ n ih =>
   intro a h
   by_cases h0:bt a 0=0
   ·refine Ev.step (f:=fun k=>strings_trimLeftByte.l0 k (a.extract 1 a.size) 0) (fun k=>?_) ?_
    ·simp only [strings_trimLeftByte.l0]
     rw [if_pos (by omega),if_pos (by omega),if_pos h0,if_pos (by omega)]
    have:=ih (a.extract 1 a.size) (by rw [size_extract1 a (by omega)]; omega)
    rwa [V_extract1 a (by omega) h0] at this
   refine Ev.step (f:=fun _=>some (B (V a))) (fun k=>?_) (Ev.now _)
   simp only [strings_trimLeftByte.l0]
   rw [if_pos (by omega),if_pos (by omega),if_neg h0,lead_of a (.inr h0)]
theorem trimLeft (a:ByteArray):Ev (fun k=>strings_trimLeftByte.f k a 0) (B (V a)):=trimLeft_l0 _ a rfl
end Go.Proofs.YtkpeembfagcpcaaDoor.SA
namespace Go.Proofs.YtkpeembfagcpcaaDoor.H
open Go.RowKit Go.Proofs.YtkpeembfagcpcaaDoor.A Go.Proofs.YtkpeembfagcpcaaDoor.T Go.Proofs.YtkpeembfagcpcaaDoor.M Go.Proofs.YtkpeembfagcpcaaDoorW.PrintWords Go.Proofs.YtkpeembfagcpcaaDoorW.PrintLast Go.Proofs.YtkpeembfagcpcaaDoorW.PrintMore
set_option linter.unusedVariables false
set_option linter.unusedSimpArgs false
def strings_TrimLeft.f (a0 a1:ByteArray):Option (ByteArray):=if a1=⟨#[0]⟩ then some (B (V a0)) else none
set_option maxRecDepth 100000 in
set_option maxHeartbeats 1000000 in
theorem trimLeft_walk (a:ByteArray) (k:Nat) (r:ByteArray) (hk:Aside0 (strings_trimLeftByte.f k a 0=some r)) (hne:a.toList.isEmpty=false) (hne2:(a.toList=([]:List UInt8))=False) (w:World):Calls Tryd.prog 113 #[.string a,.string ⟨#[0]⟩] w fun e w'=>e = .returned (.string r)∧Drawn0 w w':=by
 go_enter Tryd.func113,Tryd.ntmps113
 go_wp2_with (go_at_call 104; refine calls_of_args (args':=#[.string a,.int .u8 0]) rfl ?_; (with_reducible refine (strings_trimLeftByte.calls k _ _ r _ hk.out).mono ?_); rintro e w' ⟨rfl,⟨nd,rfl⟩⟩)
 go_ret
 exact ⟨rfl,by repeat (first | exact Drawn0.refl _ | apply Drawn0.step)⟩
set_option maxRecDepth 100000 in
set_option maxHeartbeats 1000000 in
theorem trimLeft_walk0 (w:World):Calls Tryd.prog 113 #[.string ⟨#[]⟩,.string ⟨#[0]⟩] w fun e w'=>e = .returned (.string ⟨#[]⟩)∧Drawn0 w w':=by
 go_enter Tryd.func113,Tryd.ntmps113
 go_wp2
 go_ret
 exact ⟨rfl,by repeat (first | exact Drawn0.refl _ | apply Drawn0.step)⟩
theorem strings_TrimLeft.calls (a0 a1:ByteArray) (r:ByteArray) (w:World) (h:strings_TrimLeft.f a0 a1=some r) :
 Calls Tryd.prog 113 #[.string a0,.string a1] w fun e w'=>e = .returned (.string r)∧Drawn0 w w':=by
 unfold strings_TrimLeft.f at h
 split at h
 ·rename_i hc
  subst hc
  obtain rfl:=Option.some.inj h
  have hl:a0.toList=a0.data.toList:=ByteArray.toList_eq a0
  by_cases hs:a0.size=0
  ·have : a0 = ⟨#[]⟩ := by
    apply ByteArray.ext
    exact Array.eq_empty_of_size_eq_zero hs
   subst this
   have hb:B (V ⟨#[]⟩)=⟨#[]⟩:=by
    have:V ⟨#[]⟩=0:=rfl
    rw [this,B_zero]
   rw [hb]
   exact trimLeft_walk0 w
  obtain ⟨k,hk⟩:=(SA.trimLeft a0).rounds
  have hn:a0.toList≠[]:=by
   intro e
   have h2:=size_toList a0
   rw [← hl,e] at h2
   exact hs h2.symm
  exact trimLeft_walk a0 k _ ⟨hk⟩ (by simpa using hn) (eq_false hn) w
 cases h
end Go.Proofs.YtkpeembfagcpcaaDoor.H
