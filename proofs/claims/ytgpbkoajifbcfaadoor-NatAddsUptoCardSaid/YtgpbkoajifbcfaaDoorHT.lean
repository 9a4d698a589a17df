/- Walks by hand: strings.TrimLeft of zero bytes. -/
import Derived.Test.YtgpbkoajifbcfaaDoorHA
namespace Go.Proofs.YtgpbkoajifbcfaaDoor.H
open Go.RowKit Go.Proofs.YtgpbkoajifbcfaaDoor.A Go.Proofs.YtgpbkoajifbcfaaDoor.M Go.Proofs.YtgpbkoajifbcfaaDoorW.PrintWords Go.Proofs.YtgpbkoajifbcfaaDoorW.PrintLast Go.Proofs.YtgpbkoajifbcfaaDoorW.PrintMore
set_option linter.unusedVariables false
set_option linter.unusedSimpArgs false
/-- strings.TrimLeft where the set is the zero byte alone. -/
def strings_TrimLeft.f (a0 a1 : ByteArray) : Option (ByteArray) := if a1 = ⟨#[0]⟩ then some (B (V a0)) else none
set_option maxRecDepth 100000 in
set_option maxHeartbeats 1000000 in
theorem trimLeft_walk (a : ByteArray) (k : Nat) (r : ByteArray) (hk : Aside0 (strings_trimLeftByte.f k a 0 = some r)) (hne : a.toList.isEmpty = false) (hne2 : (a.toList = ([] : List UInt8)) = False) (w : World) : Calls Tryd.prog 76 #[.string a, .string ⟨#[0]⟩] w fun e w' => e = .returned (.string r) ∧ Drawn0 w w' := by
  go_enter Tryd.func76, Tryd.ntmps76
  go_wp2_with (go_at_call 128; refine calls_of_args (args' := #[.string a, .int .u8 0]) rfl ?_; (with_reducible refine (strings_trimLeftByte.calls k _ _ r _ hk.out).mono ?_); rintro e w' ⟨rfl, ⟨nd, rfl⟩⟩)
  go_ret
  exact ⟨rfl, by repeat (first | exact Drawn0.refl _ | apply Drawn0.step)⟩
set_option maxRecDepth 100000 in
set_option maxHeartbeats 1000000 in
theorem trimLeft_walk0 (w : World) : Calls Tryd.prog 76 #[.string ⟨#[]⟩, .string ⟨#[0]⟩] w fun e w' => e = .returned (.string ⟨#[]⟩) ∧ Drawn0 w w' := by
  go_enter Tryd.func76, Tryd.ntmps76
  go_wp2
  go_ret
  exact ⟨rfl, by repeat (first | exact Drawn0.refl _ | apply Drawn0.step)⟩
theorem strings_TrimLeft.calls (a0 a1 : ByteArray) (r : ByteArray) (w : World) (h : strings_TrimLeft.f a0 a1 = some r) :
    Calls Tryd.prog 76 #[.string a0, .string a1] w fun e w' => e = .returned (.string r) ∧ Drawn0 w w' := by
  unfold strings_TrimLeft.f at h
  split at h
  · rename_i hc
    subst hc
    obtain rfl := Option.some.inj h
    have hl : a0.toList = a0.data.toList := ByteArray.toList_eq a0
    by_cases hs : a0.size = 0
    · have : a0 = ⟨#[]⟩ := by
        apply ByteArray.ext
        exact Array.eq_empty_of_size_eq_zero hs
      subst this
      have hb : B (V ⟨#[]⟩) = ⟨#[]⟩ := by
        have : V ⟨#[]⟩ = 0 := rfl
        rw [this, B_zero]
      rw [hb]
      exact trimLeft_walk0 w
    · obtain ⟨k, hk⟩ := (SA.trimLeft a0).rounds
      have hn : a0.toList ≠ [] := by
        intro e
        have h2 := size_toList a0
        rw [← hl, e] at h2
        exact hs h2.symm
      exact trimLeft_walk a0 k _ ⟨hk⟩ (by simpa using hn) (eq_false hn) w
  · cases h
end Go.Proofs.YtgpbkoajifbcfaaDoor.H
