import Derived.Test.YtikepohhmagdpaaDoorYU4
namespace Go.Proofs.YtikepohhmagdpaaDoor.U
set_option linter.unusedVariables false
theorem tspec_dim {P : Program} {sc : Script} {sb : Blocks} {c : Code} {s s' : St} {e : Ex} {obs : List Ob} (b : List Bool) (k : Nat)
    (h : (match ev P sc sb c s with
      | some (e1, s1, o1) => some (e1, (⟨dim b s1.t, s1.m.take k⟩ : St), o1, decide (k ≤ s1.m.length) && decide (s.m.length ≤ k) && (dim b s1.t).all (fun v => v.there (s1.m.take k)))
      | none => none) = some (e, s', obs, true)) (hh : Holds P obs) (hr : Flat s'.m) : TSpec P c s e s' := by
  split at h
  · rename_i e1 s1 o1 he
    simp only [Option.some.injEq, Prod.mk.injEq, Bool.and_eq_true] at h
    obtain ⟨rfl, rfl, rfl, ⟨hk, hc⟩, ht⟩ := h
    exact TSpec.dim b k (tspec_of he hh) rfl hk hc ht hr
  · cases h
abbrev nv (l : List (List Value)) : List V := l.flatten.map V.c
end Go.Proofs.YtikepohhmagdpaaDoor.U
