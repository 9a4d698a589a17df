import Derived.Test.YtikepohhmagdpaaDoorYBA
namespace Go.Proofs.YtikepohhmagdpaaDoor.G
set_option linter.unusedVariables false
theorem cos_f (x : Rat) : cosT false x = (1 - x * x) / (1 + x * x) := rfl
theorem sin_f (x : Rat) : sinT false x = (x + x) / (1 + x * x) := rfl
theorem cos_t (x : Rat) : cosT true x = -1 := rfl
theorem sin_t (x : Rat) : sinT true x = 0 := rfl
theorem one_cos (x : Rat) : 1 + cosT false x = 2 / (1 + x * x) := by
  have hx := sq_nn x
  rw [cos_f]
  grind
theorem two_div {d : Rat} (h : d ≠ 0) : (2 : Rat) / d ≠ 0 := by
  intro hh
  have : (2 : Rat) = 0 := by grind
  exact absurd this (by decide)
theorem tof_cs (h : Bool) (x : Rat) : tof (cosT h x) (sinT h x) = (h, fz h x) := by
  cases h
  · have hx := sq_nn x
    have e2 : 1 + cosT false x ≠ 0 := by rw [one_cos]; exact two_div hx
    have e3 : sinT false x / (1 + cosT false x) = x := by
      rw [one_cos, sin_f]
      have h2 := two_div hx
      grind
    unfold tof
    rw [if_neg e2, e3]
    rfl
  · show tof (-1) 0 = (true, 0)
    decide +kernel
theorem cos_0 : cosT false 0 = 1 := by decide +kernel
theorem sin_0 : sinT false 0 = 0 := by decide +kernel
theorem both_0 (h : Bool) (x : Rat) : tof (cosT h x * cosT false 0 - sinT h x * sinT false 0) (sinT h x * cosT false 0 + cosT h x * sinT false 0) = (h, fz h x) := by
  rw [← tof_cs, cos_0, sin_0]
  congr 1 <;> grind
theorem back_cs (h : Bool) (x : Rat) : tof (cosT h x) (-sinT h x) = (h, -fz h x) := by
  cases h
  · have hx := sq_nn x
    have e2 : 1 + cosT false x ≠ 0 := by rw [one_cos]; exact two_div hx
    have e3 : -sinT false x / (1 + cosT false x) = -x := by
      rw [one_cos, sin_f]
      have h2 := two_div hx
      grind
    unfold tof
    rw [if_neg e2, e3]
    rfl
  · show tof (-1) (-0) = (true, -0)
    decide +kernel
theorem opp_cs (x : Rat) : tof (cosT false x * -1 - sinT false x * 0) (sinT false x * -1 + cosT false x * 0) = opp x := by
  have hx := sq_nn x
  have e : 1 + (cosT false x * -1 - sinT false x * 0) = (2 * (x * x)) / (1 + x * x) := by
    rw [cos_f]
    grind
  have e3 : sinT false x * -1 + cosT false x * 0 = -(x + x) / (1 + x * x) := by
    rw [sin_f]
    grind
  unfold tof opp
  rw [e, e3]
  by_cases h : x = 0
  · subst h
    decide +kernel
  · have h2 : (2 * (x * x)) / (1 + x * x) ≠ 0 := by
      intro hh
      have : x * x = 0 := by grind
      grind
    rw [if_neg h2, if_neg h]
    congr 1
    grind
theorem thn_tof (h : Bool) (x : Rat) (g : Bool) (y : Rat) : thn h x g y = tof (cosT h x * cosT g y - sinT h x * sinT g y) (sinT h x * cosT g y + cosT h x * sinT g y) := by
  cases h <;> cases g
  · have hx := sq_nn x
    have hy := sq_nn y
    have hxy : (1 + x * x) * (1 + y * y) ≠ 0 := fun h => (Rat.mul_eq_zero.1 h).elim hx hy
    have e : 1 + (cosT false x * cosT false y - sinT false x * sinT false y) = (2 * ((1 - x * y) * (1 - x * y))) / ((1 + x * x) * (1 + y * y)) := by
      rw [cos_f, cos_f, sin_f, sin_f]
      grind
    have e3 : sinT false x * cosT false y + cosT false x * sinT false y = (2 * (x + y) * (1 - x * y)) / ((1 + x * x) * (1 + y * y)) := by
      rw [cos_f, cos_f, sin_f, sin_f]
      grind
    unfold tof thn
    rw [e, e3]
    simp only [Bool.false_eq_true, if_false]
    by_cases hz : 1 - x * y = 0
    · rw [if_pos hz, hz, if_pos (by grind)]
    · have h2 : (2 * ((1 - x * y) * (1 - x * y))) / ((1 + x * x) * (1 + y * y)) ≠ 0 := by
        intro hh
        have : (1 - x * y) * (1 - x * y) = 0 := by grind
        grind
      rw [if_neg hz, if_neg h2]
      congr 1
      grind
  · rw [cos_t, sin_t, opp_cs]
    rfl
  · rw [cos_t, sin_t]
    have e1 : (-1 : Rat) * cosT false y - 0 * sinT false y = cosT false y * -1 - sinT false y * 0 := by grind
    have e2 : (0 : Rat) * cosT false y + -1 * sinT false y = sinT false y * -1 + cosT false y * 0 := by grind
    rw [e1, e2, opp_cs]
    rfl
  · show (false, (0 : Rat)) = tof (-1 * -1 - 0 * 0) (0 * -1 + -1 * 0)
    decide +kernel
end Go.Proofs.YtikepohhmagdpaaDoor.G
