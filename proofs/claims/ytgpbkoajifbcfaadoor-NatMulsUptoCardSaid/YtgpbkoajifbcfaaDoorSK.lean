/- What takeAway and putBack do to the value of a row. -/
import Derived.Test.YtgpbkoajifbcfaaDoorSG
namespace Go.Proofs.YtgpbkoajifbcfaaDoor.SB
open Go.RowKit Go.Proofs.YtgpbkoajifbcfaaDoor.A Go.Proofs.YtgpbkoajifbcfaaDoor.B Go.Proofs.YtgpbkoajifbcfaaDoor.C Go.Proofs.YtgpbkoajifbcfaaDoor.H Go.Proofs.YtgpbkoajifbcfaaDoor.M Go.Proofs.YtgpbkoajifbcfaaDoor.SA Go.Proofs.YtgpbkoajifbcfaaDoorW.PrintWords Go.Proofs.YtgpbkoajifbcfaaDoorW.PrintLast Go.Proofs.YtgpbkoajifbcfaaDoorW.PrintMore
set_option linter.unusedVariables false
set_option linter.unusedSimpArgs false
theorem tk_step {c d v u r : Int} (hc : 0 ≤ c ∧ c < b32) (hd : 0 ≤ d ∧ d < b32) (hv : 0 ≤ v ∧ v < b32) (hu : 0 ≤ u ∧ u < b32) (hr : r = 0 ∨ r = 1) :
    ∃ s e : Int, IntKind.u64.wrap (c + IntKind.u64.wrap (d * IntKind.u64.wrap v)) = s ∧ s = c + d * v ∧ 0 ≤ s / 4294967296 ∧ s / 4294967296 < b32 ∧ (e = 0 ∨ e = 1) ∧
      IntKind.u64.wrap (IntKind.u64.wrap (IntKind.u64.wrap u - s % 4294967296) - r) % 4294967296 = u - s % 4294967296 - r + e * 4294967296 ∧ 0 ≤ u - s % 4294967296 - r + e * 4294967296 ∧ u - s % 4294967296 - r + e * 4294967296 < b32 ∧
      IntKind.u64.wrap (IntKind.u64.wrap (IntKind.u64.wrap u - s % 4294967296) - r) / 9223372036854775808 = e := by
  unfold b32 at *
  have h1 : 0 ≤ d * v := Int.mul_nonneg hd.1 hv.1
  have h2 : d * v ≤ 4294967295 * v := Int.mul_le_mul_of_nonneg_right (by omega) hv.1
  rw [u64_id (t := v) hv.1 (by omega), u64_id (t := u) hu.1 (by omega)]
  generalize d * v = p at *
  rw [u64_id (t := p) h1 (by omega), u64_id (t := c + p) (by omega) (by omega)]
  obtain ⟨e, he, e1, e2, e3, e4⟩ := sub_digit2 (t := u - (c + p) % 4294967296 - r) (by omega) (by omega)
  rw [← u64_wrap_sub] at e1 e4
  exact ⟨c + p, e, rfl, rfl, by clear e1 e4; omega, by clear e1 e4; omega, he, e1, e2, e3, e4⟩
theorem tk_alg (s c d v r e b P u L Vt Lp Q : Int) (hs : s = c + d * v) (q m : Int) (hq : s = b * q + m) (h : Lp = L - d * Vt * P + (c + r) * (P * Q)) :
    Lp + ((u - m - r + e * b) - u) * (P * Q) = L - d * (Vt + v * Q) * P + (q + e) * (P * Q * b) := by
  have : m = c + d * v - b * q := by omega
  rw [h, this]
  grind
theorem tkS_spec (U W : List Int) (off : Nat) (d : Int) (hU : InR b32 U) (hW : InR b32 W) (hd : 0 ≤ d ∧ d < b32) (hoff : off + W.length < U.length) : ∀ i : Nat, i ≤ W.length →
    InR b32 (tkS U W off d i).1 ∧ (0 ≤ (tkS U W off d i).2.1 ∧ (tkS U W off d i).2.1 < b32) ∧ ((tkS U W off d i).2.2 = 0 ∨ (tkS U W off d i).2.2 = 1) ∧
    lv b32 (tkS U W off d i).1 = lv b32 U - d * lv b32 (W.take i) * b32 ^ off + ((tkS U W off d i).2.1 + (tkS U W off d i).2.2) * b32 ^ (off + i) ∧
    (∀ j, off + i ≤ j → (tkS U W off d i).1.getD j 0 = U.getD j 0)
  | 0, _ => ⟨hU, ⟨Int.le_refl 0, b32_pos⟩, .inl rfl, by simp [tkS, lv], fun j _ => rfl⟩
  | i + 1, hi => by
    have f1 : i ≤ W.length := by omega
    have f2 : i < W.length := by omega
    obtain ⟨h1, h2, h3, h4, h5⟩ := tkS_spec U W off d hU hW hd hoff i f1
    have hl := tkS_length U W off d i
    have f3 : off + i < (tkS U W off d i).1.length := by rw [hl]; omega
    simp only [tkS]
    generalize tkS U W off d i = p at *
    obtain ⟨s, e, hs, hs2, hq0, hq1, he, hm, hm0, hm1, ht⟩ := tk_step h2 hd (InR_rd b32_pos hW (i : Int)) (InR_rd b32_pos h1 ((off + i : Nat) : Int)) h3
    rw [hs, hm, ht]
    refine ⟨InR_set h1 _ hm0 hm1, ⟨hq0, hq1⟩, he, ?_, fun j hj => ?_⟩
    · rw [lv_set _ _ _ _ f3, getD_eq_rd, lv_take_succ _ _ _ f2, getD_eq_rd, show off + (i + 1) = (off + i) + 1 from rfl, Int.pow_succ, Int.pow_add]
      rw [Int.pow_add] at h4
      exact tk_alg s p.2.1 d (rd W (i : Int)) p.2.2 e b32 (b32 ^ off) (rd p.1 ((off + i : Nat) : Int)) (lv b32 U) (lv b32 (W.take i)) (lv b32 p.1) (b32 ^ i) hs2 (s / 4294967296) (s % 4294967296) (Int.mul_ediv_add_emod s 4294967296).symm h4
    · have hne : off + i ≠ j := by omega
      rw [lset_ne _ hne]
      exact h5 j (by omega)
theorem tk_spec (U W : List Int) (off : Nat) (d : Int) (hU : InR b32 U) (hW : InR b32 W) (hd : 0 ≤ d ∧ d < b32) (hoff : off + W.length < U.length) :
    ∃ e : Int, (e = 0 ∨ e = 1) ∧ tkB U W off d = decide (0 < e) ∧ InR b32 (tkU U W off d) ∧ (tkU U W off d).length = U.length ∧ lv b32 (tkU U W off d) = lv b32 U - d * lv b32 W * b32 ^ off + e * b32 ^ (off + W.length + 1) ∧
      (∀ j, off + W.length < j → (tkU U W off d).getD j 0 = U.getD j 0) := by
  obtain ⟨h1, h2, h3, h4, h5⟩ := tkS_spec U W off d hU hW hd hoff W.length (Nat.le_refl _)
  have hl := tkS_length U W off d W.length
  have f3 : off + W.length < (tkS U W off d W.length).1.length := by rw [hl]; exact hoff
  unfold tkB tkU tkT
  simp only []
  generalize tkS U W off d W.length = p at *
  have hu := InR_rd b32_pos h1 ((off + W.length : Nat) : Int)
  obtain ⟨u, hx⟩ : ∃ u, rd p.1 ((off + W.length : Nat) : Int) = u := ⟨_, rfl⟩
  have key : ∃ e : Int, (e = 0 ∨ e = 1) ∧ IntKind.u64.wrap (IntKind.u64.wrap (IntKind.u64.wrap u - p.2.1) - p.2.2) % 4294967296 = u - p.2.1 - p.2.2 + e * 4294967296 ∧ 0 ≤ u - p.2.1 - p.2.2 + e * 4294967296 ∧ u - p.2.1 - p.2.2 + e * 4294967296 < 4294967296 ∧ IntKind.u64.wrap (IntKind.u64.wrap (IntKind.u64.wrap u - p.2.1) - p.2.2) / 9223372036854775808 = e := by
    rw [hx] at hu
    generalize p.2.1 = c at *
    generalize p.2.2 = r at *
    clear h4 h5 h1 hx hl f3
    unfold b32 at *
    rw [u64_id (t := u) hu.1 (by omega), u64_wrap_sub]
    exact sub_digit2 (t := u - c - r) (by omega) (by omega)
  obtain ⟨e, he, e1, e2, e3, e4⟩ := key
  rw [← hx] at e1 e2 e3 e4
  rw [e1, e4]
  refine ⟨e, he, rfl, InR_set h1 _ e2 e3, by rw [List.length_set]; exact hl, ?_, fun j hj => ?_⟩
  · rw [lv_set _ _ _ _ f3, getD_eq_rd, h4, List.take_length, Int.pow_succ]
    have e5 : (b32 : Int) = 4294967296 := rfl
    rw [e5]
    generalize (4294967296 : Int) ^ (off + W.length) = P
    generalize d * lv 4294967296 W * 4294967296 ^ off = Z
    grind
  · have hne : off + W.length ≠ j := by omega
    rw [lset_ne _ hne]
    exact h5 j (by omega)
theorem pbS_spec (U W : List Int) (off : Nat) (hU : InR b32 U) (hW : InR b32 W) (hoff : off + W.length < U.length) : ∀ i : Nat, i ≤ W.length →
    InR b32 (pbS U W off i).1 ∧ ((pbS U W off i).2 = 0 ∨ (pbS U W off i).2 = 1) ∧ lv b32 (pbS U W off i).1 = lv b32 U + lv b32 (W.take i) * b32 ^ off - (pbS U W off i).2 * b32 ^ (off + i) ∧
    (∀ j, off + i ≤ j → (pbS U W off i).1.getD j 0 = U.getD j 0)
  | 0, _ => ⟨hU, .inl rfl, by simp [pbS, lv], fun j _ => rfl⟩
  | i + 1, hi => by
    have f1 : i ≤ W.length := by omega
    have f2 : i < W.length := by omega
    obtain ⟨h1, h3, h4, h5⟩ := pbS_spec U W off hU hW hoff i f1
    have hl := pbS_length U W off i
    have f3 : off + i < (pbS U W off i).1.length := by rw [hl]; omega
    simp only [pbS]
    generalize pbS U W off i = p at *
    have hu := InR_rd b32_pos h1 ((off + i : Nat) : Int)
    have hv := InR_rd b32_pos hW (i : Int)
    have key : ∃ q m : Int, IntKind.u64.wrap (p.2 + IntKind.u64.wrap (IntKind.u64.wrap (rd p.1 ((off + i : Nat) : Int)) + IntKind.u64.wrap (rd W (i : Int)))) / 4294967296 = q ∧ IntKind.u64.wrap (p.2 + IntKind.u64.wrap (IntKind.u64.wrap (rd p.1 ((off + i : Nat) : Int)) + IntKind.u64.wrap (rd W (i : Int)))) % 4294967296 = m ∧ p.2 + (rd p.1 ((off + i : Nat) : Int) + rd W (i : Int)) = 4294967296 * q + m ∧ 0 ≤ m ∧ m < 4294967296 ∧ (q = 0 ∨ q = 1) := by
      generalize rd p.1 ((off + i : Nat) : Int) = u at *
      generalize rd W (i : Int) = v at *
      generalize p.2 = c at *
      clear h4 h5 h1 hl f3
      unfold b32 at *
      rw [u64_id (t := u) hu.1 (by omega), u64_id (t := v) hv.1 (by omega), u64_id (t := u + v) (by omega) (by omega), u64_id (t := c + (u + v)) (by omega) (by omega)]
      exact ⟨_, _, rfl, rfl, by omega, by omega, by omega, by omega⟩
    obtain ⟨q, m, hq, hm, hqm, hm0, hm1, hq1⟩ := key
    rw [hq, hm]
    refine ⟨InR_set h1 _ hm0 hm1, hq1, ?_, fun j hj => ?_⟩
    · rw [lv_set _ _ _ _ f3, getD_eq_rd, lv_take_succ _ _ _ f2, getD_eq_rd, show off + (i + 1) = (off + i) + 1 from rfl, Int.pow_succ, Int.pow_add, h4, Int.pow_add]
      have e5 : (b32 : Int) = 4294967296 := rfl
      rw [e5]
      have : m = p.2 + (rd p.1 ((off + i : Nat) : Int) + rd W (i : Int)) - 4294967296 * q := by omega
      rw [this]
      generalize (4294967296 : Int) ^ off = P
      generalize (4294967296 : Int) ^ i = Q
      clear hq hm hqm this h4
      grind
    · have hne : off + i ≠ j := by omega
      rw [lset_ne _ hne]
      exact h5 j (by omega)
theorem pb_spec (U W : List Int) (off : Nat) (hU : InR b32 U) (hW : InR b32 W) (hoff : off + W.length < U.length) :
    ∃ f : Int, (f = 0 ∨ f = 1) ∧ InR b32 (pbU U W off) ∧ (pbU U W off).length = U.length ∧ lv b32 (pbU U W off) = lv b32 U + lv b32 W * b32 ^ off - f * b32 ^ (off + W.length + 1) ∧
      (∀ j, off + W.length < j → (pbU U W off).getD j 0 = U.getD j 0) := by
  obtain ⟨h1, h3, h4, h5⟩ := pbS_spec U W off hU hW hoff W.length (Nat.le_refl _)
  have hl := pbS_length U W off W.length
  have f3 : off + W.length < (pbS U W off W.length).1.length := by rw [hl]; exact hoff
  unfold pbU
  simp only []
  generalize pbS U W off W.length = p at *
  rw [show ((off : Int) + (W.length : Int)) = ((off + W.length : Nat) : Int) from rfl]
  have hu := InR_rd b32_pos h1 ((off + W.length : Nat) : Int)
  generalize hx : rd p.1 ((off + W.length : Nat) : Int) = u at *
  have key : ∃ q m : Int, (u + p.2) % 4294967296 = m ∧ u + p.2 = 4294967296 * q + m ∧ 0 ≤ m ∧ m < 4294967296 ∧ (q = 0 ∨ q = 1) := by
    clear h4 h5 h1 hl f3 hx
    unfold b32 at *
    exact ⟨(u + p.2) / 4294967296, _, rfl, by omega, by omega, by omega, by omega⟩
  obtain ⟨q, m, hm, hqm, hm0, hm1, hq1⟩ := key
  rw [hm]
  refine ⟨q, hq1, InR_set h1 _ hm0 hm1, by rw [List.length_set]; exact hl, ?_, fun j hj => ?_⟩
  · rw [lv_set _ _ _ _ f3, getD_eq_rd, hx, h4, List.take_length, Int.pow_succ]
    have e5 : (b32 : Int) = 4294967296 := rfl
    rw [e5]
    have : m = u + p.2 - 4294967296 * q := by omega
    rw [this]
    generalize (4294967296 : Int) ^ (off + W.length) = P
    generalize lv 4294967296 W * 4294967296 ^ off = Z
    clear hm hqm this h4
    grind
  · have hne : off + W.length ≠ j := by omega
    rw [lset_ne _ hne]
    exact h5 j (by omega)
end Go.Proofs.YtgpbkoajifbcfaaDoor.SB
