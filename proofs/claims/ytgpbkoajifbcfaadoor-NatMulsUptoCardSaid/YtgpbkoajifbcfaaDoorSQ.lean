/- What nat.Div computes. -/
import Derived.Test.YtgpbkoajifbcfaaDoorSP
namespace Go.Proofs.YtgpbkoajifbcfaaDoor.SB
open Go.RowKit Go.Proofs.YtgpbkoajifbcfaaDoor.A Go.Proofs.YtgpbkoajifbcfaaDoor.B Go.Proofs.YtgpbkoajifbcfaaDoor.C Go.Proofs.YtgpbkoajifbcfaaDoor.H Go.Proofs.YtgpbkoajifbcfaaDoor.L Go.Proofs.YtgpbkoajifbcfaaDoor.M Go.Proofs.YtgpbkoajifbcfaaDoor.SA Go.Proofs.YtgpbkoajifbcfaaDoorW.PrintWords Go.Proofs.YtgpbkoajifbcfaaDoorW.PrintLast Go.Proofs.YtgpbkoajifbcfaaDoorW.PrintMore
set_option linter.unusedVariables false
set_option linter.unusedSimpArgs false
theorem top_pos {l : List Int} {v : Nat} (h : Dig b32 l v) (hl : 1 ≤ l.length) : 1 ≤ rd l ((l.length - 1 : Nat) : Int) := by
  have hne : l ≠ [] := fun e => by rw [e] at hl; exact absurd hl (by decide)
  have hge := h.2.2 hne
  have iv := InR_rd b32_pos h.1 ((l.length - 1 : Nat) : Int)
  have k1 : l.length - 1 ≤ l.length := Nat.sub_le _ _
  refine Int.not_lt.1 (fun hlt => ?_)
  have hz : rd l ((l.length - 1 : Nat) : Int) = 0 := Int.le_antisymm (Int.lt_add_one_iff.1 hlt) iv.1
  have hz2 : ∀ j, l.length - 1 ≤ j → l.getD j 0 = 0 := fun j hj => by
    by_cases hj2 : j = l.length - 1
    · rw [hj2, getD_eq_rd]; exact hz
    · rw [List.getD_eq_getElem?_getD, List.getElem?_eq_none (le_of_pred hj hj2)]; rfl
  have := lv_lt_of_zero h.1 k1 hz2
  rw [h.2.1] at this
  exact absurd hge (Int.not_le.2 this)
theorem div_big (a b : ByteArray) (ha : a.size ≤ 1099511627776) (hb : b.size ≤ 1099511627776) (hb0 : V b ≠ 0) : Ev (fun k => nat_Div.j0 k (B (V a)) (B (V b)) false) (B (V a / V b), B (V a % V b), 0) := by
  have sa := size_BV a
  have sb := size_BV b
  have gf : ¬ (false = true) := by decide
  refine Ev.succ ?_
  simp only [nat_Div.j0, if_neg gf]
  have hc := cmp_spec (B (V a)) (B (V b))
  rw [V_B, V_B] at hc
  refine Ev.bind hc ?_
  by_cases hlt : V a < V b
  · simp only [if_pos (cmpN_neg.2 hlt)]
    rw [Nat.div_eq_of_lt hlt, Nat.mod_eq_of_lt hlt, B_zero]
    exact Ev.now _
  · simp only [if_neg (fun h => hlt (cmpN_neg.1 h))]
    obtain ⟨x, hx1, hx2, hx3⟩ := words (B (V a)) (by omega)
    obtain ⟨y, hy1, hy2, hy3⟩ := words (B (V b)) (by omega)
    rw [V_B] at hx2 hy2
    have hxl : x.length ≤ 274877906945 := by clear hx1 hy1; omega
    have hab : V b ≤ V a := Nat.le_of_not_lt hlt
    have hyx : y.length ≤ x.length := Dig_len (by decide) hx2 hy2 hab
    have hyne : y ≠ [] := fun e => by
      have := hy2.2.1
      rw [e] at this
      exact hb0 (Int.ofNat_eq_zero.1 this.symm)
    have hy0 : 1 ≤ y.length := List.length_pos_iff.2 hyne
    have etd : (V a : Int) / (V b : Int) = ((V a / V b : Nat) : Int) := rfl
    have etm : (V a : Int) % (V b : Int) = ((V a % V b : Nat) : Int) := rfl
    refine Ev.bind hx1 ?_
    refine Ev.bind hy1 ?_
    by_cases h1 : y.length = 1
    · have g1 : ((y.length : Int) = 1) := by rw [h1]; rfl
      have w : wrap64 ((x.length : Int) - 1) = (x.length : Int) - 1 := wrap64_id (by clear hx1 hy1; omega) (by clear hx1 hy1; omega)
      simp only [if_pos g1, w]
      have ht := top_pos hy2 hy0
      rw [h1] at ht
      have hyv : lv b32 y = rd y 0 := by
        have h := lv_take_succ b32 y 0 hy0
        rw [show 0 + 1 = y.length from h1.symm, List.take_length, getD_eq_rd] at h
        rw [h]; simp [lv]
      have hlt32 := (InR_rd b32_pos hy2.1 0).2
      have hvb : rd y 0 = (V b : Int) := by rw [← hyv]; exact hy2.2.1
      have h := div_l0 y (rd y 0) h1 rfl ht hlt32 (V a : Int) x.length (Nat.le_trans hxl (by decide)) x.length x 0 (Nat.le_refl _) rfl hx2.1 ⟨Int.le_refl 0, ht⟩ (by
        rw [List.drop_length, List.take_length, hx2.2.1]; simp [lv])
      rw [hvb, etd, etm, Int.toNat_natCast, Int.toNat_natCast] at h
      exact h
    · have g1 : ¬ ((y.length : Int) = 1) := fun h => h1 (Int.ofNat_inj.1 h)
      have h2 : 2 ≤ y.length := by clear hx1 hy1; omega
      simp only [if_neg g1]
      have hl := long_spec x y hx2.1 hy2.1 h2 hyx (Nat.le_trans hxl (by decide)) (top_pos hy2 hy0)
      rw [hx2.2.1, hy2.2.1, etd, etm] at hl
      refine Ev.bind hl ?_
      have kq : x.length + 1 - y.length ≤ 70368744177664 := by clear hx1 hy1 hl; omega
      have ky : y.length ≤ 70368744177664 := by clear hx1 hy1 hl; omega
      have k4 : y.length - 1 + (x.length + 1 - y.length) = x.length := by clear hx1 hy1 hl; omega
      have hp : (0 : Int) < b32 ^ (x.length + 1 - y.length) := pow_pos' b32_pos _
      have hq : ((V a / V b : Nat) : Int) < b32 ^ (x.length + 1 - y.length) := by
        rw [← etd]
        refine Int.ediv_lt_of_lt_mul (Int.ofNat_lt.2 (Nat.pos_of_ne_zero hb0)) ?_
        have e1 := lv_lt b32_pos hx2.1
        rw [hx2.2.1] at e1
        have e2 : b32 ^ (y.length - 1) * b32 ^ (x.length + 1 - y.length) ≤ (V b : Int) * b32 ^ (x.length + 1 - y.length) := Int.mul_le_mul_of_nonneg_right (hy2.2.2 hyne) (Int.le_of_lt hp)
        rw [← Int.pow_add, k4] at e2
        rw [Int.mul_comm]
        exact Int.lt_of_lt_of_le e1 e2
      have hr : ((V a % V b : Nat) : Int) < b32 ^ y.length := by
        have e1 := lv_lt b32_pos hy2.1
        rw [hy2.2.1] at e1
        exact Int.lt_trans (Int.ofNat_lt.2 (Nat.mod_lt _ (Nat.pos_of_ne_zero hb0))) e1
      have t1 := text (dl (x.length + 1 - y.length) ((V a / V b : Nat) : Int)) (by rw [dl_length]; exact kq) (dl_InR _ _)
      have t2 := text (dl y.length ((V a % V b : Nat) : Int)) (by rw [dl_length]; exact ky) (dl_InR _ _)
      rw [lv_dl _ _ (Int.natCast_nonneg _) hq, Int.toNat_natCast] at t1
      rw [lv_dl _ _ (Int.natCast_nonneg _) hr, Int.toNat_natCast] at t2
      refine Ev.bind t1 ?_
      refine Ev.bind t2 ?_
      exact Ev.now _
end Go.Proofs.YtgpbkoajifbcfaaDoor.SB
