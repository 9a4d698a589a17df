/- nat.long: one digit of the quotient. -/
import Derived.Test.YtgpbkoajifbcfaaDoorSL
namespace Go.Proofs.YtgpbkoajifbcfaaDoor.SB
open Go.RowKit Go.Proofs.YtgpbkoajifbcfaaDoor.A Go.Proofs.YtgpbkoajifbcfaaDoor.B Go.Proofs.YtgpbkoajifbcfaaDoor.C Go.Proofs.YtgpbkoajifbcfaaDoor.H Go.Proofs.YtgpbkoajifbcfaaDoor.L Go.Proofs.YtgpbkoajifbcfaaDoor.M Go.Proofs.YtgpbkoajifbcfaaDoor.SA Go.Proofs.YtgpbkoajifbcfaaDoorW.PrintWords Go.Proofs.YtgpbkoajifbcfaaDoorW.PrintLast Go.Proofs.YtgpbkoajifbcfaaDoorW.PrintMore
set_option linter.unusedVariables false
set_option linter.unusedSimpArgs false
theorem lv_all_zero (b : Int) : ∀ l : List Int, (∀ j, l.getD j 0 = 0) → lv b l = 0
  | [], _ => rfl
  | x :: l, h => by
    have h0 : x = 0 := h 0
    have h1 := lv_all_zero b l (fun j => h (j + 1))
    simp [lv, h0, h1]
theorem lv_drop_zero {l : List Int} {m : Nat} (h : ∀ j, m ≤ j → l.getD j 0 = 0) : lv b32 (l.drop m) = 0 := by
  refine lv_all_zero _ _ (fun j => ?_)
  rw [List.getD_eq_getElem?_getD, List.getElem?_drop, ← List.getD_eq_getElem?_getD]
  exact h (m + j) (by omega)
theorem lv_lt_of_zero {l : List Int} {m : Nat} (hl : InR b32 l) (hm : m ≤ l.length) (h : ∀ j, m ≤ j → l.getD j 0 = 0) : lv b32 l < b32 ^ m := by
  rw [lv_split b32 l m hm, lv_drop_zero h, Int.mul_zero, Int.add_zero]
  have := lv_lt b32_pos (InR_take hl m)
  rw [List.length_take, Nat.min_eq_left hm] at this
  exact this
theorem zero_of_lv_lt {l : List Int} {m : Nat} (hl : InR b32 l) (h : lv b32 l < b32 ^ m) (j : Nat) (hj : m ≤ j) : l.getD j 0 = 0 := by
  have h1 := rd_le_lv b32_pos l j hl
  have h2 := InR_getD b32_pos hl j
  refine Int.le_antisymm (Int.not_lt.1 (fun hgt => ?_)) h2.1
  have hp : (0 : Int) < b32 ^ j := pow_pos' b32_pos j
  have h3 : 1 * b32 ^ j ≤ l.getD j 0 * b32 ^ j := Int.mul_le_mul_of_nonneg_right hgt (Int.le_of_lt hp)
  have h4 : (b32 : Int) ^ m ≤ b32 ^ j := by
    have e : j = m + (j - m) := by omega
    rw [e, Int.pow_add]
    have h5 : (b32 : Int) ^ m * 1 ≤ b32 ^ m * b32 ^ (j - m) := Int.mul_le_mul_of_nonneg_left (pow_pos' b32_pos _) (Int.le_of_lt (pow_pos' b32_pos m))
    rw [Int.mul_one] at h5; exact h5
  rw [Int.one_mul] at h3
  exact absurd h (Int.not_lt.2 (Int.le_trans h4 (Int.le_trans h3 h1)))
theorem lv_top3 {l : List Int} {n : Nat} (hn : 2 ≤ n) (hl : n < l.length) (h : lv b32 (l.drop (n + 1)) = 0) :
    lv b32 l = ((rd l (n : Int) * b32 + rd l ((n - 1 : Nat) : Int)) * b32 + rd l ((n - 2 : Nat) : Int)) * b32 ^ (n - 2) + lv b32 (l.take (n - 2)) := by
  obtain ⟨m, rfl⟩ : ∃ m, n = m + 2 := ⟨n - 2, by omega⟩
  rw [lv_split b32 l (m + 2 + 1) (by omega), h, Int.mul_zero, Int.add_zero, lv_take_succ _ _ _ hl, lv_take_succ _ _ _ (by omega), lv_take_succ _ _ _ (by omega), getD_eq_rd, getD_eq_rd, getD_eq_rd]
  rw [show m + 2 - 1 = m + 1 by omega, show m + 2 - 2 = m by omega, show m + 2 = m + 1 + 1 from rfl, Int.pow_succ, Int.pow_succ]
  grind
theorem lv_top2 {l : List Int} {n : Nat} (hn : 2 ≤ n) (hl : n ≤ l.length) :
    lv b32 (l.take n) = (rd l ((n - 1 : Nat) : Int) * b32 + rd l ((n - 2 : Nat) : Int)) * b32 ^ (n - 2) + lv b32 (l.take (n - 2)) := by
  obtain ⟨m, rfl⟩ : ∃ m, n = m + 2 := ⟨n - 2, by omega⟩
  rw [show m + 2 = m + 1 + 1 from rfl, lv_take_succ _ _ _ (by omega), lv_take_succ _ _ _ (by omega), getD_eq_rd, getD_eq_rd]
  rw [show m + 1 + 1 - 1 = m + 1 by omega, show m + 1 + 1 - 2 = m by omega, Int.pow_succ]
  grind
theorem rd_drop (l : List Int) (k j : Nat) : rd (l.drop k) (j : Int) = rd l ((k + j : Nat) : Int) := by
  rw [← getD_eq_rd, ← getD_eq_rd, List.getD_eq_getElem?_getD, List.getElem?_drop, ← List.getD_eq_getElem?_getD]
/-- The value left behind a digit. -/
theorem step_val {T W v d bk top e f L1 : Int} (hbk : 0 < bk) (hT0 : 0 ≤ T) (hT1 : T < bk) (hv : 0 < v) (h : d * v ≤ W ∧ W < (d + 1) * v) : 0 ≤ T + bk * W - d * v * bk ∧ T + bk * W - d * v * bk < v * bk := by
  have h1 : 0 ≤ bk * (W - d * v) := Int.mul_nonneg (Int.le_of_lt hbk) (by omega)
  have h2 : bk * (W - d * v + 1) ≤ bk * v := Int.mul_le_mul_of_nonneg_left (by have e : (d + 1) * v = d * v + v := by rw [Int.add_mul, Int.one_mul]
                                                                               omega) (Int.le_of_lt hbk)
  have e1 : T + bk * W - d * v * bk = T + bk * (W - d * v) := by grind
  have e2 : bk * (W - d * v + 1) = bk * (W - d * v) + bk := by grind
  have e3 : v * bk = bk * v := Int.mul_comm _ _
  rw [e1, e3]
  omega
theorem digit_step (q U Vl : List Int) (by_ : Int) (n k : Nat) (hU : InR b32 U) (hV : InR b32 Vl) (hn : 2 ≤ n) (hnV : n ≤ Vl.length) (hkU : k + n < U.length) (hsU : U.length ≤ 70368744177664) (hq : k < q.length) (hqr : InR b32 q)
    (vv : Int) (hvv : lv b32 (Vl.take n) = vv) (hv0 : 0 < vv) (hlt : lv b32 U < vv * b32 ^ (k + 1)) (d : Int) (hd0 : 0 ≤ d) (hdb : d < b32) (hd1 : lv b32 (U.drop k) < (d + 1) * vv) (hd2 : d * vv ≤ lv b32 (U.drop k) + vv) (R : List Int × List Int)
    (hR : ∀ (U' : List Int) (D : Int), InR b32 U' → U'.length = U.length → 0 ≤ D → D < b32 → lv b32 U' = lv b32 U - D * vv * b32 ^ k → lv b32 U' < vv * b32 ^ k → Ev (fun K => nat_long.l0 K (q.set k D) by_ (n : Int) U' Vl ((k : Int) - 1)) R) :
    Ev (fun K => nat_long.j3 K q by_ (n : Int) U Vl (k : Int) d) R := by
  have hlW : (Vl.take n).length = n := by rw [List.length_take]; omega
  have hWr := InR_take hV n
  have hvn : vv < b32 ^ n := by
    have := lv_lt b32_pos hWr
    rw [hlW, hvv] at this; exact this
  have hpk : (0 : Int) < b32 ^ k := pow_pos' b32_pos k
  have hpk1 : (0 : Int) < b32 ^ (k + 1) := pow_pos' b32_pos (k + 1)
  have hUlt : lv b32 U < b32 ^ (k + n + 1) := by
    have h1 : vv * b32 ^ (k + 1) ≤ b32 ^ n * b32 ^ (k + 1) := Int.mul_le_mul_of_nonneg_right (Int.le_of_lt hvn) (Int.le_of_lt hpk1)
    rw [← Int.pow_add, show n + (k + 1) = k + n + 1 by omega] at h1
    exact Int.lt_of_lt_of_le hlt h1
  have hUz : ∀ j, k + n + 1 ≤ j → U.getD j 0 = 0 := fun j hj => zero_of_lv_lt hU hUlt j hj
  have hsplit := lv_split b32 U k (by omega)
  have hT0 := lv_nonneg b32_pos (InR_take hU k)
  have hT1 := lv_lt b32_pos (InR_take hU k)
  rw [List.length_take, Nat.min_eq_left (by omega)] at hT1
  obtain ⟨e, he, hB, ht1, ht2, ht3, ht4⟩ := tk_spec U (Vl.take n) k d hU hWr ⟨hd0, hdb⟩ (by rw [hlW]; exact hkU)
  rw [hlW, hvv] at ht3
  rw [hlW] at ht4
  have htlt : lv b32 (tkU U (Vl.take n) k d) < b32 ^ (k + n + 1) := lv_lt_of_zero ht1 (by rw [ht2]; exact hkU) (fun j hj => by rw [ht4 j hj]; exact hUz j hj)
  have htnn := lv_nonneg b32_pos ht1
  have gT : 0 ≤ (k : Int) ∧ (k : Int) + (n : Int) < (U.length : Int) ∧ U.length ≤ 281474976710656 ∧ 0 ≤ (n : Int) ∧ (n : Int) ≤ (Vl.length : Int) := ⟨by omega, by omega, by omega, by omega, by omega⟩
  have hfT : nat_takeAwayAt.f U Vl d (k : Int) (n : Int) = some (tkB U (Vl.take n) k d, tkU U (Vl.take n) k d) := by
    unfold nat_takeAwayAt.f
    rw [if_pos gT, Int.toNat_natCast, Int.toNat_natCast]
  have w1 : wrap64 ((k : Int) - 1) = (k : Int) - 1 := wrap64_id (by omega) (by omega)
  have gk : 0 ≤ (k : Int) := Int.natCast_nonneg _
  have gq : (k : Int) < (q.length : Int) := Int.ofNat_lt.2 hq
  have hW0 : 0 ≤ lv b32 (U.drop k) := lv_nonneg b32_pos (InR_drop hU k)
  refine Ev.succ ?_
  rcases KD.digit hv0 hd1 hd2 with ⟨hlt2, hdiv⟩ | ⟨hge, hdiv⟩
  · -- too much
    have hneg : lv b32 U - d * vv * b32 ^ k < 0 := by
      have h1 : b32 ^ k * (lv b32 (U.drop k) + 1) ≤ b32 ^ k * (d * vv) := Int.mul_le_mul_of_nonneg_left hlt2 (Int.le_of_lt hpk)
      have e1 : b32 ^ k * (lv b32 (U.drop k) + 1) = b32 ^ k * lv b32 (U.drop k) + b32 ^ k := by rw [Int.mul_add, Int.mul_one]
      have e2 : b32 ^ k * (d * vv) = d * vv * b32 ^ k := Int.mul_comm _ _
      rw [e1, e2] at h1
      rw [hsplit]
      generalize b32 ^ k * lv b32 (U.drop k) = A1 at *
      generalize d * vv * b32 ^ k = A2 at *
      generalize lv b32 (U.take k) = A3 at *
      generalize b32 ^ k = A4 at *
      clear w1 ht3 hsplit hlt hd1 hd2 hlt2 hR hT0 htlt htnn hpk1 hUlt hvn e1 e2 hdiv
      omega
    have he1 : e = 1 := by
      rcases he with h | h
      · rw [h, Int.zero_mul, Int.add_zero] at ht3
        rw [ht3] at htnn
        exact absurd hneg (Int.not_lt.2 htnn)
      · exact h
    have hBt : tkB U (Vl.take n) k d = true := by rw [hB, he1]; rfl
    have hd1' : 1 ≤ d := by
      refine Int.not_lt.1 (fun h => ?_)
      have : d = 0 := by clear w1 ht3 hsplit hlt hd1 hd2 hlt2 hR hneg; omega
      rw [this, Int.zero_mul] at hlt2
      exact absurd hW0 (Int.not_le.2 hlt2)
    obtain ⟨f, hf, hp1, hp2, hp3, hp4⟩ := pb_spec (tkU U (Vl.take n) k d) (Vl.take n) k ht1 hWr (by rw [hlW, ht2]; exact hkU)
    rw [hlW, hvv, ht3, he1, Int.one_mul] at hp3
    rw [hlW] at hp4
    have hplt : lv b32 (pbU (tkU U (Vl.take n) k d) (Vl.take n) k) < b32 ^ (k + n + 1) := lv_lt_of_zero hp1 (by rw [hp2, ht2]; exact hkU) (fun j hj => by rw [hp4 j hj, ht4 j hj]; exact hUz j hj)
    have hdm : (d - 1) * vv = d * vv - vv := by rw [Int.sub_mul, Int.one_mul]
    have hsv := step_val (d := d - 1) (top := 0) (e := 0) (f := 0) (L1 := 0) hpk hT0 hT1 hv0 (W := lv b32 (U.drop k)) (by rw [Int.sub_add_cancel]; exact ⟨by rw [hdm]; clear w1 ht3 hsplit hlt hd1 hlt2 hR hneg hp3; omega, hlt2⟩)
    rw [← hsplit] at hsv
    have hval : lv b32 U - (d - 1) * vv * b32 ^ k = lv b32 U - d * vv * b32 ^ k + vv * b32 ^ k := by rw [hdm, Int.sub_mul]; generalize d * vv * b32 ^ k = A; generalize vv * b32 ^ k = B; clear w1; omega
    have hf1 : f = 1 := by
      rcases hf with h | h
      · exfalso
        rw [h, Int.zero_mul, Int.sub_zero] at hp3
        have h0 := hsv.1
        rw [hval] at h0
        rw [hp3] at hplt
        generalize d * vv * b32 ^ k = A at *
        generalize vv * b32 ^ k = B at *
        generalize lv b32 U = C at *
        generalize b32 ^ (k + n + 1) = D at *
        clear w1 hp3 ht3 hsplit hlt hd1 hd2 hlt2 hR hneg hval hsv
        omega
      · exact h
    rw [hf1, Int.one_mul] at hp3
    have hp3' : lv b32 (pbU (tkU U (Vl.take n) k d) (Vl.take n) k) = lv b32 U - (d - 1) * vv * b32 ^ k := by
      rw [hp3, hval]
      generalize d * vv * b32 ^ k = A
      generalize vv * b32 ^ k = B
      generalize lv b32 U = C
      generalize b32 ^ (k + n + 1) = D
      clear w1; omega
    have gP : 0 ≤ (k : Int) ∧ (k : Int) + (n : Int) < ((tkU U (Vl.take n) k d).length : Int) ∧ (tkU U (Vl.take n) k d).length ≤ 281474976710656 ∧ 0 ≤ (n : Int) ∧ (n : Int) ≤ (Vl.length : Int) := by rw [ht2]; exact gT
    have hfP : nat_putBackAt.f (tkU U (Vl.take n) k d) Vl (k : Int) (n : Int) = some (pbU (tkU U (Vl.take n) k d) (Vl.take n) k) := by
      unfold nat_putBackAt.f
      rw [if_pos gP, Int.toNat_natCast, Int.toNat_natCast]
    have hu : IntKind.u64.wrap (d - 1) % 4294967296 = d - 1 := by
      unfold b32 at hdb
      clear w1 hp3 ht3 hsplit hlt hd1 hd2 hlt2 hR hneg hval hsv hp3' hdm
      rw [u64_id (by omega) (by omega)]; omega
    simp only [nat_long.j3, hfT, Option.bind_some, hBt, if_pos trivial, hfP, if_pos gk, if_pos gq, hu, Int.toNat_natCast, w1]
    exact hR _ (d - 1) hp1 (by rw [hp2, ht2]) (by clear w1; omega) (by unfold b32 at *; clear w1 hp3 ht3 hsplit hlt hd1 hd2 hlt2 hneg hval hsv hp3' hdm hu; omega) hp3' (by rw [hp3']; exact hsv.2)
  · have hsv := step_val (d := d) (top := 0) (e := 0) (f := 0) (L1 := 0) hpk hT0 hT1 hv0 (W := lv b32 (U.drop k)) ⟨hge, hd1⟩
    rw [← hsplit] at hsv
    have he0 : e = 0 := by
      rcases he with h | h
      · exact h
      · exfalso
        rw [h, Int.one_mul] at ht3
        have h0 := hsv.1
        rw [ht3] at htlt
        generalize d * vv * b32 ^ k = A at *
        generalize lv b32 U = C at *
        generalize b32 ^ (k + n + 1) = D at *
        clear w1 ht3 hsplit hlt hd1 hd2 hge hR hsv
        omega
    have hBf : tkB U (Vl.take n) k d = false := by rw [hB, he0]; rfl
    rw [he0, Int.zero_mul, Int.add_zero] at ht3
    have hm : d % 4294967296 = d := by unfold b32 at hdb; clear w1 ht3 hsplit hlt hd1 hd2 hge hR hsv; omega
    have gf : ¬ (false = true) := by decide
    simp only [nat_long.j3, hfT, Option.bind_some, hBf, if_neg gf, if_pos gk, if_pos gq, hm, Int.toNat_natCast, w1]
    exact hR _ d ht1 ht2 hd0 hdb ht3 (by rw [ht3]; exact hsv.2)
end Go.Proofs.YtgpbkoajifbcfaaDoor.SB
