/- nat.long as a whole. -/
import Derived.Test.YtgpbkoajifbcfaaDoorSN
import Derived.Lib.ItoaNum
namespace Go.Proofs.YtgpbkoajifbcfaaDoor.SB
open Go.RowKit Go.Proofs.YtgpbkoajifbcfaaDoor.A Go.Proofs.YtgpbkoajifbcfaaDoor.B Go.Proofs.YtgpbkoajifbcfaaDoor.C Go.Proofs.YtgpbkoajifbcfaaDoor.H Go.Proofs.YtgpbkoajifbcfaaDoor.L Go.Proofs.YtgpbkoajifbcfaaDoor.M Go.Proofs.YtgpbkoajifbcfaaDoor.SA Go.Proofs.YtgpbkoajifbcfaaDoorW.PrintWords Go.Proofs.YtgpbkoajifbcfaaDoorW.PrintLast Go.Proofs.YtgpbkoajifbcfaaDoorW.PrintMore
set_option linter.unusedVariables false
set_option linter.unusedSimpArgs false
theorem le_pred32 {x : Int} (h : x < b32) : x ≤ 4294967295 := by unfold b32 at h; omega
theorem cast32 {A : Nat} (h : A ≤ 4294967296) : (A : Int) ≤ b32 := by unfold b32; omega
theorem le_of_pred {n j : Nat} (h : n - 1 ≤ j) (h2 : ¬ j = n - 1) : n ≤ j := by omega
theorem add_sub3 (Y C Z : Int) : Y + Z + (C - Z) = Y + C := by omega
theorem quot_of {q vv r X : Int} (hv : 0 < vv) (h : q * vv + r = X) (h0 : 0 ≤ r) (h1 : r < vv) : X / vv = q ∧ X % vv = r := by
  have e : X = r + vv * q := by rw [← h, Int.mul_comm q, Int.add_comm]
  refine ⟨?_, ?_⟩
  · rw [e, Int.add_mul_ediv_left _ _ (by omega), Int.ediv_eq_zero_of_lt h0 h1, Int.zero_add]
  · rw [e, Int.add_mul_emod_self_left]; exact Int.emod_eq_of_lt h0 h1
theorem long_l0 (Vl : List Int) (n s N M : Nat) (hs : s ≤ 31) (hV : InR b32 Vl) (hn : 2 ≤ n) (hnV : n ≤ Vl.length) (hN : N ≤ 70368744177664) (hM : n < N) (hMN : M + n = N) (vv : Int) (hvv : lv b32 (Vl.take n) = vv) (hv1 : 1 ≤ rd Vl ((n - 1 : Nat) : Int)) (hv0 : 0 < vv) (X t : Int) (hXt : X % vv = 2 ^ s * t) :
    ∀ (k : Nat) (q U : List Int), k ≤ M → q.length = M → InR b32 q → (∀ j, j < k → q.getD j 0 = 0) → U.length = N → InR b32 U → lv b32 U < vv * b32 ^ k → lv b32 q * vv + lv b32 U = X →
      Ev (fun K => nat_long.l0 K q (s : Int) (n : Int) U Vl ((k : Int) - 1)) (dl M (X / vv), dl N t) := by
  have hvn : vv < b32 ^ n := by
    have := lv_lt b32_pos (InR_take hV n)
    rw [List.length_take, Nat.min_eq_left hnV, hvv] at this; exact this
  intro k
  induction k with
  | zero =>
    intro q U hk hq hqr hqz hU hUr hlt hX
    have hunn := lv_nonneg b32_pos hUr
    rw [Int.pow_zero, Int.mul_one] at hlt
    obtain ⟨hq1, hq2⟩ := quot_of hv0 hX hunn hlt
    have g : ¬ (((0 : Nat) : Int) - 1 ≥ 0) := by decide
    refine Ev.succ ?_
    simp only [nat_long.l0, if_neg g]
    rw [hq2] at hXt
    rw [hq1, dl_eq hqr hq rfl]
    · refine l2_loop q U n s N hs hUr hU hM hN t hXt (Int.lt_trans hlt hvn) n 0 U (Nat.zero_le _) rfl hU hUr (fun j _ => rfl) ?_
      have hp : (0 : Int) < 2 ^ s := Int.pow_pos (by decide)
      have hmod : rd U ((0 : Nat) : Int) % 2 ^ s = 0 := by
        have hsp := lv_split b32 U 1 (by omega)
        have hb := pow_split (s := s) (by omega)
        rw [show (1 : Nat) = 0 + 1 from rfl, lv_take_succ _ _ _ (by omega), getD_eq_rd] at hsp
        simp only [List.take_zero, lv, Int.zero_add, Int.pow_zero, Int.mul_one] at hsp
        have e : rd U ((0 : Nat) : Int) = 2 ^ s * (t - 2 ^ (32 - s) * lv b32 (U.drop (0 + 1))) := by
          rw [Int.mul_sub, ← Int.mul_assoc, ← hb, ← hXt, hsp, Int.pow_succ, Int.pow_zero, Int.one_mul]
          generalize b32 * lv b32 (U.drop (0 + 1)) = Z
          generalize rd U ((0 : Nat) : Int) = Y
          clear hsp hXt
          omega
        rw [e]; exact Int.mul_emod_right _ _
      rw [hmod]
      simp [lv]
  | succ k ih =>
    intro q U hk hq hqr hqz hU hUr hlt hX
    have hkU : k + n < U.length := by omega
    have hpk : (0 : Int) < b32 ^ k := pow_pos' b32_pos k
    have hpk1 : (0 : Int) < b32 ^ (k + 1) := pow_pos' b32_pos (k + 1)
    -- the window
    have hUlt : lv b32 U < b32 ^ (k + n + 1) := by
      have h1 : vv * b32 ^ (k + 1) ≤ b32 ^ n * b32 ^ (k + 1) := Int.mul_le_mul_of_nonneg_right (Int.le_of_lt hvn) (Int.le_of_lt hpk1)
      rw [← Int.pow_add, show n + (k + 1) = k + n + 1 by omega] at h1
      exact Int.lt_of_lt_of_le hlt h1
    have hUz : ∀ j, k + n + 1 ≤ j → U.getD j 0 = 0 := fun j hj => zero_of_lv_lt hUr hUlt j hj
    have hsplit := lv_split b32 U k (by omega)
    have hT0 := lv_nonneg b32_pos (InR_take hUr k)
    have hDr := InR_drop hUr k
    have hWv : lv b32 (U.drop k) < b32 * vv := by
      have h1 : b32 ^ k * lv b32 (U.drop k) < b32 ^ k * (b32 * vv) := by
        have e : b32 ^ k * (b32 * vv) = vv * b32 ^ (k + 1) := by rw [Int.pow_succ]; grind
        rw [e]
        generalize vv * b32 ^ (k + 1) = Z at *
        generalize b32 ^ k * lv b32 (U.drop k) = Y at *
        clear ih
        omega
      exact Int.lt_of_mul_lt_mul_left h1 (Int.le_of_lt hpk)
    have hDz : lv b32 ((U.drop k).drop (n + 1)) = 0 := by
      rw [List.drop_drop]
      exact lv_drop_zero (fun j hj => hUz j (by omega))
    have hDl : n < (U.drop k).length := by rw [List.length_drop]; omega
    have hW := lv_top3 hn hDl hDz
    rw [rd_drop, rd_drop, rd_drop, show k + (n - 1) = k + n - 1 by omega, show k + (n - 2) = k + n - 2 by omega] at hW
    have hVd := lv_top2 hn hnV
    rw [hvv] at hVd
    have hPpos : (0 : Int) < b32 ^ (n - 2) := pow_pos' b32_pos _
    have hwl0 := lv_nonneg b32_pos (InR_take hDr (n - 2))
    have hwl1 := lv_lt b32_pos (InR_take hDr (n - 2))
    rw [List.length_take, Nat.min_eq_left (by omega)] at hwl1
    have hvl0 := lv_nonneg b32_pos (InR_take hV (n - 2))
    have hvl1 := lv_lt b32_pos (InR_take hV (n - 2))
    rw [List.length_take, Nat.min_eq_left (by omega)] at hvl1
    have iu0 := InR_rd b32_pos hUr ((k + n : Nat) : Int)
    have iu1 := InR_rd b32_pos hUr ((k + n - 1 : Nat) : Int)
    have iu2 := InR_rd b32_pos hUr ((k + n - 2 : Nat) : Int)
    have iv1 := InR_rd b32_pos hV ((n - 1 : Nat) : Int)
    have iv2 := InR_rd b32_pos hV ((n - 2 : Nat) : Int)
    have htop0 : 0 ≤ rd U ((k + n : Nat) : Int) * b32 + rd U ((k + n - 1 : Nat) : Int) := Int.add_nonneg (Int.mul_nonneg iu0.1 (Int.le_of_lt b32_pos)) iu1.1
    obtain ⟨top, htop⟩ : ∃ top, rd U ((k + n : Nat) : Int) * b32 + rd U ((k + n - 1 : Nat) : Int) = top := ⟨_, rfl⟩
    have htop64 : top < 18446744073709551616 := by
      rw [← htop]
      unfold b32 at iu0 iu1 ⊢
      clear hW hVd htop htop0 ih hlt hX hUlt hsplit hWv
      omega
    rw [htop] at hW htop0
    have E : Est U Vl n k (b32 ^ (n - 2)) (lv b32 (Vl.take (n - 2))) (lv b32 ((U.drop k).take (n - 2))) top :=
      ⟨hUr, hV, hn, hnV, hkU, by omega, hPpos, hv1, hvl0, hvl1, hwl0, hwl1, htop0, by rw [← hW, ← hVd]; exact hWv⟩
    have hEW : Est.W U n k (b32 ^ (n - 2)) (lv b32 ((U.drop k).take (n - 2))) top = lv b32 (U.drop k) := hW.symm
    have hEv : Est.v Vl n (b32 ^ (n - 2)) (lv b32 (Vl.take (n - 2))) = vv := hVd.symm
    have hd0 : 0 ≤ top / rd Vl ((n - 1 : Nat) : Int) := Int.ediv_nonneg htop0 iv1.1
    have hdle : top / rd Vl ((n - 1 : Nat) : Int) ≤ top := Int.ediv_le_self _ htop0
    have hr0 : 0 ≤ top % rd Vl ((n - 1 : Nat) : Int) := Int.emod_nonneg _ (by clear hW hVd ih; omega)
    have hr1 : top % rd Vl ((n - 1 : Nat) : Int) < b32 := Int.lt_trans (Int.emod_lt_of_pos _ (by clear hW hVd ih; omega)) iv1.2
    have hte : top = top / rd Vl ((n - 1 : Nat) : Int) * rd Vl ((n - 1 : Nat) : Int) + top % rd Vl ((n - 1 : Nat) : Int) := by
      have := Int.mul_ediv_add_emod top (rd Vl ((n - 1 : Nat) : Int))
      rw [Int.mul_comm (top / _)]; exact this.symm
    have hinit : Est.W U n k (b32 ^ (n - 2)) (lv b32 ((U.drop k).take (n - 2))) top < (top / rd Vl ((n - 1 : Nat) : Int) + 1) * Est.v Vl n (b32 ^ (n - 2)) (lv b32 (Vl.take (n - 2))) :=
      KD.est_init b32_pos hPpos hv1 iv2.1 hvl0 iu2.2 hwl1 htop0
    have main := est_loop q U Vl (s : Int) n k _ _ _ top E (dl M (X / vv), dl N t) (fun d a1 a2 a3 a4 => by
      rw [hEW, hEv] at a3 a4
      refine digit_step q U Vl (s : Int) n k hUr hV hn hnV hkU (by rw [hU]; exact hN) (by rw [hq]; exact hk) hqr vv hvv hv0 hlt d a1 a2 a3 a4 _ (fun U' D b1 b2 b3 b4 b5 b6 => ?_)
      refine ih (q.set k D) U' (Nat.le_of_succ_le hk) (by rw [List.length_set]; exact hq) (InR_set hqr _ b3 b4) (fun j hj => by rw [lset_ne _ (Nat.ne_of_gt hj)]; exact hqz j (Nat.lt_succ_of_lt hj)) (by rw [b2]; exact hU) b1 b6 ?_
      rw [lv_set _ _ _ _ (by rw [hq]; exact hk), hqz k (Nat.lt_succ_self k), b5, ← hX, Int.sub_zero, Int.add_mul]
      have e1 : D * b32 ^ k * vv = D * vv * b32 ^ k := by grind
      rw [e1]
      generalize D * vv * b32 ^ k = Z
      generalize lv b32 q * vv = Y
      generalize lv b32 U = C
      exact add_sub3 Y C Z)
      (top / rd Vl ((n - 1 : Nat) : Int)).toNat (top / rd Vl ((n - 1 : Nat) : Int)) (top % rd Vl ((n - 1 : Nat) : Int)) (Int.toNat_of_nonneg hd0).symm (Int.lt_of_le_of_lt hdle htop64) hr0 hr1 hte hinit
    -- the code up to the loop
    have wk : (((k + 1 : Nat) : Int) - 1) = (k : Int) := by clear hW hVd ih hte; omega
    have g0 : ((k : Int) ≥ 0) := Int.natCast_nonneg _
    have w1 : wrap64 ((k : Int) + (n : Int)) = ((k + n : Nat) : Int) := by
      have e : (k : Int) + (n : Int) = ((k + n : Nat) : Int) := rfl
      have f : k + n < 9223372036854775808 := by clear hW hVd ih hte; omega
      clear hW hVd ih hte hlt hX
      rw [e]; exact wrap64_id (by omega) (by omega)
    have w2 : wrap64 (((k + n : Nat) : Int) - 1) = ((k + n - 1 : Nat) : Int) := by
      have e : ((k + n : Nat) : Int) - 1 = ((k + n - 1 : Nat) : Int) := by clear hW hVd ih hte w1; omega
      have f : k + n < 9223372036854775808 := by clear hW hVd ih hte w1; omega
      clear hW hVd ih hte hlt hX w1
      rw [e]; exact wrap64_id (by omega) (by omega)
    have w3 : wrap64 ((n : Int) - 1) = ((n - 1 : Nat) : Int) := by
      have e : (n : Int) - 1 = ((n - 1 : Nat) : Int) := by clear hW hVd ih hte w1 w2; omega
      have f : n < 9223372036854775808 := by clear hW hVd ih hte w1 w2; omega
      clear hW hVd ih hte hlt hX w1 w2
      rw [e]; exact wrap64_id (by omega) (by omega)
    have g1 : 0 ≤ ((k + n : Nat) : Int) := Int.natCast_nonneg _
    have g1l : ((k + n : Nat) : Int) < (U.length : Int) := Int.ofNat_lt.2 hkU
    have g2 : 0 ≤ ((k + n - 1 : Nat) : Int) := Int.natCast_nonneg _
    have g2l : ((k + n - 1 : Nat) : Int) < (U.length : Int) := Int.ofNat_lt.2 (Nat.lt_of_le_of_lt (Nat.sub_le _ _) hkU)
    have g3 : 0 ≤ ((n - 1 : Nat) : Int) := Int.natCast_nonneg _
    have g3l : ((n - 1 : Nat) : Int) < (Vl.length : Int) := by clear hW hVd ih hte w1 w2 w3; omega
    have hvw : IntKind.u64.wrap (rd Vl ((n - 1 : Nat) : Int)) = rd Vl ((n - 1 : Nat) : Int) := by
      have := iv1.2
      unfold b32 at this
      exact u64_id iv1.1 (Int.lt_trans this (by decide))
    have gz : ¬ (rd Vl ((n - 1 : Nat) : Int) = 0) := fun h => by rw [h] at hv1; exact absurd hv1 (by decide)
    have hquo : IntKind.u64.wrap (Int.tdiv top (rd Vl ((n - 1 : Nat) : Int))) = top / rd Vl ((n - 1 : Nat) : Int) := by
      rw [tdiv_nn htop0]; exact u64_id hd0 (Int.lt_of_le_of_lt hdle htop64)
    have hrem : Int.tmod top (rd Vl ((n - 1 : Nat) : Int)) = top % rd Vl ((n - 1 : Nat) : Int) := tmod_nn htop0
    have hwu : IntKind.u64.wrap (rd U ((k + n : Nat) : Int)) = rd U ((k + n : Nat) : Int) := by
      have := iu0.2
      unfold b32 at this
      exact u64_id iu0.1 (Int.lt_trans this (by decide))
    have hor := or_hi iu0 iu1
    rw [htop] at hor
    refine Ev.succ ?_
    rw [wk]
    simp only [nat_long.l0, if_pos g0, w1, if_pos g1, if_pos g1l, w2, if_pos g2, if_pos g2l, w3, if_pos g3, if_pos g3l, hvw, if_neg gz, hwu, hor, hquo, hrem]
    exact main
theorem lead_shift (v : Nat) (h0 : v ≠ 0) (h : v < 4294967296) : ∃ s : Nat, s ≤ 31 ∧ 32 - (Lib.bitLen v : Int) = (s : Int) ∧ (v + 1) * 2 ^ s ≤ 4294967296 := by
  have hs : 1 ≤ Lib.bitLen v ∧ 2 ^ (Lib.bitLen v - 1) ≤ v ∧ v < 2 ^ Lib.bitLen v := Lib.bitLenAux_bounds 64 v (Nat.lt_trans h (by decide)) h0
  have h1 : Lib.bitLen v ≤ 32 := Lib.bitLen_le v 32 (by decide) (Nat.lt_of_lt_of_eq h (by decide))
  have h2 := hs.1
  refine ⟨32 - Lib.bitLen v, by clear hs; omega, by clear hs; omega, ?_⟩
  have h3 : (v + 1) * 2 ^ (32 - Lib.bitLen v) ≤ 2 ^ Lib.bitLen v * 2 ^ (32 - Lib.bitLen v) := Nat.mul_le_mul_right _ hs.2.2
  rw [← Nat.pow_add, show Lib.bitLen v + (32 - Lib.bitLen v) = 32 by clear h3 hs; omega] at h3
  exact h3
theorem long_spec (x y : List Int) (hx : InR b32 x) (hy : InR b32 y) (hn : 2 ≤ y.length) (hxy : y.length ≤ x.length) (hsz : x.length ≤ 70368744177662) (htop : 1 ≤ rd y ((y.length - 1 : Nat) : Int)) :
    Ev (fun k => nat_longq.f k x y) (dl (x.length + 1 - y.length) (lv b32 x / lv b32 y), dl y.length (lv b32 x % lv b32 y)) := by
  have k1 : y.length - 1 < y.length := by omega
  have k2 : y.length - 1 + 1 = y.length := by omega
  have k3 : (y.length - 1).succ = y.length := k2
  have k4 : y.length - 1 + (x.length + 1 - y.length) = x.length := by omega
  have k5 : y.length ≤ y.length + 1 := by omega
  have k6 : x.length + 1 ≤ 70368744177664 := by omega
  have k7 : y.length < x.length + 1 := by omega
  have k8 : x.length + 1 - y.length + y.length = x.length + 1 := by omega
  have k9 : y.length ≤ x.length + 1 := by omega
  have k10 : y.length - 1 ≤ y.length + 1 := by omega
  have k11 : x.length ≤ 70368744177663 := by omega
  have k12 : y.length ≤ 70368744177663 := by omega
  have g2 : 0 ≤ ((x.length + 1 - y.length : Nat) : Int) := Int.natCast_nonneg _
  have g3 : x.length + 1 - y.length ≤ 70368744177664 := by omega
  have g1 : 0 ≤ ((y.length - 1 : Nat) : Int) := Int.natCast_nonneg _
  have g1l : ((y.length - 1 : Nat) : Int) < (y.length : Int) := Int.ofNat_lt.2 k1
  have w1 : wrap64 ((y.length : Int) - 1) = ((y.length - 1 : Nat) : Int) := by
    have e : (y.length : Int) - 1 = ((y.length - 1 : Nat) : Int) := by omega
    rw [e]; exact wrap64_id (by omega) (by omega)
  have w2' : wrap64 (((x.length + 1 : Nat) : Int) - (y.length : Int)) = ((x.length + 1 - y.length : Nat) : Int) := by
    have e : ((x.length + 1 : Nat) : Int) - (y.length : Int) = ((x.length + 1 - y.length : Nat) : Int) := by clear w1; omega
    rw [e]; exact wrap64_id (by clear w1; omega) (by clear w1; omega)
  have w3 : wrap64 (((x.length + 1 - y.length : Nat) : Int) - 1) = ((x.length + 1 - y.length : Nat) : Int) - 1 := wrap64_id (by clear w1 w2'; omega) (by clear w1 w2'; omega)
  have it := InR_rd b32_pos hy ((y.length - 1 : Nat) : Int)
  have it32 : (rd y ((y.length - 1 : Nat) : Int)).toNat ≠ 0 := by clear w1 w2' w3; omega
  have it33 : (rd y ((y.length - 1 : Nat) : Int)).toNat < 4294967296 := by clear w1 w2' w3; unfold b32 at it; omega
  have it34 : rd y ((y.length - 1 : Nat) : Int) + 1 = (((rd y ((y.length - 1 : Nat) : Int)).toNat + 1 : Nat) : Int) := by clear w1 w2' w3; omega
  obtain ⟨s, hs, hs1, hs2⟩ := lead_shift (rd y ((y.length - 1 : Nat) : Int)).toNat it32 it33
  obtain ⟨u, hu, hu1, hu2, hu3⟩ := left_spec x hx k11 s hs
  obtain ⟨v, hv, hv1, hv2, hv3⟩ := left_spec y hy k12 s hs
  have hp : (0 : Int) < 2 ^ s := Int.pow_pos (by decide)
  have hpn : (0 : Int) < b32 ^ (y.length - 1) := pow_pos' b32_pos _
  -- the value of y
  have hysplit : lv b32 y = lv b32 (y.take (y.length - 1)) + rd y ((y.length - 1 : Nat) : Int) * b32 ^ (y.length - 1) := by
    have h := lv_take_succ b32 y (y.length - 1) k1
    rw [k2, List.take_length, getD_eq_rd] at h
    exact h
  have hyl0 := lv_nonneg b32_pos (InR_take hy (y.length - 1))
  have hyl1 := lv_lt b32_pos (InR_take hy (y.length - 1))
  rw [List.length_take, Nat.min_eq_left (Nat.sub_le _ _)] at hyl1
  have hyge : b32 ^ (y.length - 1) ≤ lv b32 y := by
    rw [hysplit]
    have h1 : 1 * b32 ^ (y.length - 1) ≤ rd y ((y.length - 1 : Nat) : Int) * b32 ^ (y.length - 1) := Int.mul_le_mul_of_nonneg_right htop (Int.le_of_lt hpn)
    rw [Int.one_mul] at h1
    exact Int.le_trans h1 (Int.le_add_of_nonneg_left hyl0)
  have hypos : 0 < lv b32 y := Int.lt_of_lt_of_le hpn hyge
  have hvlt : lv b32 v < b32 ^ y.length := by
    rw [hv3]
    have h1 : lv b32 y < (rd y ((y.length - 1 : Nat) : Int) + 1) * b32 ^ (y.length - 1) := by
      rw [hysplit, Int.add_mul, Int.one_mul, Int.add_comm]
      exact Int.add_lt_add_left hyl1 _
    have h2 : lv b32 y * 2 ^ s < (rd y ((y.length - 1 : Nat) : Int) + 1) * b32 ^ (y.length - 1) * 2 ^ s := Int.mul_lt_mul_of_pos_right h1 hp
    have h3 : (rd y ((y.length - 1 : Nat) : Int) + 1) * 2 ^ s ≤ b32 := by
      rw [two_pow_cast]
      rw [it34, ← Int.natCast_mul]
      exact cast32 hs2
    have h4 : (rd y ((y.length - 1 : Nat) : Int) + 1) * 2 ^ s * b32 ^ (y.length - 1) ≤ b32 * b32 ^ (y.length - 1) := Int.mul_le_mul_of_nonneg_right h3 (Int.le_of_lt hpn)
    have e1 : b32 * b32 ^ (y.length - 1) = b32 ^ y.length := by rw [Int.mul_comm, ← Int.pow_succ, k3]
    have e2 : (rd y ((y.length - 1 : Nat) : Int) + 1) * b32 ^ (y.length - 1) * 2 ^ s = (rd y ((y.length - 1 : Nat) : Int) + 1) * 2 ^ s * b32 ^ (y.length - 1) := by grind
    rw [e2] at h2
    rw [e1] at h4
    exact Int.lt_of_lt_of_le h2 h4
  have hvz : ∀ j, y.length ≤ j → v.getD j 0 = 0 := fun j hj => zero_of_lv_lt hv2 hvlt j hj
  have hvtake : lv b32 (v.take y.length) = lv b32 y * 2 ^ s := by
    have h := lv_split b32 v y.length (by rw [hv1]; exact k5)
    rw [lv_drop_zero hvz, Int.mul_zero, Int.add_zero, hv3] at h
    exact h.symm
  have hvv0 : 0 < lv b32 y * 2 ^ s := Int.mul_pos hypos hp
  have hvge : b32 ^ (y.length - 1) ≤ lv b32 y * 2 ^ s := by
    have h1 : lv b32 y * 1 ≤ lv b32 y * 2 ^ s := Int.mul_le_mul_of_nonneg_left hp (Int.le_of_lt hypos)
    rw [Int.mul_one] at h1
    exact Int.le_trans hyge h1
  have hv1top : 1 ≤ rd v ((y.length - 1 : Nat) : Int) := by
    have iv := InR_rd b32_pos hv2 ((y.length - 1 : Nat) : Int)
    refine Int.not_lt.1 (fun hlt => ?_)
    have hz : rd v ((y.length - 1 : Nat) : Int) = 0 := Int.le_antisymm (Int.lt_add_one_iff.1 hlt) iv.1
    have hz2 : ∀ j, y.length - 1 ≤ j → v.getD j 0 = 0 := fun j hj => by
      by_cases h : j = y.length - 1
      · rw [h, getD_eq_rd]; exact hz
      · exact hvz j (le_of_pred hj h)
    have := lv_lt_of_zero hv2 (by rw [hv1]; exact k10) hz2
    rw [hv3] at this
    exact absurd hvge (Int.not_le.2 this)
  -- the start
  have hstart : lv b32 u < lv b32 y * 2 ^ s * b32 ^ (x.length + 1 - y.length) := by
    rw [hu3]
    have h1 := lv_lt b32_pos hx
    have h2 : b32 ^ (y.length - 1) * b32 ^ (x.length + 1 - y.length) ≤ lv b32 y * b32 ^ (x.length + 1 - y.length) := Int.mul_le_mul_of_nonneg_right hyge (Int.le_of_lt (pow_pos' b32_pos _))
    rw [← Int.pow_add, k4] at h2
    have h3 : lv b32 x * 2 ^ s < lv b32 y * b32 ^ (x.length + 1 - y.length) * 2 ^ s := Int.mul_lt_mul_of_pos_right (Int.lt_of_lt_of_le h1 h2) hp
    have e : lv b32 y * b32 ^ (x.length + 1 - y.length) * 2 ^ s = lv b32 y * 2 ^ s * b32 ^ (x.length + 1 - y.length) := by grind
    rw [e] at h3
    exact h3
  have hmodt : lv b32 x * 2 ^ s % (lv b32 y * 2 ^ s) = 2 ^ s * (lv b32 x % lv b32 y) := by
    rw [Int.mul_comm (lv b32 x), Int.mul_comm (lv b32 y), Int.mul_emod_mul_of_pos _ _ hp]
  have hdivt : lv b32 x * 2 ^ s / (lv b32 y * 2 ^ s) = lv b32 x / lv b32 y := by
    rw [Int.mul_comm (lv b32 x), Int.mul_comm (lv b32 y), Int.mul_ediv_mul_of_pos _ _ hp]
  have main := long_l0 v y.length s (x.length + 1) (x.length + 1 - y.length) hs hv2 hn (by rw [hv1]; exact k5) k6 k7 k8 (lv b32 y * 2 ^ s) hvtake hv1top hvv0 (lv b32 x * 2 ^ s) (lv b32 x % lv b32 y) hmodt
    (x.length + 1 - y.length) (List.replicate (x.length + 1 - y.length) 0) u (Nat.le_refl _) (by rw [List.length_replicate]) (InR_replicate b32_pos _) (fun j _ => getD_replicate _ j) hu1 hu2 hstart (by rw [lv_zeros, Int.zero_mul, Int.zero_add, hu3])
  rw [hdivt] at main
  have w2 : wrap64 ((u.length : Int) - (y.length : Int)) = ((x.length + 1 - y.length : Nat) : Int) := by rw [hu1]; exact w2'
  have hlz : bits_LeadingZeros32.f (rd y ((y.length - 1 : Nat) : Int)) = some (s : Int) := by
    have gl : 0 ≤ rd y ((y.length - 1 : Nat) : Int) ∧ rd y ((y.length - 1 : Nat) : Int) ≤ 4294967295 := ⟨it.1, le_pred32 it.2⟩
    unfold bits_LeadingZeros32.f
    rw [if_pos gl, hs1]
  have hlong : Ev (fun k => nat_long.f k x y) (dl (x.length + 1 - y.length) (lv b32 x / lv b32 y), dl (x.length + 1) (lv b32 x % lv b32 y)) := by
    have e1 : ∀ k, nat_long.f k x y = (nat_left.f k x (s : Int)).bind fun t110 => (nat_left.f k y (s : Int)).bind fun t113 => (if 0 ≤ wrap64 ((t110.length : Int) - (y.length : Int)) then (if (wrap64 ((t110.length : Int) - (y.length : Int)) : Int).toNat ≤ 70368744177664 then ((some (List.replicate (wrap64 ((t110.length : Int) - (y.length : Int)) : Int).toNat 0 : List Int)).bind fun y116 => (nat_long.l0 k y116 (s : Int) (y.length : Int) t110 t113 (wrap64 ((y116.length : Int) - 1)))) else none) else none) := by
      intro k
      unfold nat_long.f
      rw [w1, if_pos g1, if_pos g1l, hlz, Option.bind_some]
    refine Ev.congr e1 ?_
    refine Ev.bind hu ?_
    refine Ev.bind hv ?_
    refine Ev.congr (f := fun K => nat_long.l0 K (List.replicate (x.length + 1 - y.length) 0) (s : Int) (y.length : Int) u v (((x.length + 1 - y.length : Nat) : Int) - 1)) (fun k => ?_) main
    rw [w2, if_pos g2, Int.toNat_natCast, if_pos g3, Option.bind_some, List.length_replicate, w3]
  have htake : (dl (x.length + 1) (lv b32 x % lv b32 y)).take y.length = dl y.length (lv b32 x % lv b32 y) := by
    have : ∀ (m n : Nat) (z : Int), m ≤ n → (dl n z).take m = dl m z := by
      intro m
      induction m with
      | zero => intro n z _; simp [dl]
      | succ m ih =>
        intro n z h
        cases n with
        | zero => exact absurd h (by omega)
        | succ n => simp only [dl, List.take_succ_cons, ih n (z / b32) (Nat.le_of_succ_le_succ h)]
    exact this _ _ _ k9
  unfold nat_longq.f
  refine Ev.bind hlong ?_
  simp only [htake]
  exact Ev.now _
end Go.Proofs.YtgpbkoajifbcfaaDoor.SB
