/- What nat.left computes. -/
import Derived.Test.YtgpbkoajifbcfaaDoorSF
import Derived.Test.YtgpbkoajifbcfaaDoorKD
namespace Go.Proofs.YtgpbkoajifbcfaaDoor.SB
open Go.RowKit Go.Proofs.YtgpbkoajifbcfaaDoor.A Go.Proofs.YtgpbkoajifbcfaaDoor.B Go.Proofs.YtgpbkoajifbcfaaDoor.C Go.Proofs.YtgpbkoajifbcfaaDoor.H Go.Proofs.YtgpbkoajifbcfaaDoor.M Go.Proofs.YtgpbkoajifbcfaaDoor.SA Go.Proofs.YtgpbkoajifbcfaaDoorW.PrintWords Go.Proofs.YtgpbkoajifbcfaaDoorW.PrintLast Go.Proofs.YtgpbkoajifbcfaaDoorW.PrintMore
set_option linter.unusedVariables false
set_option linter.unusedSimpArgs false
theorem two_pow_cast (s : Nat) : (2 : Int) ^ s = ((2 ^ s : Nat) : Int) := (pow_nat 2 s).symm
theorem pow_split {s : Nat} (hs : s ≤ 32) : (b32 : Int) = 2 ^ s * 2 ^ (32 - s) := by rw [← Int.pow_add, show s + (32 - s) = 32 by omega]; rfl
theorem left_digit {w c : Int} {s : Nat} (hs : s ≤ 31) (hw : 0 ≤ w ∧ w < b32) (hc : 0 ≤ c ∧ c < 2 ^ s) :
    ∃ n : Int, shl .u64 (IntKind.u64.wrap w) (s : Int) = n ∧ n = w * 2 ^ s ∧ 0 ≤ n ∧ Go.bits .or .u32 c (n % 4294967296) = c + n % 4294967296 ∧ c + n % 4294967296 < b32 ∧ n / 4294967296 % 4294967296 = n / 4294967296 ∧ 0 ≤ n / 4294967296 ∧ n / 4294967296 < 2 ^ s := by
  refine ⟨_, rfl, ?_⟩
  have hp : (0 : Int) < 2 ^ s := Int.pow_pos (by decide)
  have hq : (0 : Int) < 2 ^ (32 - s) := Int.pow_pos (by decide)
  have hb := pow_split (s := s) (by omega)
  have hp31 : (2 : Int) ^ s ≤ 2147483648 := by
    rw [two_pow_cast]
    have := Nat.pow_le_pow_right (n := 2) (by decide) hs
    have e : 2 ^ 31 = 2147483648 := by decide
    rw [e] at this
    omega
  have h1 : 0 ≤ w * 2 ^ s := Int.mul_nonneg hw.1 (Int.le_of_lt hp)
  have h2 : w * 2 ^ s ≤ w * 2147483648 := Int.mul_le_mul_of_nonneg_left hp31 hw.1
  have h3 : w * 2147483648 < 18446744073709551616 := by unfold b32 at hw; omega
  have e1 : shl .u64 (IntKind.u64.wrap w) (s : Int) = w * 2 ^ s := by
    have h := shl_small (k := .u64) (x := IntKind.u64.wrap w) (y := (s : Int)) rfl (by show (s : Int) ≤ 64; omega)
    rw [← h, Int.toNat_natCast, u64_id (t := w) hw.1 (by unfold b32 at hw; omega), u64_id h1 (by omega)]
  rw [e1]
  have hlt : w * 2 ^ s / 4294967296 < 2 ^ s := by
    refine Int.ediv_lt_of_lt_mul (by decide) ?_
    rw [Int.mul_comm (2 ^ s)]
    exact Int.mul_lt_mul_of_pos_right hw.2 hp
  have hge : 0 ≤ w * 2 ^ s / 4294967296 := Int.ediv_nonneg h1 (by decide)
  have hmod : w * 2 ^ s % 4294967296 = 2 ^ s * (w % 2 ^ (32 - s)) := by
    rw [show (4294967296 : Int) = 2 ^ s * 2 ^ (32 - s) from hb, Int.mul_comm w, Int.mul_emod_mul_of_pos _ _ hp]
  have hr0 : 0 ≤ w % 2 ^ (32 - s) := Int.emod_nonneg _ (by omega)
  have hr1 : w % 2 ^ (32 - s) + 1 ≤ 2 ^ (32 - s) := Int.emod_lt_of_pos _ hq
  have hm2 : 2 ^ s * (w % 2 ^ (32 - s) + 1) ≤ b32 := by rw [hb]; exact Int.mul_le_mul_of_nonneg_left hr1 (Int.le_of_lt hp)
  rw [Int.mul_add, Int.mul_one] at hm2
  have hm0 : 0 ≤ 2 ^ s * (w % 2 ^ (32 - s)) := Int.mul_nonneg (Int.le_of_lt hp) hr0
  have hdvd : w * 2 ^ s % 4294967296 % 2 ^ s = 0 := by rw [hmod]; exact Int.mul_emod_right _ _
  rw [← hmod] at hm2 hm0
  refine ⟨rfl, h1, ?_, by omega, ?_, hge, hlt⟩
  · have := b32_pos
    refine or32' s c _ hc.1 hc.2 ?_ hm0 hdvd ?_
    · have e : (2 : Int) ^ 32 = 4294967296 := by decide
      rw [e]; omega
    · have e : (2 : Int) ^ 32 = 4294967296 := by decide
      rw [e]; exact Int.emod_lt_of_pos _ (by decide)
  · exact Int.emod_eq_of_lt hge (by omega)
theorem left_l0 (l : List Int) (hl : InR b32 l) (hs : l.length ≤ 70368744177663) (s : Nat) (hs31 : s ≤ 31) (d : Nat) : ∀ (i : Nat) (o : List Int), i ≤ l.length → l.length - i = d → o.length = l.length + 1 → InR b32 o → (∀ j, i < j → o.getD j 0 = 0) → o.getD i 0 < 2 ^ s → lv b32 o = lv b32 (l.take i) * 2 ^ s →
    ∃ r, Ev (fun k => nat_left.l0 k (s : Int) o l (l.length : Int) (i : Int)) r ∧ r.length = l.length + 1 ∧ InR b32 r ∧ lv b32 r = lv b32 l * 2 ^ s := by
  induction d with
  | zero =>
    intro i o hi hd hol ho hz hc hv
    have g : ¬ ((i : Int) < (l.length : Int)) := by omega
    refine ⟨o, ?_, hol, ho, ?_⟩
    · refine Ev.succ ?_
      simp only [nat_left.l0, if_neg g]
      exact Ev.now _
    · rw [hv, List.take_of_length_le (by omega)]
  | succ d ih =>
    intro i o hi hd hol ho hz hc hv
    have hil : i < l.length := by omega
    have f1 : i + 1 ≤ l.length := by omega
    have f2 : l.length - (i + 1) = d := by omega
    have fo : i < o.length := by omega
    have fo1 : i + 1 < o.length := by omega
    have g : ((i : Int) < (l.length : Int)) := by omega
    have g0 : 0 ≤ (i : Int) := Int.natCast_nonneg _
    have gs : 0 ≤ (s : Int) := Int.natCast_nonneg _
    have g1 : (i : Int) < (o.length : Int) := Int.ofNat_lt.2 fo
    have g2 : 0 ≤ ((i + 1 : Nat) : Int) := Int.natCast_nonneg _
    have g3 : ((i + 1 : Nat) : Int) < (o.length : Int) := Int.ofNat_lt.2 fo1
    have w1 : wrap64 ((i : Int) + 1) = ((i + 1 : Nat) : Int) := by rw [wrap64_id (by omega) (by omega)]; rfl
    rw [getD_eq_rd] at hc
    obtain ⟨n, hn, hn2, hn0, hor, hlt, hdm, hd0, hd1⟩ := left_digit hs31 (InR_rd b32_pos hl (i : Int)) ⟨(InR_rd b32_pos ho (i : Int)).1, hc⟩
    have hm0 : 0 ≤ n % 4294967296 := Int.emod_nonneg _ (by decide)
    have ho0 := (InR_rd b32_pos ho (i : Int)).1
    have hdb : n / 4294967296 < b32 := by
      clear w1 hn ih
      have h31 : (2 : Int) ^ s ≤ 2147483648 := by
        rw [two_pow_cast]
        have := Nat.pow_le_pow_right (n := 2) (by decide) hs31
        have e : 2 ^ 31 = 2147483648 := by decide
        rw [e] at this
        omega
      unfold b32
      omega
    have hsum : 0 ≤ rd o (i : Int) + n % 4294967296 := by clear w1 hn ih hor; omega
    obtain ⟨r, hr, hr1, hr2, hr3⟩ := ih (i + 1) ((o.set i (rd o (i : Int) + n % 4294967296)).set (i + 1) (n / 4294967296)) f1 f2 (by rw [List.length_set, List.length_set]; exact hol)
      (InR_set (InR_set ho _ hsum hlt) _ hd0 hdb)
      (fun j hj => by rw [lset_ne _ (by clear w1 hn hor hlt; omega), lset_ne _ (by clear w1 hn hor hlt; omega)]; exact hz j (by clear w1 hn hor hlt; omega))
      (by rw [getD_eq_rd, rd_set_self _ (by rw [List.length_set]; exact fo1)]; exact hd1)
      (by
        rw [lv_set _ _ _ _ (by rw [List.length_set]; exact fo1), lset_ne _ (by clear w1 hn hor hlt; omega), hz (i + 1) (by clear w1 hn hor hlt; omega), lv_set _ _ _ _ fo, getD_eq_rd, hv, lv_take_succ _ _ _ hil, getD_eq_rd, Int.pow_succ]
        have e := (Int.mul_ediv_add_emod n 4294967296).symm
        have e2 : (b32 : Int) = 4294967296 := rfl
        rw [e2]
        generalize (4294967296 : Int) ^ i = P
        have e3 : n = rd l (i : Int) * 2 ^ s := hn2
        rw [Int.add_mul, Int.mul_assoc, Int.mul_comm P (2 ^ s), ← Int.mul_assoc (rd l (i : Int)), ← e3]
        generalize lv 4294967296 (l.take i) * 2 ^ s = Z
        generalize rd o (i : Int) = c
        generalize n / 4294967296 = q at *
        generalize n % 4294967296 = m at *
        rw [e]
        grind)
    refine ⟨r, ?_, hr1, hr2, hr3⟩
    refine Ev.succ ?_
    simp only [nat_left.l0, if_pos g, if_pos g0, if_pos gs, if_pos g1, w1, if_pos g2, if_pos g3, hn, hor, hdm, Int.toNat_natCast]
    exact hr
theorem left_spec (l : List Int) (hl : InR b32 l) (hs : l.length ≤ 70368744177663) (s : Nat) (hs31 : s ≤ 31) : ∃ r, Ev (fun k => nat_left.f k l (s : Int)) r ∧ r.length = l.length + 1 ∧ InR b32 r ∧ lv b32 r = lv b32 l * 2 ^ s := by
  have w1 : wrap64 ((l.length : Int) + 1) = ((l.length + 1 : Nat) : Int) := by rw [wrap64_id (by omega) (by omega)]; rfl
  have g : 0 ≤ ((l.length + 1 : Nat) : Int) := Int.natCast_nonneg _
  have g1 : l.length + 1 ≤ 70368744177664 := by clear w1; omega
  have hp : (0 : Int) < 2 ^ s := Int.pow_pos (by decide)
  obtain ⟨r, hr, h1, h2, h3⟩ := left_l0 l hl hs s hs31 l.length 0 (List.replicate (l.length + 1) 0) (Nat.zero_le _) rfl (by rw [List.length_replicate]) (InR_replicate b32_pos _) (fun j _ => getD_replicate _ j) (by rw [getD_replicate]; exact hp) (by rw [lv_zeros]; simp [lv])
  refine ⟨r, ?_, h1, h2, h3⟩
  simp only [nat_left.f, w1, if_pos g, Int.toNat_natCast, if_pos g1]
  exact hr
end Go.Proofs.YtgpbkoajifbcfaaDoor.SB
