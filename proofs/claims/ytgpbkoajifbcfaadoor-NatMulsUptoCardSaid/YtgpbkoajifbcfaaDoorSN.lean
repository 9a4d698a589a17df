/- nat.long: the shift back of the remainder. -/
import Derived.Test.YtgpbkoajifbcfaaDoorSM
namespace Go.Proofs.YtgpbkoajifbcfaaDoor.SB
open Go.RowKit Go.Proofs.YtgpbkoajifbcfaaDoor.A Go.Proofs.YtgpbkoajifbcfaaDoor.B Go.Proofs.YtgpbkoajifbcfaaDoor.C Go.Proofs.YtgpbkoajifbcfaaDoor.H Go.Proofs.YtgpbkoajifbcfaaDoor.L Go.Proofs.YtgpbkoajifbcfaaDoor.M Go.Proofs.YtgpbkoajifbcfaaDoor.SA Go.Proofs.YtgpbkoajifbcfaaDoorW.PrintWords Go.Proofs.YtgpbkoajifbcfaaDoorW.PrintLast Go.Proofs.YtgpbkoajifbcfaaDoorW.PrintMore
set_option linter.unusedVariables false
set_option linter.unusedSimpArgs false
/-- the digits of a number, so many -/
def dl : Nat → Int → List Int
  | 0, _ => []
  | n + 1, v => (v % b32) :: dl n (v / b32)
theorem dl_lv : ∀ {l : List Int}, InR b32 l → dl l.length (lv b32 l) = l
  | [], _ => rfl
  | x :: l, h => by
    have h1 := InR_cons.1 h
    have hx : (x + b32 * lv b32 l) % b32 = x := by rw [Int.add_mul_emod_self_left]; exact Int.emod_eq_of_lt h1.1.1 h1.1.2
    have hq : (x + b32 * lv b32 l) / b32 = lv b32 l := by rw [Int.add_mul_ediv_left _ _ (by decide), Int.ediv_eq_zero_of_lt h1.1.1 h1.1.2, Int.zero_add]
    simp only [List.length_cons, dl, lv, hx, hq, dl_lv h1.2]
theorem dl_eq {l : List Int} {n : Nat} {v : Int} (h : InR b32 l) (hn : l.length = n) (hv : lv b32 l = v) : dl n v = l := by subst hn; subst hv; exact dl_lv h
theorem shift_digit {x w : Int} {s : Nat} (hs : s ≤ 31) (hx : 0 ≤ x ∧ x < b32) (hw : 0 ≤ w ∧ w < b32) :
    ∃ y : Int, shr .u32 x (s : Int) = y ∧ 0 ≤ y ∧ y < b32 ∧ 2 ^ s * y = x - x % 2 ^ s ∧
    ∃ z : Int, Go.bits .or .u32 y (shl .u64 (IntKind.u64.wrap w) ((32 - s : Nat) : Int) % 4294967296) = z ∧ 0 ≤ z ∧ z < b32 ∧ 2 ^ s * z = x - x % 2 ^ s + (w % 2 ^ s) * b32 := by
  have hp : (0 : Int) < 2 ^ s := Int.pow_pos (by decide)
  have hq : (0 : Int) < 2 ^ (32 - s) := Int.pow_pos (by decide)
  have hb := pow_split (s := s) (by omega)
  have e1 : shr .u32 x (s : Int) = x / 2 ^ s := by
    have h := shr_small (k := .u32) (x := x) (y := (s : Int)) rfl (by show (s : Int) ≤ 32; omega)
    rw [← h, Int.toNat_natCast]
  have hq32 : (2 : Int) ^ (32 - s) ≤ 4294967296 := by
    rw [two_pow_cast]
    have := Nat.pow_le_pow_right (n := 2) (by decide) (Nat.sub_le 32 s)
    have e : 2 ^ 32 = 4294967296 := by decide
    rw [e] at this
    omega
  have h1 : 0 ≤ w * 2 ^ (32 - s) := Int.mul_nonneg hw.1 (Int.le_of_lt hq)
  have h2 : w * 2 ^ (32 - s) ≤ w * 4294967296 := Int.mul_le_mul_of_nonneg_left hq32 hw.1
  have h3 : w * 4294967296 < 18446744073709551616 := by unfold b32 at hw; omega
  have e2 : shl .u64 (IntKind.u64.wrap w) ((32 - s : Nat) : Int) = w * 2 ^ (32 - s) := by
    have h := shl_small (k := .u64) (x := IntKind.u64.wrap w) (y := ((32 - s : Nat) : Int)) rfl (by show ((32 - s : Nat) : Int) ≤ 64; omega)
    rw [← h, Int.toNat_natCast, u64_id (t := w) hw.1 (by unfold b32 at hw; omega), u64_id h1 (by omega)]
  have hmod : w * 2 ^ (32 - s) % 4294967296 = 2 ^ (32 - s) * (w % 2 ^ s) := by
    rw [show (4294967296 : Int) = 2 ^ (32 - s) * 2 ^ s from hb.trans (Int.mul_comm _ _), Int.mul_comm w, Int.mul_emod_mul_of_pos _ _ hq]
  have hy0 : 0 ≤ x / 2 ^ s := Int.ediv_nonneg hx.1 (Int.le_of_lt hp)
  have hyq : x / 2 ^ s < 2 ^ (32 - s) := by
    refine Int.ediv_lt_of_lt_mul hp ?_
    rw [Int.mul_comm, ← hb]; exact hx.2
  have hdm : 2 ^ s * (x / 2 ^ s) = x - x % 2 ^ s := by have := Int.mul_ediv_add_emod x (2 ^ s); omega
  have hr0 : 0 ≤ w % 2 ^ s := Int.emod_nonneg _ (by omega)
  have hr1 : w % 2 ^ s + 1 ≤ 2 ^ s := Int.emod_lt_of_pos _ hp
  have hm2 : 2 ^ (32 - s) * (w % 2 ^ s + 1) ≤ b32 := by rw [hb, Int.mul_comm (2 ^ s)]; exact Int.mul_le_mul_of_nonneg_left hr1 (Int.le_of_lt hq)
  rw [Int.mul_add, Int.mul_one] at hm2
  have hm0 : 0 ≤ 2 ^ (32 - s) * (w % 2 ^ s) := Int.mul_nonneg (Int.le_of_lt hq) hr0
  have hdvd : 2 ^ (32 - s) * (w % 2 ^ s) % 2 ^ (32 - s) = 0 := Int.mul_emod_right _ _
  have e32 : (2 : Int) ^ 32 = b32 := by decide
  have hor : Go.bits .or .u32 (x / 2 ^ s) (2 ^ (32 - s) * (w % 2 ^ s)) = x / 2 ^ s + 2 ^ (32 - s) * (w % 2 ^ s) :=
    or32' (32 - s) _ _ hy0 hyq (by rw [e32]; omega) hm0 hdvd (by rw [e32]; omega)
  refine ⟨_, e1, hy0, by omega, hdm, _, rfl, ?_⟩
  rw [e2, hmod, hor]
  refine ⟨by omega, by omega, ?_⟩
  rw [Int.mul_add, hdm, ← Int.mul_assoc, ← hb, Int.mul_comm b32]
theorem l2_loop (q U : List Int) (n s N : Nat) (hs : s ≤ 31) (hU : InR b32 U) (hN : U.length = N) (hn : n < N) (hsz : N ≤ 70368744177664) (t : Int) (ht : lv b32 U = 2 ^ s * t) (hlt : lv b32 U < b32 ^ n) (d : Nat) :
    ∀ (i : Nat) (O : List Int), i ≤ n → n - i = d → O.length = N → InR b32 O → (∀ j, i ≤ j → O.getD j 0 = U.getD j 0) → 2 ^ s * lv b32 (O.take i) = lv b32 (U.take i) + (if i < n then rd U (i : Int) % 2 ^ s else 0) * b32 ^ i →
      Ev (fun K => nat_long.l2 K q (s : Int) (n : Int) O (n : Int) (i : Int)) (q, dl N t) := by
  have hp : (0 : Int) < 2 ^ s := Int.pow_pos (by decide)
  induction d with
  | zero =>
    intro i O hi hd hO hr hsame hv
    have e : i = n := by omega
    subst e
    have g : ¬ ((i : Int) < (i : Int)) := by omega
    refine Ev.succ ?_
    simp only [nat_long.l2, if_neg g]
    rw [if_neg (Nat.lt_irrefl i), Int.zero_mul, Int.add_zero] at hv
    have hz : ∀ j, i ≤ j → U.getD j 0 = 0 := fun j hj => zero_of_lv_lt hU hlt j hj
    have h1 := lv_split b32 U i (by omega)
    rw [lv_drop_zero hz, Int.mul_zero, Int.add_zero] at h1
    have h2 := lv_split b32 O i (by omega)
    rw [lv_drop_zero (fun j hj => by rw [hsame j hj]; exact hz j hj), Int.mul_zero, Int.add_zero] at h2
    rw [← h1, ht] at hv
    have h3 := Int.eq_of_mul_eq_mul_left (by omega) hv
    rw [dl_eq hr hO (h2.trans h3)]
    exact Ev.now _
  | succ d ih =>
    intro i O hi hd hO hr hsame hv
    have hin : i < n := by omega
    have f1 : i + 1 ≤ n := by omega
    have f2 : n - (i + 1) = d := by omega
    have fO : i < O.length := by omega
    have g : ((i : Int) < (n : Int)) := by omega
    have g0 : 0 ≤ (i : Int) := Int.natCast_nonneg _
    have gO : (i : Int) < (O.length : Int) := Int.ofNat_lt.2 fO
    have gO1 : ((i + 1 : Nat) : Int) < (O.length : Int) := Int.ofNat_lt.2 (by omega)
    have g1 : 0 ≤ ((i + 1 : Nat) : Int) := Int.natCast_nonneg _
    have gs : 0 ≤ (s : Int) := Int.natCast_nonneg _
    have g32 : 0 ≤ ((32 - s : Nat) : Int) := Int.natCast_nonneg _
    have hOi : rd O (i : Int) = rd U (i : Int) := by rw [← getD_eq_rd, ← getD_eq_rd]; exact hsame i (Nat.le_refl _)
    have hOi1 : rd O ((i + 1 : Nat) : Int) = rd U ((i + 1 : Nat) : Int) := by rw [← getD_eq_rd, ← getD_eq_rd]; exact hsame (i + 1) (by omega)
    obtain ⟨y, hy, hy0, hy1, hy2, z, hz, hz0, hz1, hz2⟩ := shift_digit hs (InR_rd b32_pos hU (i : Int)) (InR_rd b32_pos hU ((i + 1 : Nat) : Int))
    rw [if_pos hin] at hv
    have hUt := lv_take_succ b32 U i (by omega)
    rw [getD_eq_rd] at hUt
    have key : ∀ (v : Int) (c : Int), 0 ≤ v → v < b32 → 2 ^ s * v = rd U (i : Int) - rd U (i : Int) % 2 ^ s + c * b32 → c = (if i + 1 < n then rd U ((i + 1 : Nat) : Int) % 2 ^ s else 0) →
        Ev (fun K => nat_long.l2 K q (s : Int) (n : Int) (O.set i v) (n : Int) ((i + 1 : Nat) : Int)) (q, dl N t) := by
      intro v c hv0 hv1 hv2 hc
      refine ih (i + 1) (O.set i v) f1 f2 (by rw [List.length_set]; exact hO) (InR_set hr _ hv0 hv1) (fun j hj => ?_) ?_
      · have hne : i ≠ j := by omega
        rw [lset_ne _ hne]; exact hsame j (by omega)
      · rw [← hc, lv_take_succ _ _ _ (by rw [List.length_set]; exact fO), List.take_set_of_le (Nat.le_refl i), getD_eq_rd, rd_set_self _ fO, hUt, Int.mul_add, hv, ← Int.mul_assoc, hv2, Int.pow_succ]
        generalize rd U (i : Int) % 2 ^ s = A
        generalize (b32 : Int) ^ i = Q
        grind
    have w1 : wrap64 ((i : Int) + 1) = ((i + 1 : Nat) : Int) := by rw [wrap64_id (by omega) (by omega)]; rfl
    have w2 : wrap64 (32 - (s : Int)) = ((32 - s : Nat) : Int) := by
      have e : 32 - (s : Int) = ((32 - s : Nat) : Int) := by omega
      rw [e]; exact wrap64_id (by clear w1; omega) (by clear w1; omega)
    refine Ev.succ ?_
    by_cases h1 : i + 1 < n
    · have gn : ((i + 1 : Nat) : Int) < (n : Int) := Int.ofNat_lt.2 h1
      have hne : i ≠ i + 1 := by omega
      simp only [nat_long.l2, if_pos g, if_pos g0, if_pos gO, if_pos gs, hOi, hy, Option.bind_some, w1, if_pos gn, if_pos g1, if_pos gO1, w2, if_pos g32, Int.toNat_natCast, rd_set_self _ fO, rd_set_ne _ hne, hOi1, hz, List.set_set]
      exact key z _ hz0 hz1 hz2 (by rw [if_pos h1])
    · have gn : ¬ (((i + 1 : Nat) : Int) < (n : Int)) := fun h => h1 (Int.ofNat_lt.1 h)
      simp only [nat_long.l2, if_pos g, if_pos g0, if_pos gO, if_pos gs, hOi, hy, Option.bind_some, w1, if_neg gn, Int.toNat_natCast]
      exact key y 0 hy0 hy1 (by rw [hy2, Int.zero_mul, Int.add_zero]) (by rw [if_neg h1])
end Go.Proofs.YtgpbkoajifbcfaaDoor.SB
