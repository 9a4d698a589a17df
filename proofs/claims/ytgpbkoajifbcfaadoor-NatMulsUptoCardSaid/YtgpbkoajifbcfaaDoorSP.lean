/- What nat.Div computes; the law NatMuls. -/
import Derived.Test.YtgpbkoajifbcfaaDoorSO
namespace Go.Proofs.YtgpbkoajifbcfaaDoor.SB
open Go.RowKit Go.Proofs.YtgpbkoajifbcfaaDoor.A Go.Proofs.YtgpbkoajifbcfaaDoor.B Go.Proofs.YtgpbkoajifbcfaaDoor.C Go.Proofs.YtgpbkoajifbcfaaDoor.H Go.Proofs.YtgpbkoajifbcfaaDoor.L Go.Proofs.YtgpbkoajifbcfaaDoor.M Go.Proofs.YtgpbkoajifbcfaaDoor.SA Go.Proofs.YtgpbkoajifbcfaaDoorW.PrintWords Go.Proofs.YtgpbkoajifbcfaaDoorW.PrintLast Go.Proofs.YtgpbkoajifbcfaaDoorW.PrintMore
set_option linter.unusedVariables false
set_option linter.unusedSimpArgs false
theorem dl_InR : ∀ (n : Nat) (v : Int), InR b32 (dl n v)
  | 0, _ => InR_nil _
  | n + 1, v => InR_cons.2 ⟨⟨Int.emod_nonneg _ (by decide), Int.emod_lt_of_pos _ (by decide)⟩, dl_InR n _⟩
theorem dl_length : ∀ (n : Nat) (v : Int), (dl n v).length = n
  | 0, _ => rfl
  | n + 1, v => by simp [dl, dl_length n]
theorem lv_dl : ∀ (n : Nat) (v : Int), 0 ≤ v → v < b32 ^ n → lv b32 (dl n v) = v
  | 0, v, h0, h => by simp at h; have : v = 0 := by omega
                      rw [this]; rfl
  | n + 1, v, h0, h => by
    have h1 : v / b32 < b32 ^ n := Int.ediv_lt_of_lt_mul (by decide) (by rw [← Int.pow_succ]; exact h)
    simp only [dl, lv, lv_dl n (v / b32) (Int.ediv_nonneg h0 (by decide)) h1]
    have := Int.mul_ediv_add_emod v b32
    omega
/-- the division by one word -/
theorem one_step {r x y : Int} (hy : 1 ≤ y) (hyb : y < b32) (hx : 0 ≤ x ∧ x < b32) (hr : 0 ≤ r ∧ r < y) :
    ∃ p, Go.bits .or .u64 (IntKind.u64.wrap (r * 4294967296)) (IntKind.u64.wrap x) = p ∧ p = r * b32 + x ∧ IntKind.u64.wrap (Int.tdiv p (IntKind.u64.wrap y)) % 4294967296 = p / y ∧ Int.tmod p (IntKind.u64.wrap y) = p % y ∧ 0 ≤ p / y ∧ p / y < b32 ∧ 0 ≤ p % y ∧ p % y < y := by
  have hrb : r < b32 := Int.lt_trans hr.2 hyb
  refine ⟨_, rfl, or_hi ⟨hr.1, hrb⟩ hx, ?_⟩
  rw [or_hi ⟨hr.1, hrb⟩ hx]
  have e1 : IntKind.u64.wrap y = y := by unfold b32 at hyb; exact u64_id (by omega) (by omega)
  have h0 : 0 ≤ r * b32 + x := Int.add_nonneg (Int.mul_nonneg hr.1 (by decide)) hx.1
  have h1 : r * b32 + x < b32 * y := by
    have : (r + 1) * b32 ≤ y * b32 := Int.mul_le_mul_of_nonneg_right hr.2 (by decide)
    rw [Int.add_mul, Int.one_mul] at this
    rw [Int.mul_comm b32]
    have := hx.2
    generalize r * b32 = A at *
    generalize y * b32 = B at *
    omega
  rw [e1, tdiv_nn h0, tmod_nn h0]
  have hd0 : 0 ≤ (r * b32 + x) / y := Int.ediv_nonneg h0 (by omega)
  have hd1 : (r * b32 + x) / y < b32 := Int.ediv_lt_of_lt_mul (by omega) h1
  have hm0 : 0 ≤ (r * b32 + x) % y := Int.emod_nonneg _ (by omega)
  have hm1 : (r * b32 + x) % y < y := Int.emod_lt_of_pos _ (by omega)
  refine ⟨?_, rfl, hd0, hd1, hm0, hm1⟩
  generalize (r * b32 + x) / y = q at *
  unfold b32 at hd1
  rw [u64_id hd0 (by omega)]
  exact Int.emod_eq_of_lt hd0 hd1
theorem lv_set_drop (o : List Int) (i : Nat) (v : Int) (h : i < o.length) : lv b32 ((o.set i v).drop i) = v + b32 * lv b32 (o.drop (i + 1)) := by
  rw [lv_drop b32 _ i (by rw [List.length_set]; exact h), rd_set_self _ h, List.drop_set_of_lt (by omega)]
theorem div_alg (D P y r x t q m p b X : Int) (h1 : p = r * b + x) (h2 : p = y * q + m) (h : D * (P * b) * y + r * (P * b) + (t + x * P) = X) : (q + b * D) * P * y + m * P + t = X := by
  have : m = r * b + x - y * q := by omega
  rw [this, ← h]
  grind
theorem div_l0 (Y : List Int) (y : Int) (hY : Y.length = 1) (hYy : rd Y 0 = y) (hy : 1 ≤ y) (hyb : y < b32) (X : Int) (N : Nat) (hN : N ≤ 70368744177664) : ∀ (i : Nat) (o : List Int) (r : Int), i ≤ N → o.length = N → InR b32 o → 0 ≤ r ∧ r < y → lv b32 (o.drop i) * b32 ^ i * y + r * b32 ^ i + lv b32 (o.take i) = X →
    Ev (fun k => nat_Div.l0 k o Y r ((i : Int) - 1)) (B (X / y).toNat, B (X % y).toNat, 0) := by
  intro i
  induction i with
  | zero =>
    intro o r hi ho hr hr2 hX
    have g : ¬ (((0 : Nat) : Int) - 1 ≥ 0) := by decide
    refine Ev.succ ?_
    simp only [nat_Div.l0, if_neg g]
    simp only [List.drop_zero, Int.pow_zero, Int.mul_one, List.take_zero, lv, Int.add_zero] at hX
    obtain ⟨h1, h2⟩ := quot_of (by omega) hX hr2.1 hr2.2
    rw [h1, h2]
    refine Ev.bind (text o (by rw [ho]; exact hN) hr) ?_
    have hf : nat_fromShort.f r = some (B r.toNat) := by
      unfold nat_fromShort.f
      rw [if_pos (by unfold b32 at hyb; clear hX h1 h2; omega)]
    simp only [hf, Option.bind_some]
    exact Ev.now _
  | succ i ih =>
    intro o r hi ho hr hr2 hX
    have hio : i < o.length := by omega
    have wi : (((i + 1 : Nat) : Int) - 1) = (i : Int) := by clear hX; omega
    have g : ((i : Int) ≥ 0) := Int.natCast_nonneg _
    have g0 : 0 ≤ (i : Int) := Int.natCast_nonneg _
    have g1 : (i : Int) < (o.length : Int) := Int.ofNat_lt.2 hio
    have g2 : 0 < (Y.length : Int) := by rw [hY]; decide
    have w1 : wrap64 ((i : Int) - 1) = (i : Int) - 1 := by clear hX; exact wrap64_id (by omega) (by omega)
    have hx := InR_rd b32_pos hr (i : Int)
    obtain ⟨p, h1, h2, h3, h4, h5, h6, h7, h8⟩ := one_step hy hyb hx hr2
    have hyw : IntKind.u64.wrap y = y := by unfold b32 at hyb; clear hX w1 h1 h2 h3 h4; exact u64_id (by omega) (by omega)
    rw [hyw] at h3 h4
    have gz : ¬ (y = 0) := by clear hX w1 h1 h2 h3 h4; omega
    have main := ih (o.set i (p / y)) (p % y) (Nat.le_of_succ_le hi) (by rw [List.length_set]; exact ho) (InR_set hr _ h5 h6) ⟨h7, h8⟩ (by
      rw [lv_set_drop _ _ _ hio, List.take_set_of_le (Nat.le_refl i)]
      rw [lv_take_succ _ _ _ hio, getD_eq_rd, Int.pow_succ] at hX
      exact div_alg _ _ _ _ _ _ _ _ p b32 X h2 (Int.mul_ediv_add_emod p y).symm hX)
    refine Ev.succ ?_
    rw [wi]
    simp only [nat_Div.l0, if_pos g, if_pos g0, if_pos g1, if_pos g2, hYy, hyw, if_neg gz, h1, h3, h4, w1, Int.toNat_natCast]
    exact main
end Go.Proofs.YtgpbkoajifbcfaaDoor.SB
