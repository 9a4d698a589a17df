/- What gantref1.bit, Share and Times compute. -/
import Derived.Test.YtgpbkoajifbcfaaDoorC
import Derived.Test.YtgpbkoajifbcfaaDoorSD
namespace Go.Proofs.YtgpbkoajifbcfaaDoor.SB
open Go.RowKit Go.Proofs.YtgpbkoajifbcfaaDoor.A Go.Proofs.YtgpbkoajifbcfaaDoor.B Go.Proofs.YtgpbkoajifbcfaaDoor.C Go.Proofs.YtgpbkoajifbcfaaDoor.H Go.Proofs.YtgpbkoajifbcfaaDoor.M Go.Proofs.YtgpbkoajifbcfaaDoor.SA Go.Proofs.YtgpbkoajifbcfaaDoorW.PrintWords Go.Proofs.YtgpbkoajifbcfaaDoorW.PrintLast Go.Proofs.YtgpbkoajifbcfaaDoorW.PrintMore
set_option linter.unusedVariables false
set_option linter.unusedSimpArgs false
set_option maxRecDepth 20000 in
theorem and1_fin : ∀ n : Fin 256, Go.bits .and .i64 ((n.val : Nat) : Int) 1 = ((n.val % 2 : Nat) : Int) := by decide
theorem and1 (n : Nat) (h : n < 256) : Go.bits .and .i64 (n : Int) 1 = ((n % 2 : Nat) : Int) := and1_fin ⟨n, h⟩
theorem shr_i64 (x s : Nat) (hs : s ≤ 7) : shr .i64 (x : Int) (s : Int) = ((x / 2 ^ s : Nat) : Int) := by
  have h := shr_small (k := .i64) (x := (x : Int)) (y := (s : Int)) rfl (by show (s : Int) ≤ 64; omega)
  rw [← h, Int.toNat_natCast]
  have e : (2 : Int) ^ s = ((2 ^ s : Nat) : Int) := (pow_nat 2 s).symm
  rw [e]; rfl
theorem byte_bit (n i : Nat) : n / 256 ^ (i / 8) % 256 / 2 ^ (i % 8) % 2 = n / 2 ^ i % 2 := by
  have h256 : (256 : Nat) = 2 ^ 8 := rfl
  have hi : 2 ^ i = 256 ^ (i / 8) * 2 ^ (i % 8) := by
    rw [h256, ← Nat.pow_mul, ← Nat.pow_add]
    congr 1
    omega
  rw [hi, ← Nat.div_div_eq_div_mul]
  generalize n / 256 ^ (i / 8) = m
  have hm : i % 8 < 8 := Nat.mod_lt _ (by decide)
  generalize i % 8 = s at hm
  have h8 : 256 = 2 ^ s * 2 ^ (8 - s) := by rw [← Nat.pow_add, show s + (8 - s) = 8 by omega]
  rw [h8, Nat.mod_mul_right_div_self, Nat.mod_mod_of_dvd]
  exact ⟨2 ^ (7 - s), by rw [show 8 - s = (7 - s) + 1 by omega, Nat.pow_succ, Nat.mul_comm]⟩
theorem bit_spec (a : ByteArray) (hs : a.size ≤ 140737488351232) (i : Nat) (hi : i < 9223372036854775808) : gantref1_bit.f a (i : Int) = some ((V a / 2 ^ i % 2 : Nat) : Int) := by
  have w : wrap64 (Int.tdiv (i : Int) 8) = ((i / 8 : Nat) : Int) := by
    rw [tdiv_nn (Int.natCast_nonneg _), wrap64_id (by omega) (by omega)]; rfl
  have t : Int.tmod (i : Int) 8 = ((i % 8 : Nat) : Int) := by rw [tmod_nn (Int.natCast_nonneg _)]; rfl
  have d := digit_spec a hs (i / 8)
  have g : 0 ≤ ((i % 8 : Nat) : Int) := Int.natCast_nonneg _
  have hm : i % 8 ≤ 7 := by omega
  have hlt : V a / 256 ^ (i / 8) % 256 / 2 ^ (i % 8) < 256 := Nat.lt_of_le_of_lt (Nat.div_le_self _ _) (Nat.mod_lt _ (by decide))
  simp only [gantref1_bit.f, w, t, d, Option.bind_some, if_pos g]
  rw [shr_i64 _ _ hm, and1 _ hlt, byte_bit]
theorem B_one : (⟨#[1]⟩ : ByteArray) = B 1 := by
  rw [← B_V (a := ⟨#[1]⟩)]
  · rfl
  · intro c hc
    simp at hc
    subst hc
    decide
theorem V_one : V ⟨#[1]⟩ = 1 := by rw [B_one, V_B]
theorem cmpN_nn {a b : Nat} : cmpN a b ≥ 0 ↔ b ≤ a := by
  unfold cmpN
  (repeat' split) <;> omega
theorem size_two (m k : Nat) (h : m < 256 ^ k) : (B (m + m)).size ≤ k + 1 ∧ (B (m + m + 1)).size ≤ k + 1 := by
  have e : 256 ^ (k + 1) = 256 * 256 ^ k := by rw [Nat.pow_succ, Nat.mul_comm]
  exact ⟨size_B_le (by omega), size_B_le (by omega)⟩
theorem share_l0 (a b : ByteArray) (ha : a.size ≤ 1099511627776) (hb : b.size ≤ 1099511627776) (hb0 : V b ≠ 0) : ∀ (i q r : Nat), i ≤ 8 * a.size → V a / 2 ^ i = q * V b + r → r < V b →
    Ev (fun k => gantref1_Share.l0 k a b (B q) (B r) ((i : Int) - 1)) (B (V a / V b), B (V a % V b)) := by
  intro i
  induction i with
  | zero =>
    intro q r hi hq hr
    refine Ev.succ ?_
    have g : ¬ (((0 : Nat) : Int) - 1 ≥ 0) := by omega
    simp only [gantref1_Share.l0, if_neg g]
    rw [Nat.pow_zero, Nat.div_one] at hq
    have e1 : V a / V b = q := by
      rw [hq, Nat.mul_comm, Nat.mul_add_div (by omega), Nat.div_eq_of_lt hr, Nat.add_zero]
    have e2 : V a % V b = r := by rw [hq, Nat.mul_comm, Nat.mul_add_mod, Nat.mod_eq_of_lt hr]
    rw [e1, e2]
    exact Ev.now _
  | succ i ih =>
    intro q r hi hq hr
    have hstep : V a / 2 ^ i = 2 * (V a / 2 ^ (i + 1)) + V a / 2 ^ i % 2 := by
      rw [Nat.pow_succ, ← Nat.div_div_eq_div_mul]; omega
    have hqa : q ≤ V a := by
      have h1 : V a / 2 ^ (i + 1) ≤ V a := Nat.div_le_self _ _
      have h2 : q ≤ q * V b := Nat.le_mul_of_pos_right q (by omega)
      omega
    have hqs : q < 256 ^ a.size := Nat.lt_of_le_of_lt hqa (V_lt a)
    have hrs : r < 256 ^ b.size := Nat.lt_trans hr (V_lt b)
    have sq : (B q).size ≤ a.size := size_B_le hqs
    have sr : (B r).size ≤ b.size := size_B_le hrs
    have sq2 := size_two q a.size hqs
    have sr2 := size_two r b.size hrs
    have pq := plus_spec (B q) (B q) (by omega) (by omega)
    have pr := plus_spec (B r) (B r) (by omega) (by omega)
    rw [V_B] at pq pr
    have bs := bit_spec a (by omega) i (by omega)
    have wi : (((i + 1 : Nat) : Int) - 1) = (i : Int) := by omega
    have g : ((i : Int) ≥ 0) := by omega
    have wi2 : wrap64 ((i : Int) - 1) = (i : Int) - 1 := wrap64_id (by omega) (by omega)
    have key : ∀ r' : Nat, V a / 2 ^ i = 2 * q * V b + r' → r' < 2 * V b → (B r').size ≤ b.size + 1 → Ev (fun k => gantref1_Share.j1 k a b (B (q + q)) (B r') (i : Int)) (B (V a / V b), B (V a % V b)) := by
      intro r' h1 h2 h3
      refine Ev.succ ?_
      simp only [gantref1_Share.j1]
      have hc := compare_spec (B r') b (by omega) (by omega)
      rw [V_B] at hc
      refine Ev.bind hc ?_
      by_cases hge : V b ≤ r'
      · simp only [if_pos (cmpN_nn.2 hge), wi2]
        have hl := less_spec (B r') b (by omega) (by omega) (by rw [V_B]; exact hge)
        rw [V_B] at hl
        refine Ev.bind hl ?_
        have h4 := plus_spec (B (q + q)) ⟨#[1]⟩ (by omega) (by decide)
        rw [V_B, V_one] at h4
        refine Ev.bind h4 ?_
        refine ih (q + q + 1) (r' - V b) (by omega) ?_ (by omega)
        rw [h1, show q + q + 1 = 2 * q + 1 by omega, Nat.add_mul, Nat.one_mul]
        generalize 2 * q * V b = z
        omega
      · simp only [if_neg (fun h => hge (cmpN_nn.1 h)), wi2]
        refine ih (q + q) r' (by omega) ?_ (by omega)
        rw [h1, show q + q = 2 * q by omega]
    refine Ev.succ ?_
    rw [show (fun k => gantref1_Share.l0 (k + 1) a b (B q) (B r) (((i + 1 : Nat) : Int) - 1)) = (fun k => gantref1_Share.l0 (k + 1) a b (B q) (B r) (i : Int)) from by rw [wi]]
    simp only [gantref1_Share.l0, if_pos g]
    refine Ev.bind pq ?_
    refine Ev.bind pr ?_
    simp only [bs, Option.bind_some]
    have hb2 : V a / 2 ^ i % 2 < 2 := Nat.mod_lt _ (by decide)
    have hassoc : 2 * (q * V b) = 2 * q * V b := (Nat.mul_assoc 2 q (V b)).symm
    by_cases h1 : V a / 2 ^ i % 2 = 1
    · have g1 : ((V a / 2 ^ i % 2 : Nat) : Int) = 1 := by rw [h1]; rfl
      simp only [if_pos g1]
      have h4 := plus_spec (B (r + r)) ⟨#[1]⟩ (by omega) (by decide)
      rw [V_B, V_one] at h4
      refine Ev.bind h4 ?_
      refine key (r + r + 1) ?_ (by omega) sr2.2
      rw [hq, h1] at hstep
      omega
    · have g1 : ¬ ((V a / 2 ^ i % 2 : Nat) : Int) = 1 := by omega
      simp only [if_neg g1]
      refine key (r + r) ?_ (by omega) sr2.1
      rw [hq] at hstep
      omega
theorem share_spec (a b : ByteArray) (ha : a.size ≤ 1099511627776) (hb : b.size ≤ 1099511627776) (hb0 : V b ≠ 0) : Ev (fun k => gantref1_Share.f k a b) (B (V a / V b), B (V a % V b)) := by
  have w1 : wrap64 ((wrap64 (8 * (a.size : Int))) - 1) = ((8 * a.size : Nat) : Int) - 1 := by
    rw [wrap64_id (x := 8 * (a.size : Int)) (by omega) (by omega), wrap64_id (by omega) (by omega)]; omega
  have h := share_l0 a b ha hb hb0 (8 * a.size) 0 0 (Nat.le_refl _) (by
    have h1 := V_lt a
    rw [show 2 ^ (8 * a.size) = 256 ^ a.size by rw [Nat.pow_mul]]
    rw [Nat.div_eq_of_lt h1]; omega) (by omega)
  rw [B_zero] at h
  simp only [gantref1_Share.f, w1]
  exact h
end Go.Proofs.YtgpbkoajifbcfaaDoor.SB
