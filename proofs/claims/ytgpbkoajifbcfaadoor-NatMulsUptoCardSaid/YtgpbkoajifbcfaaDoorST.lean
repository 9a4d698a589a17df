/- What gantref1.Times computes: column by column. -/
import Derived.Test.YtgpbkoajifbcfaaDoorSE
namespace Go.Proofs.YtgpbkoajifbcfaaDoor.SB
open Go.RowKit Go.Proofs.YtgpbkoajifbcfaaDoor.A Go.Proofs.YtgpbkoajifbcfaaDoor.B Go.Proofs.YtgpbkoajifbcfaaDoor.C Go.Proofs.YtgpbkoajifbcfaaDoor.H Go.Proofs.YtgpbkoajifbcfaaDoor.M Go.Proofs.YtgpbkoajifbcfaaDoor.SA Go.Proofs.YtgpbkoajifbcfaaDoorW.PrintWords Go.Proofs.YtgpbkoajifbcfaaDoorW.PrintLast Go.Proofs.YtgpbkoajifbcfaaDoorW.PrintMore
set_option linter.unusedVariables false
set_option linter.unusedSimpArgs false
def sm (f : Nat → Int) : Nat → Int
  | 0 => 0
  | k + 1 => sm f k + f k
theorem sm_congr {f g : Nat → Int} : ∀ (n : Nat), (∀ k, k < n → f k = g k) → sm f n = sm g n
  | 0, _ => rfl
  | n + 1, h => by simp only [sm]; rw [sm_congr n (fun k hk => h k (by omega)), h n (by omega)]
theorem sm_add (f g : Nat → Int) : ∀ n, sm (fun k => f k + g k) n = sm f n + sm g n
  | 0 => rfl
  | n + 1 => by simp only [sm]; rw [sm_add f g n]; omega
theorem sm_mul (f : Nat → Int) (c : Int) : ∀ n, sm (fun k => f k * c) n = sm f n * c
  | 0 => by simp [sm]
  | n + 1 => by simp only [sm]; rw [sm_mul f c n, Int.add_mul]
theorem sm_bound {f : Nat → Int} {M : Int} (h : ∀ k, 0 ≤ f k ∧ f k ≤ M) : ∀ n : Nat, 0 ≤ sm f n ∧ sm f n ≤ M * n
  | 0 => by simp [sm]
  | n + 1 => by
    have ih := sm_bound h n
    have hn := h n
    simp only [sm]
    rw [show (((n + 1 : Nat)) : Int) = (n : Int) + 1 from rfl, Int.mul_add, Int.mul_one]
    omega
def col (a b : ByteArray) (i : Nat) (k : Nat) : Int := dg a k * dg b (i - k)
theorem col_bound (a b : ByteArray) (i k : Nat) : 0 ≤ col a b i k ∧ col a b i k ≤ 65025 := by
  have h1 := dg_range a k
  have h2 := dg_range b (i - k)
  unfold col
  generalize dg a k = x at *
  generalize dg b (i - k) = y at *
  refine ⟨Int.mul_nonneg h1.1 h2.1, ?_⟩
  have h3 : x * y ≤ 255 * y := Int.mul_le_mul_of_nonneg_right (by omega) h2.1
  omega
/-- The sum of the first n columns. -/
def tri (a b : ByteArray) (n : Nat) : Int := sm (fun k => dg a k * 256 ^ k * ((V b % 256 ^ (n - k) : Nat) : Int)) n
theorem tri_succ (a b : ByteArray) (n : Nat) : tri a b (n + 1) = tri a b n + sm (col a b n) (n + 1) * 256 ^ n := by
  have h1 : ∀ k, k < n + 1 → dg a k * 256 ^ k * ((V b % 256 ^ (n + 1 - k) : Nat) : Int) = dg a k * 256 ^ k * ((V b % 256 ^ (n - k) : Nat) : Int) + col a b n k * 256 ^ n := by
    intro k hk
    rw [show n + 1 - k = (n - k) + 1 by omega, mod_pow_succ]
    have e : ((V b % 256 ^ (n - k) + V b / 256 ^ (n - k) % 256 * 256 ^ (n - k) : Nat) : Int) = ((V b % 256 ^ (n - k) : Nat) : Int) + dg b (n - k) * 256 ^ (n - k) := by
      rw [Int.natCast_add, Int.natCast_mul, pow_nat]; rfl
    rw [e, Int.mul_add]
    have e2 : (256 : Int) ^ n = 256 ^ k * 256 ^ (n - k) := by rw [← Int.pow_add, show k + (n - k) = n by omega]
    rw [e2]
    unfold col
    grind
  unfold tri
  rw [sm_congr (n + 1) h1, sm_add, sm_mul]
  congr 1
  simp only [sm]
  rw [Nat.sub_self, Nat.pow_zero, Nat.mod_one]
  simp
theorem sm_dg (a : ByteArray) : ∀ n, sm (fun k => dg a k * 256 ^ k) n = ((V a % 256 ^ n : Nat) : Int)
  | 0 => by simp [sm, Nat.mod_one]
  | n + 1 => by
    simp only [sm]
    rw [sm_dg a n, mod_pow_succ, Int.natCast_add, Int.natCast_mul, pow_nat]; rfl
theorem dg_big (a : ByteArray) {k : Nat} (h : a.size ≤ k) : dg a k = 0 := by
  unfold dg
  have h1 : V a < 256 ^ k := Nat.lt_of_lt_of_le (V_lt a) (Nat.pow_le_pow_right (by decide) h)
  rw [Nat.div_eq_of_lt h1]; rfl
theorem tri_all (a b : ByteArray) : tri a b (a.size + b.size) = ((V a * V b : Nat) : Int) := by
  have h1 : ∀ k, k < a.size + b.size → dg a k * 256 ^ k * ((V b % 256 ^ (a.size + b.size - k) : Nat) : Int) = dg a k * 256 ^ k * (V b : Int) := by
    intro k hk
    by_cases h : k < a.size
    · rw [V_mod b (n := a.size + b.size - k) (by omega)]
    · rw [dg_big a (by omega)]; simp
  unfold tri
  rw [sm_congr _ h1, sm_mul, sm_dg, V_mod a (by omega), Int.natCast_mul]
theorem times_l1 (a b : ByteArray) (ha : a.size ≤ 1099511627776) (hb : b.size ≤ 1099511627776) (i n : Nat) (hin : i < n) (hn : n ≤ 2199023255552) (R : ByteArray) (d : Nat) : ∀ (k : Nat) (x : List Int), k ≤ i + 1 → i + 1 - k = d → x.length = n → x.getD i 0 = sm (col a b i) k →
    Ev (fun q => gantref1_Times.l0 q a b (x.set i (sm (col a b i) (i + 1))) (n : Int) ((i : Int) + 1)) R → Ev (fun q => gantref1_Times.l1 q a b x (i : Int) (k : Int) (n : Int) (i : Int)) R := by
  induction d with
  | zero =>
    intro k x hk hd hl hx hR
    have e : k = i + 1 := by omega
    subst e
    refine Ev.succ ?_
    have g : ¬ (((i + 1 : Nat) : Int) ≤ (i : Int)) := by omega
    have w : wrap64 ((i : Int) + 1) = (i : Int) + 1 := wrap64_id (by omega) (by omega)
    have hs : x.set i (sm (col a b i) (i + 1)) = x := by
      rw [← hx]
      refine List.ext_getElem? fun j => ?_
      rw [List.getElem?_set]
      split
      · rename_i h; subst h
        split
        · rename_i h2; rw [List.getD_eq_getElem?_getD, List.getElem?_eq_getElem h2]; rfl
        · rename_i h2; rw [List.getElem?_eq_none (by omega)]
      · rfl
    rw [hs] at hR
    simp only [gantref1_Times.l1, if_neg g, w]
    exact hR
  | succ d ih =>
    intro k x hk hd hl hx hR
    refine Ev.succ ?_
    have hki : k ≤ i := by omega
    have f1 : k + 1 ≤ i + 1 := by omega
    have f2 : i + 1 - (k + 1) = d := by omega
    have f3 : i < x.length := by omega
    have g : ((k : Int) ≤ (i : Int)) := by omega
    have g2 : 0 ≤ (i : Int) := Int.natCast_nonneg _
    have g3 : (i : Int) < (x.length : Int) := by omega
    have da := digit_spec a (by omega) k
    have db := digit_spec b (by omega) (i - k)
    change gantref1_digit.f a (k : Int) = some (dg a k) at da
    change gantref1_digit.f b ((i - k : Nat) : Int) = some (dg b (i - k)) at db
    have w1 : wrap64 ((i : Int) - (k : Int)) = ((i - k : Nat) : Int) := by rw [wrap64_id (by omega) (by omega)]; omega
    have w2 : wrap64 ((k : Int) + 1) = ((k + 1 : Nat) : Int) := by rw [wrap64_id (by omega) (by omega)]; rfl
    have hrd : rd x (i : Int) = sm (col a b i) k := by rw [← getD_eq_rd]; exact hx
    have hcol : dg a k * dg b (i - k) = col a b i k := rfl
    have w3 : wrap64 (dg a k * dg b (i - k)) = col a b i k := by
      rw [hcol]
      have cb := col_bound a b i k
      clear hcol w1 w2 da db ih hR hx hrd
      exact wrap64_id (by omega) (by omega)
    have w4 : wrap64 (rd x (i : Int) + col a b i k) = sm (col a b i) (k + 1) := by
      rw [hrd]
      have cb := col_bound a b i k
      have sb := sm_bound (col_bound a b i) k
      clear hcol w1 w2 w3 da db ih hR hx hrd
      show wrap64 (sm (col a b i) k + col a b i k) = sm (col a b i) k + col a b i k
      generalize sm (col a b i) k = s at *
      generalize col a b i k = t at *
      exact wrap64_id (by omega) (by omega)
    simp only [gantref1_Times.l1, if_pos g, if_pos g2, if_pos g3, da, Option.bind_some, w1, db, w3, w4, w2, Int.toNat_natCast]
    refine ih (k + 1) _ f1 f2 (by rw [List.length_set]; exact hl) ?_ ?_
    · rw [getD_eq_rd, rd_set_self _ f3]
    · rw [List.set_set]; exact hR
theorem times_l0 (a b : ByteArray) (ha : a.size ≤ 1099511627776) (hb : b.size ≤ 1099511627776) (n : Nat) (hn : n = a.size + b.size) (d : Nat) : ∀ (i : Nat) (x : List Int), i ≤ n → n - i = d → x.length = n → (∀ y ∈ x, 0 ≤ y ∧ y ≤ 4611686018427387904) → (∀ j, i ≤ j → x.getD j 0 = 0) → lv 256 (x.take i) = tri a b i →
    Ev (fun k => gantref1_Times.l0 k a b x (n : Int) (i : Int)) (B (V a * V b)) := by
  induction d with
  | zero =>
    intro i x hi hd hl hx hz hv
    have e : i = n := by omega
    subst e
    refine Ev.succ ?_
    have g : ¬ ((i : Int) < (i : Int)) := by omega
    simp only [gantref1_Times.l0, if_neg g]
    have h := number_spec x (by omega) hx
    rw [List.take_of_length_le (by omega)] at hv
    rw [hv, hn, tri_all, Int.toNat_natCast] at h
    refine Ev.bind h ?_
    exact Ev.now _
  | succ d ih =>
    intro i x hi hd hl hx hz hv
    refine Ev.succ ?_
    have g : ((i : Int) < (n : Int)) := by omega
    simp only [gantref1_Times.l0, if_pos g]
    have sb := sm_bound (col_bound a b i) (i + 1)
    refine times_l1 a b ha hb i n (by omega) (by omega) _ (i + 1) 0 x (by omega) (by omega) hl (by rw [hz i (Nat.le_refl _)]; rfl) ?_
    rw [show ((i : Int) + 1) = ((i + 1 : Nat) : Int) from rfl]
    refine ih (i + 1) _ (by omega) (by omega) (by rw [List.length_set]; exact hl) ?_ ?_ ?_
    · intro y hy
      rcases mem_set_cases hy with h | h
      · exact hx y h
      · subst h; omega
    · intro j hj
      rw [lset_ne _ (by omega)]
      exact hz j (by omega)
    · rw [lv_take_succ _ _ _ (by rw [List.length_set]; omega), List.take_set_of_le (Nat.le_refl i), hv, tri_succ, getD_eq_rd, rd_set_self _ (by omega)]
theorem times_spec (a b : ByteArray) (ha : a.size ≤ 1099511627776) (hb : b.size ≤ 1099511627776) : Ev (fun k => gantref1_Times.f k a b) (B (V a * V b)) := by
  have w : wrap64 ((a.size : Int) + (b.size : Int)) = ((a.size + b.size : Nat) : Int) := by rw [wrap64_id (by omega) (by omega)]; rfl
  have g1 : 0 ≤ ((a.size + b.size : Nat) : Int) := Int.natCast_nonneg _
  have g2 : a.size + b.size ≤ 35184372088832 := by omega
  have h := times_l0 a b ha hb (a.size + b.size) rfl (a.size + b.size) 0 (List.replicate (a.size + b.size) 0) (by omega) (by omega) (by rw [List.length_replicate])
    (fun y hy => by have := List.eq_of_mem_replicate hy; omega) (fun j _ => getD_replicate _ j) (by simp [lv, tri, sm])
  simp only [gantref1_Times.f, w, if_pos g1, Int.toNat_natCast, if_pos g2, Option.bind_some, List.length_replicate]
  exact h
end Go.Proofs.YtgpbkoajifbcfaaDoor.SB
