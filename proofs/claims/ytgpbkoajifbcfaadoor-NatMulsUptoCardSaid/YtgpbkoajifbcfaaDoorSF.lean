/- What nat.Mul computes. -/
import Derived.Test.YtgpbkoajifbcfaaDoorST
namespace Go.Proofs.YtgpbkoajifbcfaaDoor.SB
open Go.RowKit Go.Proofs.YtgpbkoajifbcfaaDoor.A Go.Proofs.YtgpbkoajifbcfaaDoor.B Go.Proofs.YtgpbkoajifbcfaaDoor.C Go.Proofs.YtgpbkoajifbcfaaDoor.H Go.Proofs.YtgpbkoajifbcfaaDoor.M Go.Proofs.YtgpbkoajifbcfaaDoor.SA Go.Proofs.YtgpbkoajifbcfaaDoorW.PrintWords Go.Proofs.YtgpbkoajifbcfaaDoorW.PrintLast Go.Proofs.YtgpbkoajifbcfaaDoorW.PrintMore
set_option linter.unusedVariables false
set_option linter.unusedSimpArgs false
theorem mul_step {w y o c : Int} (hw : 0 ≤ w ∧ w < b32) (hy : 0 ≤ y ∧ y < b32) (ho : 0 ≤ o ∧ o < b32) (hc : 0 ≤ c ∧ c < b32) :
    IntKind.u64.wrap (c + IntKind.u64.wrap (IntKind.u64.wrap (IntKind.u64.wrap w * IntKind.u64.wrap y) + IntKind.u64.wrap o)) = c + (w * y + o) ∧ 0 ≤ c + (w * y + o) ∧ (c + (w * y + o)) / 4294967296 < b32 := by
  unfold b32 at *
  have h1 : 0 ≤ w * y := Int.mul_nonneg hw.1 hy.1
  have h2 : w * y ≤ 4294967295 * y := Int.mul_le_mul_of_nonneg_right (by omega) hy.1
  have h3 : 4294967295 * y ≤ 18446744065119617025 := by omega
  rw [u64_id (t := w) hw.1 (by omega), u64_id (t := y) hy.1 (by omega), u64_id (t := o) ho.1 (by omega)]
  generalize w * y = p at *
  rw [u64_id (t := p) h1 (by omega), u64_id (t := p + o) (by omega) (by omega), u64_id (t := c + (p + o)) (by omega) (by omega)]
  exact ⟨rfl, by omega, by omega⟩
theorem lv_drop (b : Int) (l : List Int) (k : Nat) (h : k < l.length) : lv b (l.drop k) = rd l (k : Int) + b * lv b (l.drop (k + 1)) := by
  have e : l.drop k = rd l (k : Int) :: l.drop (k + 1) := by
    rw [← getD_eq_rd, List.drop_eq_getElem_cons h, List.getD_eq_getElem?_getD, List.getElem?_eq_getElem h]; rfl
  rw [e]; rfl
theorem mul_alg (p c w yk o D P : Int) (h1 : p = c + (w * yk + o)) (b : Int) (q r : Int) (hq : p = b * q + r) : (r - o) * P + q * (P * b) + w * D * (P * b) = c * P + w * (yk + b * D) * P := by
  have : r = c + (w * yk + o) - b * q := by omega
  rw [this]
  grind
theorem mul_l1 (x y : List Int) (hx : InR b32 x) (hy : InR b32 y) (n i : Nat) (hn : n = x.length + y.length) (hs : n ≤ 70368744177664) (hi : i < x.length) (R : ByteArray) (d : Nat) : ∀ (k : Nat) (o : List Int) (c : Int), k ≤ y.length → y.length - k = d → o.length = n → InR b32 o → (∀ j, i + y.length ≤ j → o.getD j 0 = 0) → (0 ≤ c ∧ c < b32) →
    (∀ o' : List Int, o'.length = n → InR b32 o' → (∀ j, i + 1 + y.length ≤ j → o'.getD j 0 = 0) → lv b32 o' = lv b32 o + c * b32 ^ (i + k) + rd x (i : Int) * lv b32 (y.drop k) * b32 ^ (i + k) → Ev (fun q => nat_Mul.l0 q y o' x (x.length : Int) ((i + 1 : Nat) : Int)) R) →
    Ev (fun q => nat_Mul.l1 q y o (i : Int) (rd x (i : Int)) c x (x.length : Int) (i : Int) y (y.length : Int) (k : Int)) R := by
  induction d with
  | zero =>
    intro k o c hk hd hl ho hz hc hR
    have e : k = y.length := by omega
    have fi : i + y.length < o.length := by omega
    have w1 : wrap64 ((i : Int) + (y.length : Int)) = ((i + y.length : Nat) : Int) := by rw [wrap64_id (by omega) (by omega)]; rfl
    have w2 : wrap64 ((i : Int) + 1) = ((i + 1 : Nat) : Int) := by rw [wrap64_id (by clear w1; omega) (by clear w1; omega)]; rfl
    have g : ¬ ((k : Int) < (y.length : Int)) := by clear w1 w2; omega
    have g1 : 0 ≤ ((i + y.length : Nat) : Int) := Int.natCast_nonneg _
    have g2 : ((i + y.length : Nat) : Int) < (o.length : Int) := Int.ofNat_lt.2 fi
    have hcm : c % 4294967296 = c := by unfold b32 at hc; clear w1 w2; omega
    refine Ev.succ ?_
    simp only [nat_Mul.l1, if_neg g, w1, w2, if_pos g1, if_pos g2, hcm, Int.toNat_natCast]
    refine hR _ (by rw [List.length_set]; exact hl) (InR_set ho _ hc.1 hc.2) (fun j hj => ?_) ?_
    · have hne : i + y.length ≠ j := by clear w1 w2; omega
      rw [lset_ne _ hne]; exact hz j (by clear w1 w2; omega)
    · rw [lv_set _ _ _ _ fi, hz _ (Nat.le_refl _), e, List.drop_eq_nil_of_le (Nat.le_refl _)]
      simp [lv]
  | succ d ih =>
    intro k o c hk hd hl ho hz hc hR
    have hky : k < y.length := by omega
    have f1 : k + 1 ≤ y.length := by omega
    have f2 : y.length - (k + 1) = d := by omega
    have fi : i + k < o.length := by omega
    have g : ((k : Int) < (y.length : Int)) := by omega
    have g0 : 0 ≤ (k : Int) := Int.natCast_nonneg _
    have ms := mul_step (InR_rd b32_pos hx (i : Int)) (InR_rd b32_pos hy (k : Int)) (InR_rd b32_pos ho ((i + k : Nat) : Int)) hc
    have w1 : wrap64 ((i : Int) + (k : Int)) = ((i + k : Nat) : Int) := by clear ms; rw [wrap64_id (by omega) (by omega)]; rfl
    have w2 : wrap64 ((k : Int) + 1) = ((k + 1 : Nat) : Int) := by clear ms w1; rw [wrap64_id (by omega) (by omega)]; rfl
    have g1 : 0 ≤ ((i + k : Nat) : Int) := Int.natCast_nonneg _
    have g2 : ((i + k : Nat) : Int) < (o.length : Int) := Int.ofNat_lt.2 fi
    refine Ev.succ ?_
    simp only [nat_Mul.l1, if_pos g, if_pos g0, w1, w2, if_pos g1, if_pos g2, Int.toNat_natCast, ms.1]
    obtain ⟨p, hp⟩ : ∃ p, c + (rd x (i : Int) * rd y (k : Int) + rd o ((i + k : Nat) : Int)) = p := ⟨_, rfl⟩
    have hp0 := ms.2.1
    have hp1 := ms.2.2
    rw [hp] at hp0 hp1 ⊢
    clear ms w1 w2
    have hm0 : 0 ≤ p % 4294967296 := Int.emod_nonneg _ (by decide)
    have hm1 : p % 4294967296 < b32 := Int.emod_lt_of_pos _ (by decide)
    have hd0 : 0 ≤ p / 4294967296 := Int.ediv_nonneg hp0 (by decide)
    refine ih (k + 1) _ _ f1 f2 (by rw [List.length_set]; exact hl) (InR_set ho _ hm0 hm1) (fun j hj => ?_) ⟨hd0, hp1⟩ (fun o' h1 h2 h3 h4 => hR o' h1 h2 h3 ?_)
    · have hne : i + k ≠ j := by omega
      rw [lset_ne _ hne]; exact hz j hj
    · rw [h4, lv_set _ _ _ _ fi, getD_eq_rd, lv_drop b32 y k hky, show i + (k + 1) = (i + k) + 1 from rfl, Int.pow_succ]
      have := mul_alg p c (rd x (i : Int)) (rd y (k : Int)) (rd o ((i + k : Nat) : Int)) (lv b32 (y.drop (k + 1))) (b32 ^ (i + k)) hp.symm b32 (p / 4294967296) (p % 4294967296) (Int.mul_ediv_add_emod p 4294967296).symm
      generalize (p % 4294967296 - rd o ((i + k : Nat) : Int)) * b32 ^ (i + k) = A1 at *
      generalize p / 4294967296 * (b32 ^ (i + k) * b32) = A2 at *
      generalize rd x (i : Int) * lv b32 (y.drop (k + 1)) * (b32 ^ (i + k) * b32) = A3 at *
      generalize c * b32 ^ (i + k) = A4 at *
      generalize rd x (i : Int) * (rd y (k : Int) + b32 * lv b32 (y.drop (k + 1))) * b32 ^ (i + k) = A5 at *
      generalize lv b32 o = A6 at *
      clear h4 hp hR ih hm0 hm1 hd0 hp0 hp1
      omega
theorem mul_l0 (x y : List Int) (hx : InR b32 x) (hy : InR b32 y) (n : Nat) (hn : n = x.length + y.length) (hs : n ≤ 70368744177664) (d : Nat) : ∀ (i : Nat) (o : List Int), i ≤ x.length → x.length - i = d → o.length = n → InR b32 o → (∀ j, i + y.length ≤ j → o.getD j 0 = 0) → lv b32 o = lv b32 (x.take i) * lv b32 y →
    Ev (fun q => nat_Mul.l0 q y o x (x.length : Int) (i : Int)) (B (lv b32 x * lv b32 y).toNat) := by
  induction d with
  | zero =>
    intro i o hi hd hl ho hz hv
    have e : i = x.length := by omega
    have g : ¬ ((i : Int) < (x.length : Int)) := by omega
    refine Ev.succ ?_
    simp only [nat_Mul.l0, if_neg g]
    have h := text o (by omega) ho
    rw [hv, List.take_of_length_le (by omega)] at h
    refine Ev.bind h ?_
    exact Ev.now _
  | succ d ih =>
    intro i o hi hd hl ho hz hv
    have hix : i < x.length := by omega
    have f1 : i + 1 ≤ x.length := by omega
    have f2 : x.length - (i + 1) = d := by omega
    have g : ((i : Int) < (x.length : Int)) := by omega
    have g0 : 0 ≤ (i : Int) := Int.natCast_nonneg _
    refine Ev.succ ?_
    simp only [nat_Mul.l0, if_pos g, if_pos g0]
    refine mul_l1 x y hx hy n i hn hs hix _ y.length 0 o 0 (Nat.zero_le _) rfl hl ho hz ⟨Int.le_refl 0, b32_pos⟩ (fun o' h1 h2 h3 h4 => ?_)
    refine ih (i + 1) o' f1 f2 h1 h2 h3 ?_
    rw [h4, hv, lv_take_succ _ _ _ hix, getD_eq_rd, List.drop_zero, Nat.add_zero]
    grind
theorem mul_spec (a b : ByteArray) (ha : a.size ≤ 1099511627776) (hb : b.size ≤ 1099511627776) : Ev (fun k => nat_Mul.f k a b) (B (V a * V b)) := by
  have sa := size_BV a
  have sb := size_BV b
  refine Ev.bind (trim a) ?_
  refine Ev.bind (trim b) ?_
  have w : wrap64 (((B (V a)).size : Int) + ((B (V b)).size : Int)) = (((B (V a)).size + (B (V b)).size : Nat) : Int) := by rw [wrap64_id (by omega) (by omega)]; rfl
  simp only [w]
  by_cases h1 : (B (V a)).size + (B (V b)).size ≤ 8
  · have g1 : (((B (V a)).size + (B (V b)).size : Nat) : Int) ≤ 8 := by clear w; omega
    simp only [if_pos g1]
    have ra := short (B (V a)) (by clear w; omega)
    have rb := short (B (V b)) (by clear w; omega)
    rw [V_B] at ra rb
    have hlt : V a * V b < 256 ^ 8 := by
      have e1 := lt_of_size_B (n := V a) (Nat.le_refl _)
      have e2 := lt_of_size_B (n := V b) (Nat.le_refl _)
      refine Nat.lt_of_lt_of_le (Nat.mul_lt_mul'' e1 e2) ?_
      rw [← Nat.pow_add]
      exact Nat.pow_le_pow_right (by decide) h1
    have e8 : (256 : Nat) ^ 8 = 18446744073709551616 := by decide
    rw [e8] at hlt
    have hu : IntKind.u64.wrap ((V a : Int) * (V b : Int)) = ((V a * V b : Nat) : Int) := by
      rw [← Int.natCast_mul]
      exact u64_id (Int.natCast_nonneg _) (by clear w; omega)
    have hf : nat_fromShort.f ((V a * V b : Nat) : Int) = some (B (V a * V b)) := by
      unfold nat_fromShort.f
      rw [if_pos (by clear hu w; omega), Int.toNat_natCast]
    refine Ev.bind ra ?_
    refine Ev.bind rb ?_
    simp only [hu, hf, Option.bind_some]
    exact Ev.now _
  · have g1 : ¬ (((B (V a)).size + (B (V b)).size : Nat) : Int) ≤ 8 := by clear w; omega
    simp only [if_neg g1]
    clear w
    obtain ⟨x, hx1, hx2, hx3⟩ := words (B (V a)) (by omega)
    obtain ⟨y, hy1, hy2, hy3⟩ := words (B (V b)) (by omega)
    rw [V_B] at hx2 hy2
    have fs : x.length + y.length ≤ 70368744177664 := by clear hx1 hy1; omega
    have w : wrap64 ((x.length : Int) + (y.length : Int)) = ((x.length + y.length : Nat) : Int) := by rw [wrap64_id (by omega) (by omega)]; rfl
    have g2 : 0 ≤ ((x.length + y.length : Nat) : Int) := Int.natCast_nonneg _
    refine Ev.bind hx1 ?_
    refine Ev.bind hy1 ?_
    simp only [w, if_pos g2, Int.toNat_natCast, if_pos fs]
    have h := mul_l0 x y hx2.1 hy2.1 (x.length + y.length) rfl fs x.length 0 (List.replicate (x.length + y.length) 0) (Nat.zero_le _) rfl (by rw [List.length_replicate]) (InR_replicate b32_pos _) (fun j _ => getD_replicate _ j) (by rw [lv_zeros]; simp [lv])
    rw [hx2.2.1, hy2.2.1, ← Int.natCast_mul, Int.toNat_natCast] at h
    exact h
end Go.Proofs.YtgpbkoajifbcfaaDoor.SB
