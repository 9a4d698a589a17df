/- What the printed function nat.Add computes; the law NatAdds. -/
import Derived.Test.YtgpbkoajifbcfaaDoorSC
namespace Go.Proofs.YtgpbkoajifbcfaaDoor.SB
open Go.RowKit Go.Proofs.YtgpbkoajifbcfaaDoor.M Go.Proofs.YtgpbkoajifbcfaaDoor.SA Go.Proofs.YtgpbkoajifbcfaaDoor.A Go.Proofs.YtgpbkoajifbcfaaDoor.H Go.Proofs.YtgpbkoajifbcfaaDoor.B Go.Proofs.YtgpbkoajifbcfaaDoorW.PrintWords Go.Proofs.YtgpbkoajifbcfaaDoorW.PrintLast Go.Proofs.YtgpbkoajifbcfaaDoorW.PrintMore

theorem add_l0 (x y : List Int) (hx : InR b32 x) (hy : InR b32 y) (hxy : y.length ≤ x.length) (hn : x.length ≤ 281474976710 ) (d : Nat) : ∀ (i : Nat) (z : List Int) (c : Int), i ≤ x.length → x.length - i = d → z.length = x.length + 1 → InR b32 z → (∀ j, i ≤ j → z.getD j 0 = 0) → (0 ≤ c ∧ c ≤ 1) →
    lv b32 z + c * b32 ^ i = lv b32 (x.take i) + lv b32 (y.take i) → Ev (fun k => nat_Add.l0 k x y z c x (x.length : Int) (i : Int)) (B (lv b32 x + lv b32 y).toNat) := by
  induction d with
  | zero =>
    intro i z c hi hd hl hz h0 hc hv
    have e : i = x.length := by omega
    have g : ¬ (i : Int) < (x.length : Int) := by omega
    have g2 : (x.length : Int) < (z.length : Int) := by omega
    have g3 : x.length < z.length := by omega
    have ec : c % 4294967296 = c := by clear hv; omega
    have hz2 : InR b32 (z.set x.length c) := InR_set hz _ hc.1 (by unfold b32; clear hv; omega)
    have ht := text (z.set x.length c) (by rw [List.length_set]; clear hv; omega) hz2
    have hvv : lv b32 (z.set x.length c) = lv b32 x + lv b32 y := by
      rw [lv_set _ _ _ _ g3, h0 _ (Nat.le_of_eq e)]
      subst e
      rw [lv_take_ge b32 x _ (Nat.le_refl _), lv_take_ge b32 y _ hxy] at hv
      rw [← hv]
      grind
    rw [hvv] at ht
    refine Ev.succ ?_
    simp only [nat_Add.l0, if_neg g, if_pos (Int.natCast_nonneg x.length), if_pos g2, ec, Int.toNat_natCast]
    exact Ev.bind (f := fun _ t => some t) ht (Ev.now _)
  | succ d ih =>
    intro i z c hi hd hl hz h0 hc hv
    have k1 : i + 1 ≤ x.length ∧ x.length - (i + 1) = d := by omega
    have k2 : i < x.length := by omega
    have k3 : i < z.length := by omega
    have rx := InR_rd b32_pos hx (i : Int)
    unfold b32 at rx
    have g1 : (i : Int) < (x.length : Int) := by omega
    have g2 : 0 ≤ (i : Int) := by omega
    have g3 : (i : Int) < (z.length : Int) := by omega
    have w2 := wrap64_succ (i := (i : Int)) (n := x.length) g2 g1 (Nat.le_trans hn (by decide))
    have hux := u64_id rx.1 (Int.lt_trans rx.2 (by decide))
    have hcx : IntKind.u64.wrap (c + rd x (i : Int)) = c + rd x (i : Int) := u64_id (by clear w2 hux hv; omega) (by clear w2 hux hv; omega)
    by_cases hj : i < y.length
    · have ry := InR_rd b32_pos hy (i : Int)
      unfold b32 at ry
      have g4 : (i : Int) < (y.length : Int) := Int.ofNat_lt.2 hj
      have huy := u64_id ry.1 (Int.lt_trans ry.2 (by decide))
      have hs : IntKind.u64.wrap (c + rd x (i : Int) + rd y (i : Int)) = c + rd x (i : Int) + rd y (i : Int) := u64_id (by clear w2 hux hv huy hcx; omega) (by clear w2 hux hv huy hcx; omega)
      have hq : 0 ≤ (c + rd x (i : Int) + rd y (i : Int)) / 4294967296 ∧ (c + rd x (i : Int) + rd y (i : Int)) / 4294967296 ≤ 1 := by clear w2 hux hv huy hcx hs; omega
      have hr : 0 ≤ (c + rd x (i : Int) + rd y (i : Int)) % 4294967296 ∧ (c + rd x (i : Int) + rd y (i : Int)) % 4294967296 < 4294967296 := by clear w2 hux hv huy hcx hs; omega
      have hv2 : lv b32 (z.set i ((c + rd x (i : Int) + rd y (i : Int)) % 4294967296)) + (c + rd x (i : Int) + rd y (i : Int)) / 4294967296 * b32 ^ (i + 1) = lv b32 (x.take (i + 1)) + lv b32 (y.take (i + 1)) := by
        have e : c + rd x (i : Int) + rd y (i : Int) = (c + rd x (i : Int) + rd y (i : Int)) / 4294967296 * 4294967296 + (c + rd x (i : Int) + rd y (i : Int)) % 4294967296 := by clear w2 hux hv huy hcx hs; omega
        rw [lv_set _ _ _ _ k3, h0 i (Nat.le_refl _), lv_take_succ b32 y i hj, lv_take_succ b32 x i k2, getD_eq_rd, getD_eq_rd, Int.pow_succ]
        have : b32 = 4294967296 := rfl
        generalize (c + rd x (i : Int) + rd y (i : Int)) / 4294967296 = q at *
        generalize (c + rd x (i : Int) + rd y (i : Int)) % 4294967296 = r at *
        generalize lv b32 z = p1 at *
        generalize lv b32 (x.take i) = p2 at *
        generalize lv b32 (y.take i) = p3 at *
        generalize b32 ^ i = t at *
        rw [this]
        clear w2 hux huy hcx hs
        grind
      have h := ih (i + 1) _ _ k1.1 k1.2 (by rw [List.length_set]; exact hl) (InR_set hz i hr.1 hr.2) (fun j hj => by rw [lset_ne _ (Nat.ne_of_lt hj)]; exact h0 j (Nat.le_of_succ_le hj)) hq hv2
      refine Ev.succ ?_
      simp only [nat_Add.l0, if_pos g1, if_pos g2, if_pos g3, if_pos g4, hux, huy, hcx, hs, w2, Int.toNat_natCast]
      exact h
    · have g4 : ¬ (i : Int) < (y.length : Int) := fun h => hj (Int.ofNat_lt.1 h)
      have hq : 0 ≤ (c + rd x (i : Int)) / 4294967296 ∧ (c + rd x (i : Int)) / 4294967296 ≤ 1 := by clear w2 hux hv hcx; omega
      have hr : 0 ≤ (c + rd x (i : Int)) % 4294967296 ∧ (c + rd x (i : Int)) % 4294967296 < 4294967296 := by clear w2 hux hv hcx; omega
      have hv2 : lv b32 (z.set i ((c + rd x (i : Int)) % 4294967296)) + (c + rd x (i : Int)) / 4294967296 * b32 ^ (i + 1) = lv b32 (x.take (i + 1)) + lv b32 (y.take (i + 1)) := by
        have e : c + rd x (i : Int) = (c + rd x (i : Int)) / 4294967296 * 4294967296 + (c + rd x (i : Int)) % 4294967296 := by clear w2 hux hv hcx; omega
        rw [lv_set _ _ _ _ k3, h0 i (Nat.le_refl _), lv_take_all b32 y (i := i + 1) (j := i) (Nat.le_succ_of_le (Nat.le_of_not_lt hj)) (Nat.le_of_not_lt hj), lv_take_succ b32 x i k2, getD_eq_rd, Int.pow_succ]
        have : b32 = 4294967296 := rfl
        generalize (c + rd x (i : Int)) / 4294967296 = q at *
        generalize (c + rd x (i : Int)) % 4294967296 = r at *
        generalize lv b32 z = p1 at *
        generalize lv b32 (x.take i) = p2 at *
        generalize lv b32 (y.take i) = p3 at *
        generalize b32 ^ i = t at *
        rw [this]
        clear w2 hux hcx
        grind
      have h := ih (i + 1) _ _ k1.1 k1.2 (by rw [List.length_set]; exact hl) (InR_set hz i hr.1 hr.2) (fun j hj => by rw [lset_ne _ (Nat.ne_of_lt hj)]; exact h0 j (Nat.le_of_succ_le hj)) hq hv2
      refine Ev.succ ?_
      simp only [nat_Add.l0, if_pos g1, if_pos g2, if_pos g3, if_neg g4, hux, hcx, w2, Int.toNat_natCast]
      exact h
theorem add_j1 (x y : List Int) (hx : InR b32 x) (hy : InR b32 y) (hxy : y.length ≤ x.length) (hn : x.length ≤ 281474976710) : Ev (fun k => nat_Add.j1 k x y) (B (lv b32 x + lv b32 y).toNat) := by
  have h := add_l0 x y hx hy hxy hn x.length 0 (List.replicate (x.length + 1) 0) 0 (by omega) (by omega) (by rw [List.length_replicate]) (InR_replicate b32_pos _) (fun j _ => getD_replicate _ j) (by omega) (by rw [lv_zeros]; simp [lv])
  have g2 : x.length + 1 ≤ 70368744177664 := by omega
  have w : wrap64 ((x.length : Int) + 1) = ((x.length + 1 : Nat) : Int) := by rw [wrap64_id (by omega) (by omega)]; rfl
  refine Ev.succ ?_
  simp only [nat_Add.j1, w, if_pos (Int.natCast_nonneg _), Int.toNat_natCast, if_pos g2]
  exact h
theorem add_spec (a b : ByteArray) (ha : a.size ≤ 1099511627776) (hb : b.size ≤ 1099511627776) : Ev (fun k => nat_Add.f k a b) (B (V a + V b)) := by
  have sa := size_BV a
  have sb := size_BV b
  have big : Ev (fun k => nat_Add.j0 k (B (V a)) (B (V b)) false) (B (V a + V b)) := by
    obtain ⟨x, hx1, hx2, hx3⟩ := words (B (V a)) (by omega)
    obtain ⟨y, hy1, hy2, hy3⟩ := words (B (V b)) (by omega)
    rw [V_B] at hx2 hy2
    refine Ev.succ ?_
    have gf : ¬ (false = true) := by decide
    simp only [nat_Add.j0, if_neg gf]
    refine Ev.bind hx1 ?_
    refine Ev.bind hy1 ?_
    by_cases hl : x.length < y.length
    · have g : (x.length : Int) < (y.length : Int) := Int.ofNat_lt.2 hl
      simp only [if_pos g]
      have h := add_j1 y x hy2.1 hx2.1 (by omega) (by omega)
      rw [hx2.2.1, hy2.2.1, show ((V b : Int) + (V a : Int)).toNat = V a + V b by omega] at h
      exact h
    · have g : ¬ (x.length : Int) < (y.length : Int) := fun h => hl (Int.ofNat_lt.1 h)
      simp only [if_neg g]
      have h := add_j1 x y hx2.1 hy2.1 (by omega) (by omega)
      rw [hx2.2.1, hy2.2.1, show ((V a : Int) + (V b : Int)).toNat = V a + V b by omega] at h
      exact h
  refine Ev.bind (trim a) ?_
  refine Ev.bind (trim b) ?_
  by_cases h1 : (B (V a)).size < 8
  · have g1 : ((B (V a)).size : Int) < 8 := by omega
    simp only [if_pos g1]
    by_cases h2 : (B (V b)).size < 8
    · have g2 : ((B (V b)).size : Int) < 8 := by omega
      have ra := short (B (V a)) (by omega)
      have rb := short (B (V b)) (by omega)
      rw [V_B] at ra rb
      have la : V a < 256 ^ 7 := lt_of_size_B (by omega)
      have lb : V b < 256 ^ 7 := lt_of_size_B (by omega)
      have hu : IntKind.u64.wrap ((V a : Int) + (V b : Int)) = ((V a + V b : Nat) : Int) := by rw [u64_id (by omega) (by omega)]; rfl
      have hf : nat_fromShort.f ((V a + V b : Nat) : Int) = some (B (V a + V b)) := by
        unfold nat_fromShort.f
        rw [if_pos (by clear hu; omega), Int.toNat_natCast]
      rw [decide_eq_true g2]
      refine Ev.succ ?_
      simp only [nat_Add.j0, if_pos trivial]
      refine Ev.bind ra ?_
      refine Ev.bind rb ?_
      simp only [hu, hf, Option.bind_some]
      exact Ev.now _
    · have g2 : ¬ ((B (V b)).size : Int) < 8 := by omega
      rw [decide_eq_false g2]
      exact big
  · have g1 : ¬ ((B (V a)).size : Int) < 8 := by omega
    simp only [if_neg g1]
    exact big

/-! ### the law NatAdds -/
theorem B_two : (⟨#[2]⟩ : ByteArray) = B 2 := by
  rw [← B_V (a := ⟨#[2]⟩)]
  · rfl
  · intro c hc
    simp at hc
    subst hc
    decide
theorem bytesOf_small (n : Nat) (h0 : n ≠ 0) (h : n < 256) : bytesOf n = [UInt8.ofNat n] := by
  rw [bytesOf_pos h0, show n / 256 = 0 by omega, bytesOf_zero, Nat.mod_eq_of_lt h]
  rfl
theorem cmpN_neg {a b : Nat} : cmpN a b < 0 ↔ a < b := by
  unfold cmpN
  (repeat' split) <;> omega
theorem natAdds (a0 a1 : ByteArray) (h0 : a0.size ≤ 1099511627776) (h1 : a1.size ≤ 1099511627776) : Ev (fun k => gantlaw1_NatAdds.f k a0 a1) true := by
  have h22 := add_spec ⟨#[2]⟩ ⟨#[2]⟩ (by decide) (by decide)
  have v2 : V ⟨#[2]⟩ = 2 := by rw [B_two, V_B]
  rw [v2] at h22
  have e4 : (B (2 + 2)).toList = ([4] : List UInt8) := by rw [toList_B]; exact bytesOf_small 4 (by decide) (by decide)
  have hcmp := cmp_spec a0 a1
  have hadd := add_spec a0 a1 h0 h1
  have hplus := plus_spec a0 a1 (by omega) (by omega)
  have hj0 : Ev (fun k => gantlaw1_NatAdds.j0 k a0 a1 (cmpN (V a0) (V a1)) false) true := by
    refine Ev.succ ?_
    have gf : ¬ (false = true) := by decide
    simp only [gantlaw1_NatAdds.j0, if_neg gf]
    refine Ev.bind hcmp ?_
    simp only [if_pos trivial]
    refine Ev.bind hadd ?_
    refine Ev.bind hplus ?_
    simp only [BEq.rfl]
    exact Ev.now _
  have hj1 : Ev (fun k => gantlaw1_NatAdds.j1 k a0 a1 (cmpN (V a0) (V a1)) false) true := by
    refine Ev.succ ?_
    have gf : ¬ (false = true) := by decide
    simp only [gantlaw1_NatAdds.j1, if_neg gf]
    refine Ev.bind hcmp ?_
    simp only [if_pos trivial]
    refine Ev.bind hadd ?_
    refine Ev.bind hplus ?_
    simp only [BEq.rfl]
    exact Ev.now _
  refine Ev.bind h22 ?_
  simp only [if_pos e4]
  refine Ev.bind (sub_spec a0 a1 (by omega) (by omega)) ?_
  refine Ev.bind (compare_spec a0 a1 (by omega) (by omega)) ?_
  by_cases hlt : V a0 < V a1
  · have g := cmpN_neg.2 hlt
    have e0 : (⟨#[]⟩ : ByteArray).toList = ([] : List UInt8) := by rw [toList_data]
    have e1 : ((1 : Int) != 1) = false := rfl
    simp only [if_pos g, if_pos hlt, if_pos e0, e1]
    exact hj0
  · have g : ¬ cmpN (V a0) (V a1) < 0 := fun h => hlt (cmpN_neg.1 h)
    simp only [if_neg g, if_neg hlt, if_pos trivial]
    refine Ev.bind (less_spec a0 a1 (by omega) (by omega) (by omega)) ?_
    simp only [bne_self_eq_false]
    exact hj1
end Go.Proofs.YtgpbkoajifbcfaaDoor.SB
