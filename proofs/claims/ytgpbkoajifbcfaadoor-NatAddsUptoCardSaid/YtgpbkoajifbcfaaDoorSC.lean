/- What the printed functions of packages nat and gantref1 compute: sums and differences; the law NatAdds. -/
import Derived.Test.YtgpbkoajifbcfaaDoorSB
namespace Go.Proofs.YtgpbkoajifbcfaaDoor.SB
open Go.RowKit Go.Proofs.YtgpbkoajifbcfaaDoor.M Go.Proofs.YtgpbkoajifbcfaaDoor.SA Go.Proofs.YtgpbkoajifbcfaaDoor.A Go.Proofs.YtgpbkoajifbcfaaDoor.H Go.Proofs.YtgpbkoajifbcfaaDoor.B Go.Proofs.YtgpbkoajifbcfaaDoorW.PrintWords Go.Proofs.YtgpbkoajifbcfaaDoorW.PrintLast Go.Proofs.YtgpbkoajifbcfaaDoorW.PrintMore

/-- digit i of a number -/
def dg (a : ByteArray) (i : Nat) : Int := ((V a / 256 ^ i % 256 : Nat) : Int)
theorem dg_range (a : ByteArray) (i : Nat) : 0 ≤ dg a i ∧ dg a i < 256 := by
  unfold dg
  have : V a / 256 ^ i % 256 < 256 := Nat.mod_lt _ (by decide)
  omega
theorem mod_pow_succ (a i : Nat) : a % 256 ^ (i + 1) = a % 256 ^ i + a / 256 ^ i % 256 * 256 ^ i := by
  rw [Nat.pow_succ, Nat.mod_mul, Nat.mul_comm (256 ^ i)]
theorem V_mod (a : ByteArray) {n : Nat} (h : a.size ≤ n) : V a % 256 ^ n = V a :=
  Nat.mod_eq_of_lt (Nat.lt_of_lt_of_le (V_lt a) (Nat.pow_le_pow_right (by decide) h))
theorem getD_replicate (n : Nat) (j : Nat) : (List.replicate n (0 : Int)).getD j 0 = 0 := by
  rw [List.getD_eq_getElem?_getD, List.getElem?_replicate]; split <;> rfl
theorem mem_le_of_getD {l : List Int} {p : Int → Prop} (h : ∀ j, j < l.length → p (l.getD j 0)) : ∀ x ∈ l, p x := by
  intro x hx
  obtain ⟨j, hj, rfl⟩ := List.mem_iff_getElem.1 hx
  have := h j hj
  rwa [List.getD_eq_getElem?_getD, List.getElem?_eq_getElem hj] at this
theorem mem_set_cases {l : List Int} {i : Nat} {v x : Int} (h : x ∈ l.set i v) : x ∈ l ∨ x = v := List.mem_or_eq_of_mem_set h
/-! ### Plus -/
theorem plus_l0 (a b : ByteArray) (ha : a.size ≤ 35184372088832) (hb : b.size ≤ 35184372088832) (n : Nat) (hn : n = max a.size b.size) (d : Nat) : ∀ (i : Nat) (x : List Int), i ≤ n → n - i = d → x.length = n →
    (∀ y ∈ x, 0 ≤ y ∧ y ≤ 510) → (∀ j, i ≤ j → j < n → x.getD j 0 = 0) → lv 256 x = (V a % 256 ^ i : Nat) + (V b % 256 ^ i : Nat) → Ev (fun k => gantref1_Plus.l0 k a b x (n : Int) (i : Int)) (B (V a + V b)) := by
  induction d with
  | zero =>
    intro i x hi hd hl hx hz hv
    have h := number_spec x (by omega) (fun y hy => by have := hx y hy; omega)
    have e : i = n := by omega
    subst e
    rw [V_mod a (by omega), V_mod b (by omega)] at hv
    rw [hv, show ((V a : Int) + (V b : Int)).toNat = V a + V b by omega] at h
    refine Ev.succ ?_
    have g : ¬ (i : Int) < (i : Int) := by omega
    simp only [gantref1_Plus.l0, if_neg g]
    exact Ev.bind (f := fun _ t => some t) h (Ev.now _)
  | succ d ih =>
    intro i x hi hd hl hx hz hv
    have da := digit_spec a (by omega) i
    have db := digit_spec b (by omega) i
    have ra := dg_range a i
    have rb := dg_range b i
    have g1 : (i : Int) < (n : Int) := by omega
    have g2 : 0 ≤ (i : Int) := by omega
    have g3 : (i : Int) < (x.length : Int) := by omega
    have hx2 : ∀ y ∈ x.set i (dg a i + dg b i), 0 ≤ y ∧ y ≤ 510 := by
      intro y hy
      rcases mem_set_cases hy with h | h
      · exact hx y h
      · subst h; omega
    have hv2 : lv 256 (x.set i (dg a i + dg b i)) = (V a % 256 ^ (i + 1) : Nat) + (V b % 256 ^ (i + 1) : Nat) := by
      rw [lv_set _ _ _ _ (by omega), hz i (by omega) (by omega), hv, mod_pow_succ, mod_pow_succ]
      simp only [Int.natCast_add, Int.natCast_mul, pow_nat]
      unfold dg
      generalize ((V a / 256 ^ i % 256 : Nat) : Int) = p
      generalize ((V b / 256 ^ i % 256 : Nat) : Int) = q
      have : (((256 : Nat) : Int)) = 256 := rfl
      rw [this]
      grind
    have h := ih (i + 1) (x.set i (dg a i + dg b i)) (by omega) (by omega) (by rw [List.length_set]; exact hl) hx2 (fun j h1 h2 => by rw [lset_ne _ (by omega)]; exact hz j (by omega) h2) hv2
    have w1 : wrap64 (dg a i + dg b i) = dg a i + dg b i := wrap64_id (by omega) (by omega)
    have w2 : wrap64 ((i : Int) + 1) = ((i + 1 : Nat) : Int) := by rw [wrap64_id (by clear w1; omega) (by clear w1; omega)]; rfl
    refine Ev.succ ?_
    change gantref1_digit.f a (i : Int) = some (dg a i) at da
    change gantref1_digit.f b (i : Int) = some (dg b i) at db
    simp only [gantref1_Plus.l0, if_pos g1, da, db, Option.bind_some, if_pos g2, if_pos g3, w1, w2, Int.toNat_natCast]
    exact h
theorem plus_spec (a b : ByteArray) (ha : a.size ≤ 35184372088832) (hb : b.size ≤ 35184372088832) : Ev (fun k => gantref1_Plus.f k a b) (B (V a + V b)) := by
  have hm : mx (a.size : Int) (b.size : Int) = ((max a.size b.size : Nat) : Int) := by
    unfold mx; split <;> omega
  have h := plus_l0 a b ha hb (max a.size b.size) rfl (max a.size b.size) 0 (List.replicate (max a.size b.size) 0) (by omega) (by omega) (by rw [List.length_replicate])
    (fun y hy => by have := List.eq_of_mem_replicate hy; omega) (fun j _ _ => getD_replicate _ j) (by rw [lv_zeros]; simp [Nat.mod_one])
  have g1 : 0 ≤ ((max a.size b.size : Nat) : Int) := Int.natCast_nonneg _
  have g2 : max a.size b.size ≤ 35184372088832 := by omega
  simp only [gantref1_Plus.f, hm, if_pos g1, Int.toNat_natCast, if_pos g2, Option.bind_some, List.length_replicate]
  exact h
/-! ### Less -/
theorem less_l0 (a b : ByteArray) (ha : a.size ≤ 35184372088832) (hb : b.size ≤ 35184372088832) (hab : V b ≤ V a) (d : Nat) : ∀ (i : Nat) (x : List Int) (c : Int), i ≤ a.size → a.size - i = d → x.length = a.size →
    InR 256 x → (∀ j, i ≤ j → j < a.size → x.getD j 0 = 0) → (c = 0 ∨ c = 1) → lv 256 x = (V a % 256 ^ i : Nat) - (V b % 256 ^ i : Nat) + c * 256 ^ i → Ev (fun k => gantref1_Less.l0 k a b x c (a.size : Int) (i : Int)) (B (V a - V b)) := by
  induction d with
  | zero =>
    intro i x c hi hd hl hx hz hc hv
    have h := number_spec x (by omega) (fun y hy => by have := hx y hy; omega)
    have e : i = a.size := by omega
    have hlt := lv_lt (b := 256) (by decide) hx
    rw [hl] at hlt
    have hav := V_lt a
    have hbv : V b % 256 ^ a.size = V b := Nat.mod_eq_of_lt (Nat.lt_of_le_of_lt hab hav)
    subst e
    rw [V_mod a (by omega), hbv] at hv
    have hc0 : c = 0 := by
      rcases hc with h0 | h1
      · exact h0
      · exfalso
        rw [h1] at hv
        rw [hv] at hlt
        omega
    subst hc0
    have hv' : (lv 256 x).toNat = V a - V b := by
      rw [hv]
      simp only [Int.zero_mul, Int.add_zero]
      omega
    rw [hv'] at h
    refine Ev.succ ?_
    have g : ¬ (a.size : Int) < (a.size : Int) := by omega
    simp only [gantref1_Less.l0, if_neg g]
    exact Ev.bind (f := fun _ t => some t) h (Ev.now _)
  | succ d ih =>
    intro i x c hi hd hl hx hz hc hv
    have da := digit_spec a (by omega) i
    have db := digit_spec b (by omega) i
    have ra := dg_range a i
    have rb := dg_range b i
    have hi2 : i < x.length := by omega
    have g1 : (i : Int) < (a.size : Int) := by omega
    have g2 : 0 ≤ (i : Int) := by omega
    have g3 : (i : Int) < (x.length : Int) := by omega
    have hc2 : 0 ≤ c ∧ c ≤ 1 := by omega
    have key : ∀ e : Int, (e = 0 ∨ e = 1) → 0 ≤ dg a i - dg b i - c + e * 256 → dg a i - dg b i - c + e * 256 < 256 →
        Ev (fun k => gantref1_Less.l0 k a b (x.set i (dg a i - dg b i - c + e * 256)) e (a.size : Int) ((i + 1 : Nat) : Int)) (B (V a - V b)) := by
      intro e he h0 h1
      refine ih (i + 1) _ e (by omega) (by omega) (by rw [List.length_set]; exact hl) (InR_set hx i h0 h1) (fun j h1 h2 => by rw [lset_ne _ (by omega)]; exact hz j (by omega) h2) he ?_
      rw [lv_set _ _ _ _ hi2, hz i (by omega) (by omega), hv, mod_pow_succ, mod_pow_succ, Int.pow_succ]
      simp only [Int.natCast_add, Int.natCast_mul, pow_nat]
      unfold dg
      generalize ((V a / 256 ^ i % 256 : Nat) : Int) = p
      generalize ((V b / 256 ^ i % 256 : Nat) : Int) = q
      have : (((256 : Nat) : Int)) = 256 := rfl
      rw [this]
      grind
    have w1 : wrap64 (dg a i - dg b i) = dg a i - dg b i := wrap64_id (by omega) (by omega)
    have w3 : wrap64 (dg a i - dg b i - c) = dg a i - dg b i - c := wrap64_id (by clear w1; omega) (by clear w1; omega)
    have w2 : wrap64 ((i : Int) + 1) = ((i + 1 : Nat) : Int) := by rw [wrap64_id (by clear w1 w3; omega) (by clear w1 w3; omega)]; rfl
    have hrd : rd (x.set i (dg a i - dg b i - c)) (i : Int) = dg a i - dg b i - c := rd_set_self x hi2 _
    refine Ev.succ ?_
    change gantref1_digit.f a (i : Int) = some (dg a i) at da
    change gantref1_digit.f b (i : Int) = some (dg b i) at db
    simp only [gantref1_Less.l0, if_pos g1, da, db, Option.bind_some, if_pos g2, if_pos g3, w1, w2, w3, Int.toNat_natCast, hrd, List.set_set]
    by_cases hneg : dg a i - dg b i - c < 0
    · have h := key 1 (.inr rfl) (by clear w1 w2 w3; omega) (by clear w1 w2 w3; omega)
      have w4 : wrap64 (dg a i - dg b i - c + 256) = dg a i - dg b i - c + 1 * 256 := by rw [wrap64_id (by clear w1 w2 w3; omega) (by clear w1 w2 w3; omega)]; rfl
      simp only [if_pos hneg, w4]
      exact h
    · have h := key 0 (.inl rfl) (by clear w1 w2 w3; omega) (by clear w1 w2 w3; omega)
      rw [show dg a i - dg b i - c + 0 * 256 = dg a i - dg b i - c by clear w1 w2 w3; omega] at h
      simp only [if_neg hneg]
      exact h
theorem less_spec (a b : ByteArray) (ha : a.size ≤ 35184372088832) (hb : b.size ≤ 35184372088832) (hab : V b ≤ V a) : Ev (fun k => gantref1_Less.f k a b) (B (V a - V b)) := by
  have h := less_l0 a b ha hb hab a.size 0 (List.replicate a.size 0) 0 (by omega) (by omega) (by rw [List.length_replicate]) (InR_replicate (by decide) _) (fun j _ _ => getD_replicate _ j) (.inl rfl) (by rw [lv_zeros]; simp [Nat.mod_one])
  have g1 : 0 ≤ (a.size : Int) := Int.natCast_nonneg _
  simp only [gantref1_Less.f, if_pos g1, Int.toNat_natCast, if_pos ha, Option.bind_some, List.length_replicate]
  exact h
/-! ### nat.Cmp -/
theorem compareBytes_be : ∀ (l m : List UInt8), l.length = m.length → Lib.compareBytes l m = cmpN (be l) (be m)
  | [], [], _ => by simp [Lib.compareBytes, cmpN, be_nil]
  | [], _ :: _, h => by simp at h
  | _ :: _, [], h => by simp at h
  | c :: l, d :: m, h => by
    have hl : l.length = m.length := by simpa using h
    have ih := compareBytes_be l m hl
    have h1 := be_lt l
    have h2 := be_lt m
    rw [hl] at h1
    have hp : 0 < 256 ^ m.length := Nat.pow_pos (by decide)
    simp only [Lib.compareBytes]
    rw [be_cons, be_cons, hl]
    by_cases hcd : c < d
    · have : c.toNat + 1 ≤ d.toNat := UInt8.lt_iff_toNat_lt.1 hcd
      have hm := Nat.mul_le_mul_right (256 ^ m.length) this
      rw [Nat.add_mul] at hm
      rw [if_pos hcd]
      unfold cmpN
      rw [if_pos (by omega)]
    · by_cases hdc : d < c
      · have : d.toNat + 1 ≤ c.toNat := UInt8.lt_iff_toNat_lt.1 hdc
        have hm := Nat.mul_le_mul_right (256 ^ m.length) this
        rw [Nat.add_mul] at hm
        rw [if_neg hcd, if_pos hdc]
        unfold cmpN
        rw [if_neg (by omega), if_neg (by omega)]
      · have e : c.toNat = d.toNat := by
          have h3 : ¬ c.toNat < d.toNat := fun h => hcd (UInt8.lt_iff_toNat_lt.2 h)
          have h4 : ¬ d.toNat < c.toNat := fun h => hdc (UInt8.lt_iff_toNat_lt.2 h)
          omega
        rw [if_neg hcd, if_neg hdc, ih, e]
        unfold cmpN
        generalize d.toNat * 256 ^ m.length = p
        (repeat' split) <;> omega
theorem lt_of_size_lt {m n : Nat} (h : (B m).size < (B n).size) : m < n := by
  apply Nat.lt_of_not_le
  intro hle
  have h1 : m < 256 ^ (B m).size := lt_of_size_B (Nat.le_refl _)
  have := size_B_le (n := n) (k := (B m).size) (by omega)
  omega
theorem cmp_spec (a b : ByteArray) : Ev (fun k => nat_Cmp.f k a b) (cmpN (V a) (V b)) := by
  refine Ev.bind (trim a) ?_
  refine Ev.bind (trim b) ?_
  by_cases h1 : (B (V a)).size < (B (V b)).size
  · have hlt := lt_of_size_lt h1
    have g : ((B (V a)).size : Int) < ((B (V b)).size : Int) := by omega
    simp only [if_pos g]
    unfold cmpN
    rw [if_pos hlt]
    exact Ev.now _
  · have g : ¬ ((B (V a)).size : Int) < ((B (V b)).size : Int) := by omega
    simp only [if_neg g]
    by_cases h2 : (B (V b)).size < (B (V a)).size
    · have hlt := lt_of_size_lt h2
      have g2 : ((B (V a)).size : Int) > ((B (V b)).size : Int) := by omega
      simp only [if_pos g2]
      unfold cmpN
      rw [if_neg (by omega), if_neg (by omega)]
      exact Ev.now _
    · have g2 : ¬ ((B (V a)).size : Int) > ((B (V b)).size : Int) := by omega
      have hl : (B (V a)).data.toList.length = (B (V b)).data.toList.length := by rw [size_toList, size_toList]; omega
      have hc := compareBytes_be _ _ hl
      change Lib.compareBytes _ _ = cmpN (V (B (V a))) (V (B (V b))) at hc
      rw [V_B, V_B] at hc
      simp only [if_neg g2, strings_Compare.f, hc, Option.bind_some]
      exact Ev.now _

/-! ### nat.less, nat.Sub -/
theorem u64_sub {t : Int} (h0 : -9223372036854775808 ≤ t) (h1 : t < 9223372036854775808) : (0 ≤ t ∧ IntKind.u64.wrap t = t) ∨ (t < 0 ∧ IntKind.u64.wrap t = t + 18446744073709551616) := by
  rw [IntKind.wrap_u64]
  by_cases h : 0 ≤ t
  · left; omega
  · right; omega
/-- a digit less a borrow and another digit: what stays, and the next borrow -/
theorem sub_digit {t : Int} (h0 : -4294967297 ≤ t) (h1 : t < 4294967296) : ∃ e : Int, (e = 0 ∨ e = 1) ∧ 0 ≤ t + e * 4294967296 + (if t < -4294967296 then 4294967296 else 0) ∧ IntKind.u64.wrap t / 9223372036854775808 = e := by
  rcases u64_sub (t := t) (by omega) (by omega) with ⟨h, e⟩ | ⟨h, e⟩
  · exact ⟨0, .inl rfl, by split <;> omega, by rw [e]; omega⟩
  · exact ⟨1, .inr rfl, by split <;> omega, by rw [e]; omega⟩
theorem sub_digit2 {t : Int} (h0 : -4294967296 ≤ t) (h1 : t < 4294967296) : ∃ e : Int, (e = 0 ∨ e = 1) ∧ IntKind.u64.wrap t % 4294967296 = t + e * 4294967296 ∧ 0 ≤ t + e * 4294967296 ∧ t + e * 4294967296 < 4294967296 ∧ IntKind.u64.wrap t / 9223372036854775808 = e := by
  rcases u64_sub (t := t) (by omega) (by omega) with ⟨h, e⟩ | ⟨h, e⟩
  · exact ⟨0, .inl rfl, by rw [e]; omega, by omega, by omega, by rw [e]; omega⟩
  · exact ⟨1, .inr rfl, by rw [e]; omega, by omega, by omega, by rw [e]; omega⟩
theorem u64_id {t : Int} (h0 : 0 ≤ t) (h1 : t < 18446744073709551616) : IntKind.u64.wrap t = t := by rw [IntKind.wrap_u64]; omega
theorem u64_wrap_sub (t y : Int) : IntKind.u64.wrap (IntKind.u64.wrap t - y) = IntKind.u64.wrap (t - y) := by
  rw [IntKind.wrap_u64, IntKind.wrap_u64, IntKind.wrap_u64]; omega
theorem lv_take_all (b : Int) (y : List Int) {i j : Nat} (hi : y.length ≤ i) (hj : y.length ≤ j) : lv b (y.take i) = lv b (y.take j) := by
  rw [lv_take_ge b y i hi, lv_take_ge b y j hj]
theorem nless_l0 (y : List Int) (hy : InR b32 y) (x0 : Int) (n : Nat) (hn : n ≤ 281474976710656) (d : Nat) : ∀ (i : Nat) (x : List Int) (c : Int), i ≤ n → n - i = d → x.length = n → InR b32 x → (c = 0 ∨ c = 1) →
    lv b32 x - c * b32 ^ i = x0 - lv b32 (y.take i) → ∃ (r : List Int) (e : Int), Ev (fun k => nat_less.l0 k x y c (n : Int) (i : Int)) r ∧ r.length = n ∧ InR b32 r ∧ (e = 0 ∨ e = 1) ∧ lv b32 r - e * b32 ^ n = x0 - lv b32 (y.take n) := by
  induction d with
  | zero =>
    intro i x c hi hd hl hx hc hv
    have e : i = n := by omega
    subst e
    refine ⟨x, c, Ev.succ ?_, hl, hx, hc, hv⟩
    have g : ¬ (i : Int) < (i : Int) := by omega
    simp only [nat_less.l0, if_neg g]
    exact Ev.now _
  | succ d ih =>
    intro i x c hi hd hl hx hc hv
    have k1 : i + 1 ≤ n ∧ n - (i + 1) = d := by omega
    have rx := InR_rd b32_pos hx (i : Int)
    unfold b32 at rx
    have hi2 : i < x.length := by omega
    have g1 : (i : Int) < (n : Int) := by omega
    have g2 : 0 ≤ (i : Int) := by omega
    have g3 : (i : Int) < (x.length : Int) := by omega
    have w2 := wrap64_succ (i := (i : Int)) (n := n) g2 g1 hn
    have hux := u64_id rx.1 (Int.lt_trans rx.2 (by decide))
    by_cases hj : i < y.length
    · have ry := InR_rd b32_pos hy (i : Int)
      unfold b32 at ry
      have g4 : (i : Int) < (y.length : Int) := Int.ofNat_lt.2 hj
      have huy := u64_id ry.1 (Int.lt_trans ry.2 (by decide))
      obtain ⟨e, he, h1, h2, h3, h4⟩ := sub_digit2 (t := rd x (i : Int) - c - rd y (i : Int)) (by clear w2 hux huy hv; omega) (by clear w2 hux huy hv; omega)
      have hv2 : lv b32 (x.set i (rd x (i : Int) - c - rd y (i : Int) + e * 4294967296)) - e * b32 ^ (i + 1) = x0 - lv b32 (y.take (i + 1)) := by
        rw [lv_set _ _ _ _ hi2, lv_take_succ b32 y i hj, getD_eq_rd, getD_eq_rd, Int.pow_succ]
        have : b32 = 4294967296 := rfl
        generalize lv b32 x = p at *
        generalize lv b32 (y.take i) = q at *
        generalize b32 ^ i = t at *
        rw [this]
        grind
      obtain ⟨r, e2, r1, r2, r3, r4, r5⟩ := ih (i + 1) _ e k1.1 k1.2 (by rw [List.length_set]; exact hl) (InR_set hx i h2 h3) he hv2
      refine ⟨r, e2, Ev.succ ?_, r2, r3, r4, r5⟩
      simp only [nat_less.l0, if_pos g1, if_pos g2, if_pos g3, if_pos g4, hux, huy, u64_wrap_sub, h1, h4, w2, Int.toNat_natCast]
      exact r1
    · have g4 : ¬ (i : Int) < (y.length : Int) := fun h => hj (Int.ofNat_lt.1 h)
      obtain ⟨e, he, h1, h2, h3, h4⟩ := sub_digit2 (t := rd x (i : Int) - c) (by clear w2 hux hv; omega) (by clear w2 hux hv; omega)
      have hv2 : lv b32 (x.set i (rd x (i : Int) - c + e * 4294967296)) - e * b32 ^ (i + 1) = x0 - lv b32 (y.take (i + 1)) := by
        rw [lv_set _ _ _ _ hi2, lv_take_all b32 y (i := i + 1) (j := i) (Nat.le_succ_of_le (Nat.le_of_not_lt hj)) (Nat.le_of_not_lt hj), getD_eq_rd, Int.pow_succ]
        have : b32 = 4294967296 := rfl
        generalize lv b32 x = p at *
        generalize lv b32 (y.take i) = q at *
        generalize b32 ^ i = t at *
        rw [this]
        grind
      obtain ⟨r, e2, r1, r2, r3, r4, r5⟩ := ih (i + 1) _ e k1.1 k1.2 (by rw [List.length_set]; exact hl) (InR_set hx i h2 h3) he hv2
      refine ⟨r, e2, Ev.succ ?_, r2, r3, r4, r5⟩
      simp only [nat_less.l0, if_pos g1, if_pos g2, if_pos g3, if_neg g4, hux, h1, h4, w2, Int.toNat_natCast]
      exact r1
theorem Dig_len {b : Int} (hb : 1 < b) {l m : List Int} {p q : Nat} (hl : Dig b l p) (hm : Dig b m q) (h : q ≤ p) : m.length ≤ l.length := by
  by_cases hz : m = []
  · subst hz; simp
  · have h1 := hm.2.2 hz
    have h2 := lv_lt (by omega) hl.1
    rw [hl.2.1] at h2
    have h3 : b ^ (m.length - 1) < b ^ l.length := by omega
    have h4 : m.length - 1 < l.length := by
      apply Nat.lt_of_not_le
      intro hle
      have h5 : b ^ l.length ≤ b ^ (m.length - 1) := by
        obtain ⟨j, hj⟩ := Nat.exists_eq_add_of_le hle
        rw [hj, Int.pow_add]
        have h6 : 1 ≤ b ^ j := by have := Int.pow_pos (n := b) (m := j) (by omega); omega
        have h7 : 0 < b ^ l.length := Int.pow_pos (by omega)
        have := Int.mul_le_mul_of_nonneg_left h6 (Int.le_of_lt h7)
        omega
      omega
    omega
theorem sub_spec (a b : ByteArray) (ha : a.size ≤ 140737488351232) (hb : b.size ≤ 140737488351232) : Ev (fun k => nat_Sub.f k a b) (if V a < V b then (⟨#[]⟩, 1) else (B (V a - V b), 0)) := by
  refine Ev.bind (cmp_spec a b) ?_
  by_cases hlt : V a < V b
  · have g : cmpN (V a) (V b) < 0 := by unfold cmpN; rw [if_pos hlt]; decide
    simp only [if_pos g, if_pos hlt]
    exact Ev.now _
  · have g : ¬ cmpN (V a) (V b) < 0 := by unfold cmpN; (repeat' split) <;> omega
    simp only [if_neg g, if_neg hlt]
    obtain ⟨x, hx1, hx2, hx3⟩ := words a ha
    obtain ⟨y, hy1, hy2, hy3⟩ := words b hb
    have hlen := Dig_len (by decide) hx2 hy2 (by omega)
    obtain ⟨r, e, r1, r2, r3, r4, r5⟩ := nless_l0 y hy2.1 (V a) x.length (by omega) x.length 0 x 0 (by omega) (by omega) rfl hx2.1 (.inl rfl) (by rw [hx2.2.1]; simp [lv])
    rw [List.take_of_length_le hlen, hy2.2.1] at r5
    have hrl := lv_lt b32_pos r3
    rw [r2] at hrl
    have hr0 := lv_nonneg b32_pos r3
    have he : e = 0 := by
      rcases r4 with h0 | h1
      · exact h0
      · exfalso
        subst h1
        have hx4 := lv_lt b32_pos hx2.1
        rw [hx2.2.1] at hx4
        omega
    subst he
    have hv : (lv b32 r).toNat = V a - V b := by omega
    have ht := text r (by omega) r3
    rw [hv] at ht
    refine Ev.bind hx1 ?_
    refine Ev.bind hy1 ?_
    refine Ev.bind (g := fun k => nat_less.f k x y) r1 ?_
    exact Ev.bind (f := fun _ t => some (t, (0 : Int))) ht (Ev.now _)
end Go.Proofs.YtgpbkoajifbcfaaDoor.SB
