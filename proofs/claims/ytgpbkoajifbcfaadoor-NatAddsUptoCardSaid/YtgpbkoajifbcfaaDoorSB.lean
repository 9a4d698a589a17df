/- What the printed functions of packages nat and gantref1 compute: numbers. -/
import Derived.Test.YtgpbkoajifbcfaaDoorSA
import Derived.Test.YtgpbkoajifbcfaaDoorHT
import Derived.Test.YtgpbkoajifbcfaaDoorHB
import Derived.Test.YtgpbkoajifbcfaaDoorB
namespace Go.Proofs.YtgpbkoajifbcfaaDoor.SB
open Go.RowKit Go.Proofs.YtgpbkoajifbcfaaDoor.M Go.Proofs.YtgpbkoajifbcfaaDoor.SA Go.Proofs.YtgpbkoajifbcfaaDoor.A Go.Proofs.YtgpbkoajifbcfaaDoor.H Go.Proofs.YtgpbkoajifbcfaaDoor.B Go.Proofs.YtgpbkoajifbcfaaDoorW.PrintWords Go.Proofs.YtgpbkoajifbcfaaDoorW.PrintLast Go.Proofs.YtgpbkoajifbcfaaDoorW.PrintMore

theorem toList_data (a : ByteArray) : a.toList = a.data.toList := ByteArray.toList_eq a
theorem toList_B (n : Nat) : (B n).toList = bytesOf n := by rw [toList_data, B_toList]
theorem Ev.ret {α : Type} (r : α) : Ev (fun _ => some r) r := Ev.now r
theorem Ev.ofEq {α : Type} {x : Option α} {r : α} (h : x = some r) : Ev (fun _ => x) r := ⟨0, fun _ _ => h⟩

/-! ### Of, Int -/
theorem of_spec (n : Int) (h : n < 9223372036854775808) : nat_Of.f n = some (B n.toNat) := by
  unfold nat_Of.f
  by_cases h1 : n < 1
  · rw [if_pos h1, show n.toNat = 0 by omega, B_zero]
  · rw [if_neg h1]
    have e : IntKind.u64.wrap n = n := by rw [IntKind.wrap_u64]; omega
    unfold nat_fromShort.f
    rw [e, if_pos (by omega)]
    rfl
theorem bare_spec (a : ByteArray) : gantref1_Bare.f a = some (B (V a)) := by
  unfold gantref1_Bare.f strings_TrimLeft.f
  rw [if_pos rfl]
  rfl
theorem int_spec (a : ByteArray) : Ev (fun k => nat_Int.f k a) (if V a ≤ 9223372036854775807 then ((V a : Int), 0) else (0, 2)) := by
  have ht := trim a
  refine Ev.bind ht ?_
  by_cases h8 : ((B (V a)).size : Int) > 8
  · have hv : ¬ V a ≤ 9223372036854775807 := by
      intro hle
      have := size_B_le (n := V a) (k := 8) (by omega)
      omega
    refine Ev.congr (f := fun _ => some ((0, 2) : Int × Int)) (fun k => ?_) ?_
    · rw [if_pos h8]
    · rw [if_neg hv]; exact Ev.now _
  · have hs := short (B (V a)) (by omega)
    rw [V_B] at hs
    refine Ev.congr (fun k => by rw [if_neg h8]) ?_
    refine Ev.bind hs ?_
    by_cases hv : V a ≤ 9223372036854775807
    · refine Ev.congr (fun k => by rw [if_neg (by omega)]) ?_
      refine Ev.bind hs ?_
      rw [if_pos hv]
      exact Ev.ofEq (by rw [wrap64_id (by omega) (by omega)])
    · refine Ev.congr (f := fun _ => some ((0, 2) : Int × Int)) (fun k => by rw [if_pos (by omega)]) ?_
      rw [if_neg hv]; exact Ev.now _

/-! ### digits -/
theorem drop_lead (l : List UInt8) : ∀ i, i < l.length → be l / 256 ^ i % 256 = (l.getD (l.length - 1 - i) 0).toNat := by
  intro i hi
  have hsplit : l = l.take (l.length - 1 - i) ++ [l.getD (l.length - 1 - i) 0] ++ l.drop (l.length - i) := by
    have h1 : l.length - 1 - i < l.length := by omega
    conv => lhs; rw [← List.take_append_drop (l.length - 1 - i) l, List.drop_eq_getElem_cons h1]
    rw [List.append_assoc, List.getD_eq_getElem?_getD, List.getElem?_eq_getElem h1]
    rw [show l.length - i = l.length - 1 - i + 1 by omega]
    rfl
  have hl : (l.drop (l.length - i)).length = i := by rw [List.length_drop]; omega
  have hb : be l = (be (l.take (l.length - 1 - i)) * 256 + (l.getD (l.length - 1 - i) 0).toNat) * 256 ^ i + be (l.drop (l.length - i)) := by
    conv => lhs; rw [hsplit]
    rw [be_append, be_snoc, hl]
  have hlt := be_lt (l.drop (l.length - i))
  rw [hl] at hlt
  have hp : 0 < 256 ^ i := Nat.pow_pos (by decide)
  rw [hb, Nat.add_comm, Nat.add_mul_div_right _ _ hp, Nat.div_eq_of_lt hlt]
  have := (l.getD (l.length - 1 - i) 0).toNat_lt
  omega
theorem digit_spec (a : ByteArray) (hs : a.size ≤ 140737488351232) (i : Nat) : gantref1_digit.f a (i : Int) = some ((V a / 256 ^ i % 256 : Nat) : Int) := by
  unfold gantref1_digit.f
  by_cases h : i < a.size
  · have e2 := words_i2 (n := a.size) (i := i) h (by omega)
    have hd := drop_lead a.data.toList i (by rw [size_toList]; exact h)
    rw [size_toList] at hd
    have hb : bt a ((a.size - 1 - i : Nat) : Int) = ((V a / 256 ^ i % 256 : Nat) : Int) := by
      rw [bt_toList]; unfold V; rw [hd]
    have hm : V a / 256 ^ i % 256 < 256 := Nat.mod_lt _ (by decide)
    have g1 : ((a.size - 1 - i : Nat) : Int) < (a.size : Int) := by clear e2 hd hb; omega
    rw [if_pos (Int.ofNat_lt.2 h), e2, if_pos (Int.natCast_nonneg _), if_pos g1, hb, wrap64_id (by clear e2 hd hb; omega) (by clear e2 hd hb; omega)]
  · rw [if_neg (by omega)]
    have hlt : V a < 256 ^ i := Nat.lt_of_lt_of_le (V_lt a) (Nat.pow_le_pow_right (by decide) (by omega))
    rw [Nat.div_eq_of_lt hlt]
    rfl
def cmpN (a b : Nat) : Int := if a < b then -1 else if a = b then 0 else 1
/-- the comparison from digit i on downwards, where all above are alike -/
theorem div_pow_step (a i : Nat) : a / 256 ^ i = a / 256 ^ (i + 1) * 256 + a / 256 ^ i % 256 := by
  rw [Nat.pow_succ, ← Nat.div_div_eq_div_mul]
  omega
theorem compare_l0 (a b : ByteArray) (ha : a.size ≤ 140737488351232) (hb : b.size ≤ 140737488351232) (i : Nat) : ∀ n, n = i → (n ≤ a.size ∨ n ≤ b.size) → V a / 256 ^ i = V b / 256 ^ i →
    Ev (fun k => gantref1_Compare.l0 k a b ((i : Int) - 1)) (cmpN (V a) (V b)) := by
  induction i with
  | zero =>
    intro n hn _ he
    simp only [Nat.pow_zero, Nat.div_one] at he
    refine Ev.step (f := fun _ => some (cmpN (V a) (V b))) (fun k => ?_) (Ev.now _)
    simp only [gantref1_Compare.l0]
    rw [if_neg (by omega)]
    unfold cmpN
    rw [if_neg (by omega), if_pos he]
  | succ i ih =>
    intro n hn hle he
    subst hn
    have c1 : ((i + 1 : Nat) : Int) - 1 = (i : Int) := by omega
    have da := digit_spec a ha i
    have db := digit_spec b hb i
    have sa := div_pow_step (V a) i
    have sb := div_pow_step (V b) i
    have ma : V a / 256 ^ i % 256 < 256 := Nat.mod_lt _ (by decide)
    have mb : V b / 256 ^ i % 256 < 256 := Nat.mod_lt _ (by decide)
    have hp : 0 < 256 ^ i := Nat.pow_pos (by decide)
    rw [c1]
    generalize V a / 256 ^ i % 256 = x at *
    generalize V b / 256 ^ i % 256 = y at *
    by_cases hxy : x = y
    · subst hxy
      have hi := ih i rfl (by omega) (by omega)
      have g0 : (i : Int) ≥ 0 := by omega
      have w1 : wrap64 ((x : Int) - (x : Int)) = 0 := by rw [wrap64_id (by omega) (by omega)]; omega
      have w2 : wrap64 ((i : Int) - 1) = (i : Int) - 1 := wrap64_id (by omega) (by omega)
      refine Ev.step (fun k => ?_) hi
      simp only [gantref1_Compare.l0]
      rw [if_pos g0, da, db]
      simp only [Option.bind_some]
      rw [if_pos w1, w2]
    · have g0 : (i : Int) ≥ 0 := by omega
      have w1 : wrap64 ((x : Int) - (y : Int)) = (x : Int) - (y : Int) := wrap64_id (by omega) (by omega)
      have g1 : ¬ ((x : Int) - (y : Int) = 0) := by clear w1; omega
      have hr : mx (-1) (mn 1 ((x : Int) - (y : Int))) = cmpN (V a) (V b) := by
        clear w1
        unfold mx mn cmpN
        by_cases hlt : x < y
        · have : V a < V b := by
            apply Nat.lt_of_not_le
            intro hge
            have := Nat.div_le_div_right (c := 256 ^ i) hge
            omega
          rw [if_pos this]
          (repeat' split) <;> omega
        · have h1 : V b < V a := by
            apply Nat.lt_of_not_le
            intro hge
            have := Nat.div_le_div_right (c := 256 ^ i) hge
            omega
          rw [if_neg (show ¬ V a < V b by omega), if_neg (show ¬ V a = V b by omega)]
          (repeat' split) <;> omega
      refine Ev.step (f := fun _ => some (cmpN (V a) (V b))) (fun k => ?_) (Ev.now _)
      simp only [gantref1_Compare.l0]
      rw [if_pos g0, da, db]
      simp only [Option.bind_some]
      rw [w1, if_neg g1, hr]
theorem compare_spec (a b : ByteArray) (ha : a.size ≤ 140737488351232) (hb : b.size ≤ 140737488351232) : Ev (fun k => gantref1_Compare.f k a b) (cmpN (V a) (V b)) := by
  have hm : mx (a.size : Int) (b.size : Int) = ((max a.size b.size : Nat) : Int) := by
    unfold mx; split <;> omega
  have h1 : V a / 256 ^ (max a.size b.size) = 0 := Nat.div_eq_of_lt (Nat.lt_of_lt_of_le (V_lt a) (Nat.pow_le_pow_right (by decide) (by omega)))
  have h2 : V b / 256 ^ (max a.size b.size) = 0 := Nat.div_eq_of_lt (Nat.lt_of_lt_of_le (V_lt b) (Nat.pow_le_pow_right (by decide) (by omega)))
  have h := compare_l0 a b ha hb (max a.size b.size) _ rfl (by omega) (by rw [h1, h2])
  refine Ev.congr (fun k => ?_) h
  unfold gantref1_Compare.f
  rw [hm, wrap64_id (by omega) (by omega)]

/-! ### number -/
theorem rev_l1 (o : List Int) (hn : o.length ≤ 140737488355328) (hr : InR 256 o) (d : Nat) : ∀ (i : Nat) (x : List Int), i ≤ o.length → o.length - i = d → x.length = o.length →
    (∀ m, m < o.length → x.getD m 0 = if m < i ∨ o.length - 1 - i < m then o.getD (o.length - 1 - m) 0 else o.getD m 0) → 2 * i ≤ o.length + 1 →
    Ev (fun k => gantref1_number.l1 k x (i : Int) ((o.length : Int) - 1 - i)) (B (lv 256 o).toNat) := by
  induction d with
  | zero =>
    intro i x hi hd hl hx h2
    have hx0 : x = o.reverse := by
      apply List.ext_getElem
      · rw [List.length_reverse, hl]
      · intro m h1 h3
        have := hx m (by omega)
        rw [List.getD_eq_getElem?_getD, List.getElem?_eq_getElem h1] at this
        rw [List.getElem_reverse]
        simp only [Option.getD_some] at this
        rw [this]
        have h5 : o.length - 1 - m < o.length := by omega
        rw [List.getD_eq_getElem?_getD, List.getElem?_eq_getElem h5]
        rw [if_pos (by omega)]
        rfl
    have hv := V_strOfNums (InR_reverse hr)
    have hb : bv o.reverse = lv 256 o := by unfold bv; rw [List.reverse_reverse]
    rw [hb] at hv
    refine Ev.step (f := fun _ => some (B (lv 256 o).toNat)) (fun k => ?_) (Ev.now _)
    simp only [gantref1_number.l1]
    rw [if_neg (by omega), bare_spec, hx0, show V (strOfNums o.reverse) = (lv 256 o).toNat by omega]
    rfl
  | succ d ih =>
    intro i x hi hd hl hx h2
    by_cases hlt : (i : Int) < (o.length : Int) - 1 - i
    · have c1 : (i : Int) + 1 = ((i + 1 : Nat) : Int) := by omega
      have c2 : (o.length : Int) - 1 - i - 1 = (o.length : Int) - 1 - ((i + 1 : Nat) : Int) := by omega
      have c3 : (o.length : Int) - 1 - i = ((o.length - 1 - i : Nat) : Int) := by omega
      have c4 : i < x.length := by omega
      have c5 : o.length - 1 - i < x.length := by omega
      have hx2 : ∀ m, m < o.length → ((x.set i (rd x ((o.length - 1 - i : Nat) : Int))).set (o.length - 1 - i) (rd x (i : Int))).getD m 0 = if m < i + 1 ∨ o.length - 1 - (i + 1) < m then o.getD (o.length - 1 - m) 0 else o.getD m 0 := by
        intro m hm
        have h0 := hx m hm
        have ha := hx i (by omega)
        have hb := hx (o.length - 1 - i) (by omega)
        rw [if_neg (by omega)] at ha hb
        by_cases e1 : m = o.length - 1 - i
        · subst e1
          rw [List.getD_eq_getElem?_getD, List.getElem?_set_self (by rw [List.length_set]; omega), Option.getD_some, if_pos (by omega), ← getD_eq_rd, ha, show o.length - 1 - (o.length - 1 - i) = i by omega]
        · rw [lset_ne _ (by omega)]
          by_cases e2 : m = i
          · subst e2
            rw [List.getD_eq_getElem?_getD, List.getElem?_set_self (by omega), Option.getD_some, if_pos (by omega), ← getD_eq_rd, hb]
          · rw [lset_ne _ (by omega), h0]
            by_cases e3 : m < i ∨ o.length - 1 - i < m
            · rw [if_pos e3, if_pos (by omega)]
            · rw [if_neg e3, if_neg (by omega)]
      have ihx := ih (i + 1) _ (by omega) (by omega) (by simp only [List.length_set]; exact hl) hx2 (by omega)
      have g1 : 0 ≤ (o.length : Int) - 1 - i := by omega
      have g2 : (o.length : Int) - 1 - i < (x.length : Int) := by omega
      have g3 : 0 ≤ (i : Int) := by omega
      have g4 : (i : Int) < (x.length : Int) := by omega
      have w1 : wrap64 ((i : Int) + 1) = (i : Int) + 1 := wrap64_id (by omega) (by omega)
      have w2 : wrap64 ((o.length : Int) - 1 - i - 1) = (o.length : Int) - 1 - i - 1 := wrap64_id (by omega) (by omega)
      refine Ev.step (fun k => ?_) ihx
      simp only [gantref1_number.l1]
      rw [if_pos hlt, if_pos g1, if_pos g2, if_pos g3, if_pos g4, w1, w2, c2, c3, Int.toNat_natCast, Int.toNat_natCast]
      rfl
    · have hx0 : x = o.reverse := by
        apply List.ext_getElem
        · rw [List.length_reverse, hl]
        · intro m h1 h3
          have := hx m (by omega)
          rw [List.getD_eq_getElem?_getD, List.getElem?_eq_getElem h1] at this
          rw [List.getElem_reverse]
          simp only [Option.getD_some] at this
          rw [this]
          have h5 : o.length - 1 - m < o.length := by omega
          by_cases e3 : m < i ∨ o.length - 1 - i < m
          · rw [if_pos e3, List.getD_eq_getElem?_getD, List.getElem?_eq_getElem h5]
            rfl
          · rw [if_neg e3, List.getD_eq_getElem?_getD, List.getElem?_eq_getElem (by omega)]
            simp only [Option.getD_some]
            congr 1
            omega
      have hv := V_strOfNums (InR_reverse hr)
      have hb : bv o.reverse = lv 256 o := by unfold bv; rw [List.reverse_reverse]
      rw [hb] at hv
      refine Ev.step (f := fun _ => some (B (lv 256 o).toNat)) (fun k => ?_) (Ev.now _)
      simp only [gantref1_number.l1]
      rw [if_neg hlt, bare_spec, hx0, show V (strOfNums o.reverse) = (lv 256 o).toNat by omega]
      rfl
theorem rev_l1' (o : List Int) (hn : o.length ≤ 140737488355328) (hr : InR 256 o) : Ev (fun k => gantref1_number.l1 k o 0 (wrap64 ((o.length : Int) - 1))) (B (lv 256 o).toNat) := by
  have h := rev_l1 o hn hr o.length 0 o (by omega) (by omega) rfl (fun m hm => by rw [if_neg (by omega)]) (by omega)
  have w : wrap64 ((o.length : Int) - 1) = (o.length : Int) - 1 - ((0 : Nat) : Int) := by rw [wrap64_id (by omega) (by omega)]; omega
  rw [w]
  exact h
theorem lv_snoc (b : Int) (l : List Int) (x : Int) : lv b (l ++ [x]) = lv b l + x * b ^ l.length := by
  rw [lv_append]; simp only [lv]; grind
/-- behind the digits: what is carried -/
theorem number_tail (l : List Int) (m : Nat) : ∀ (o : List Int) (c : Int) (i : Nat), 0 ≤ c → c < 256 ^ m → c < 9223372036854775808 → l.length ≤ i → i + m ≤ 140737488355320 → o.length = i → InR 256 o →
    Ev (fun k => gantref1_number.l0 k l o c (i : Int)) (B (lv 256 o + c * 256 ^ i).toNat) := by
  induction m with
  | zero =>
    intro o c i h0 h1 _ hi hm hl hr
    have hc : c = 0 := by simp at h1; omega
    subst hc
    have h := rev_l1' o (by omega) hr
    rw [show lv 256 o + 0 * 256 ^ i = lv 256 o by simp]
    refine Ev.step (f := fun k => gantref1_number.j1 k l o 0 (i : Int) false) (fun k => ?_) (Ev.step (f := fun k => gantref1_number.l1 k o 0 (wrap64 ((o.length : Int) - 1))) (fun k => ?_) h)
    · simp only [gantref1_number.l0]
      rw [if_neg (by omega)]
      rfl
    · simp only [gantref1_number.j1]
      rfl
  | succ m ih =>
    intro o c i h0 h1 hc hi hm hl hr
    by_cases hz : c > 0
    · have hd : c / 256 < 256 ^ m := by
        rw [Int.pow_succ] at h1
        exact Int.ediv_lt_of_lt_mul (by decide) h1
      have hr2 : InR 256 (o ++ [c % 256]) := InR_append.2 ⟨hr, InR_cons.2 ⟨⟨by omega, by omega⟩, InR_nil _⟩⟩
      have h := ih (o ++ [c % 256]) (c / 256) (i + 1) (by omega) hd (by omega) (by omega) (by omega) (by rw [List.length_append, List.length_singleton]; omega) hr2
      have hv : lv 256 (o ++ [c % 256]) + c / 256 * 256 ^ (i + 1) = lv 256 o + c * 256 ^ i := by
        rw [lv_snoc, hl, Int.pow_succ]
        have e : c = c / 256 * 256 + c % 256 := by omega
        generalize c / 256 = q at *
        generalize c % 256 = r at *
        subst e
        generalize (256 : Int) ^ i = p
        grind
      rw [hv] at h
      have g1 : ¬ (i : Int) < (l.length : Int) := by omega
      have g2 : o.length < 140737488355328 := by omega
      have g3 : c % 256 % 256 = c % 256 := by omega
      have g4 : 0 ≤ c := h0
      have w1 : wrap64 (c / 256) = c / 256 := wrap64_id (by omega) (by omega)
      have w2 : wrap64 ((i : Int) + 1) = ((i + 1 : Nat) : Int) := by rw [wrap64_id (by omega) (by omega)]; omega
      refine Ev.step (f := fun k => gantref1_number.j1 k l o c (i : Int) true) (fun k => ?_) (Ev.step (fun k => ?_) h)
      · simp only [gantref1_number.l0]
        rw [if_neg g1, decide_eq_true hz]
      · simp only [gantref1_number.j1]
        rw [if_pos trivial, if_neg g1, if_pos g2, tmod_nn g4, tdiv_nn g4, g3, w1, w2]
    · have hc0 : c = 0 := by omega
      subst hc0
      have h := rev_l1' o (by omega) hr
      rw [show lv 256 o + 0 * 256 ^ i = lv 256 o by simp]
      refine Ev.step (f := fun k => gantref1_number.j1 k l o 0 (i : Int) false) (fun k => ?_) (Ev.step (f := fun k => gantref1_number.l1 k o 0 (wrap64 ((o.length : Int) - 1))) (fun k => ?_) h)
      · simp only [gantref1_number.l0]
        rw [if_neg (by omega)]
        rfl
      · simp only [gantref1_number.j1]
        rfl
theorem number_l0 (l : List Int) (hs : l.length ≤ 140737488355300) (hb : ∀ x ∈ l, 0 ≤ x ∧ x ≤ 4611686018427387904) (d : Nat) : ∀ (i : Nat) (o : List Int) (c : Int), i ≤ l.length → l.length - i = d → o.length = i → InR 256 o → 0 ≤ c → c ≤ 36028797018963968 →
    lv 256 o + 256 ^ i * (c + lv 256 (l.drop i)) = lv 256 l → Ev (fun k => gantref1_number.l0 k l o c (i : Int)) (B (lv 256 l).toNat) := by
  induction d with
  | zero =>
    intro i o c hi hd hl hr h0 h1 hv
    have h := number_tail l 8 o c i h0 (Int.lt_of_le_of_lt h1 (by decide)) (by omega) (by omega) (by omega) hl hr
    rw [List.drop_of_length_le (by omega)] at hv
    have e : lv 256 o + c * 256 ^ i = lv 256 l := by
      rw [← hv]
      simp only [lv]
      generalize (256 : Int) ^ i = p
      grind
    rw [e] at h
    exact h
  | succ d ih =>
    intro i o c hi hd hl hr h0 h1 hv
    have hlt : i < l.length := by omega
    have hx := hb (l.getD i 0) (by rw [List.getD_eq_getElem?_getD, List.getElem?_eq_getElem hlt]; exact List.getElem_mem _)
    rw [getD_eq_rd] at hx
    have hdrop : lv 256 (l.drop i) = rd l (i : Int) + 256 * lv 256 (l.drop (i + 1)) := by
      rw [List.drop_eq_getElem_cons hlt, ← getD_eq_rd, List.getD_eq_getElem?_getD, List.getElem?_eq_getElem hlt]
      rfl
    rw [hdrop] at hv
    have hr2 : InR 256 (o ++ [(c + rd l (i : Int)) % 256]) := InR_append.2 ⟨hr, InR_cons.2 ⟨⟨by omega, by omega⟩, InR_nil _⟩⟩
    have h := ih (i + 1) (o ++ [(c + rd l (i : Int)) % 256]) ((c + rd l (i : Int)) / 256) (by omega) (by omega) (by rw [List.length_append, List.length_singleton]; omega) hr2 (by omega) (by omega) (by
      rw [lv_snoc, hl, ← hv, Int.pow_succ]
      have e : c + rd l (i : Int) = (c + rd l (i : Int)) / 256 * 256 + (c + rd l (i : Int)) % 256 := by omega
      generalize (c + rd l (i : Int)) / 256 = q at *
      generalize (c + rd l (i : Int)) % 256 = r at *
      generalize (256 : Int) ^ i = p
      generalize lv 256 (l.drop (i + 1)) = t
      grind)
    have g1 : (i : Int) < (l.length : Int) := by omega
    have g2 : o.length < 140737488355328 := by omega
    have g3 : (c + rd l (i : Int)) % 256 % 256 = (c + rd l (i : Int)) % 256 := by omega
    have g4 : 0 ≤ c + rd l (i : Int) := by omega
    have w0 : wrap64 (c + rd l (i : Int)) = c + rd l (i : Int) := wrap64_id (by omega) (by omega)
    have w1 : wrap64 ((c + rd l (i : Int)) / 256) = (c + rd l (i : Int)) / 256 := wrap64_id (by clear w0; omega) (by clear w0; omega)
    have w2 : wrap64 ((i : Int) + 1) = ((i + 1 : Nat) : Int) := by rw [wrap64_id (by clear w0 w1; omega) (by clear w0 w1; omega)]; rfl
    refine Ev.step (f := fun k => gantref1_number.j1 k l o c (i : Int) true) (fun k => ?_) (Ev.step (fun k => ?_) h)
    · simp only [gantref1_number.l0]
      rw [if_pos g1]
    · simp only [gantref1_number.j1]
      rw [if_pos trivial, if_pos g1, if_pos (Int.natCast_nonneg _), if_pos g2, w0, tmod_nn g4, tdiv_nn g4, g3, w1, w2]
theorem number_spec (l : List Int) (hs : l.length ≤ 140737488355300) (hb : ∀ x ∈ l, 0 ≤ x ∧ x ≤ 4611686018427387904) : Ev (fun k => gantref1_number.f k l) (B (lv 256 l).toNat) :=
  number_l0 l hs hb l.length 0 [] 0 (by omega) (by omega) rfl (InR_nil _) (by omega) (by omega) (by simp [lv])

/-! ### Small -/
theorem small_l0 (m : Nat) (hm : m ≤ 100) : ∀ (j : Nat) (n : Int) (o : List Int), j ≤ m → 0 ≤ n → n < 256 ^ j → n < 9223372036854775808 → o.length = m - j → InR 256 o →
    Ev (fun k => gantref1_Small.l0 k n o) (B (lv 256 o + n * 256 ^ (m - j)).toNat) := by
  intro j
  have fin : ∀ (j : Nat) (o : List Int), j ≤ m → o.length = m - j → InR 256 o → Ev (fun k => gantref1_Small.l0 k 0 o) (B (lv 256 o + 0 * 256 ^ (m - j)).toNat) := by
    intro j o hj hl hr
    have h := number_spec o (by omega) (fun x hx => by have := hr x hx; omega)
    rw [show lv 256 o + 0 * 256 ^ (m - j) = lv 256 o by simp]
    refine Ev.step (f := fun k => (gantref1_number.f k o).bind fun t => some t) (fun k => ?_) (Ev.bind (f := fun _ t => some t) h (Ev.now _))
    simp only [gantref1_Small.l0]
    rw [if_neg (by omega)]
  induction j with
  | zero =>
    intro n o hj h0 h1 _ hl hr
    have : n = 0 := by simp at h1; omega
    subst this
    exact fin 0 o hj hl hr
  | succ j ih =>
    intro n o hj h0 h1 h2 hl hr
    by_cases hz : n > 0
    · have hd : n / 256 < 256 ^ j := by
        rw [Int.pow_succ] at h1
        exact Int.ediv_lt_of_lt_mul (by decide) h1
      have hr2 : InR 256 (o ++ [n % 256]) := InR_append.2 ⟨hr, InR_cons.2 ⟨⟨by omega, by omega⟩, InR_nil _⟩⟩
      have h := ih (n / 256) (o ++ [n % 256]) (by omega) (by omega) hd (by omega) (by rw [List.length_append, List.length_singleton]; omega) hr2
      have hv : lv 256 (o ++ [n % 256]) + n / 256 * 256 ^ (m - j) = lv 256 o + n * 256 ^ (m - (j + 1)) := by
        rw [lv_snoc, hl, show m - j = m - (j + 1) + 1 by omega, Int.pow_succ]
        have e : n = n / 256 * 256 + n % 256 := by omega
        generalize n / 256 = q at *
        generalize n % 256 = r at *
        subst e
        generalize (256 : Int) ^ (m - (j + 1)) = p
        grind
      rw [hv] at h
      have g2 : o.length < 17592186044416 := by omega
      have w1 : wrap64 (n / 256) = n / 256 := wrap64_id (by omega) (by omega)
      refine Ev.step (fun k => ?_) h
      simp only [gantref1_Small.l0]
      rw [if_pos hz, if_pos g2, tmod_nn h0, tdiv_nn h0, w1]
    · have : n = 0 := by omega
      subst this
      exact fin (j + 1) o hj hl hr
theorem small_spec (n : Int) (h0 : 0 ≤ n) (h : n < 9223372036854775808) : Ev (fun k => gantref1_Small.f k n) (B n.toNat) := by
  have := small_l0 8 (by decide) 8 n [] (by omega) h0 (Int.lt_of_lt_of_le h (by decide)) h rfl (InR_nil _)
  rw [show lv 256 [] + n * 256 ^ (8 - 8) = n by simp [lv]] at this
  exact this

/-! ### the law NatInts -/
theorem B_max : (⟨#[127, 255, 255, 255, 255, 255, 255, 255]⟩ : ByteArray) = B 9223372036854775807 := by
  rw [← B_V (a := ⟨#[127, 255, 255, 255, 255, 255, 255, 255]⟩)]
  · rfl
  · intro c hc
    simp at hc
    subst hc
    decide
theorem bytesOf_256 : bytesOf 256 = [1, 0] := by
  have h : Lead [1, 0] := by
    intro c hc
    simp at hc
    subst hc
    decide
  have := bytesOf_be h
  exact this
theorem natInts (a0 : Int) (a1 : ByteArray) (h0 : -9223372036854775808 ≤ a0) (h1 : a0 < 9223372036854775808) (h2 : a1.size ≤ 140737488351232) : Ev (fun k => gantlaw1_NatInts.f k a0 a1) true := by
  have o256 := of_spec 256 (by decide)
  have hj : ∀ t : ByteArray, t = B a0.toNat → Ev (fun k => gantlaw1_NatInts.j0 k a0 a1 t) true := by
    intro t ht
    subst ht
    have hi := int_spec a1
    have hc := compare_spec a1 ⟨#[127, 255, 255, 255, 255, 255, 255, 255]⟩ h2 (by decide)
    rw [B_max, V_B, ← B_max] at hc
    have ho := of_spec a0 h1
    refine Ev.succ ?_
    simp only [gantlaw1_NatInts.j0]
    refine Ev.bind hi ?_
    refine Ev.bind hc ?_
    by_cases hv : V a1 ≤ 9223372036854775807
    · rw [if_pos hv]
      have hcn : ¬ cmpN (V a1) 9223372036854775807 > 0 := by unfold cmpN; (repeat' split) <;> omega
      have hnn : ((V a1 : Int)) ≥ 0 := Int.natCast_nonneg _
      simp only [if_neg hcn, ho, Option.bind_some, if_pos trivial, if_pos hnn, bare_spec, ge_iff_le]
      refine Ev.bind (small_spec (V a1 : Int) (by omega) (by omega)) ?_
      rw [Int.toNat_natCast]
      simp only [BEq.rfl]
      exact Ev.now _
    · rw [if_neg hv]
      have hcn : cmpN (V a1) 9223372036854775807 > 0 := by unfold cmpN; (repeat' split) <;> omega
      simp only [if_pos hcn, ho, Option.bind_some, if_pos trivial]
      exact Ev.ofEq rfl
  have e256 : (B (256 : Int).toNat).toList = ([1, 0] : List UInt8) := by rw [toList_B]; exact bytesOf_256
  unfold gantlaw1_NatInts.f
  rw [o256]
  simp only [Option.bind_some, if_pos e256]
  by_cases hp : a0 > 0
  · simp only [if_pos hp]
    exact Ev.bind (small_spec a0 (by omega) h1) (hj _ rfl)
  · simp only [if_neg hp]
    exact hj _ (by rw [show a0.toNat = 0 by omega, B_zero])
end Go.Proofs.YtgpbkoajifbcfaaDoor.SB
