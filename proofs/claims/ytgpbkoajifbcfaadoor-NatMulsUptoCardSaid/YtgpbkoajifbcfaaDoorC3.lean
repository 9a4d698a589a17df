-- printed by pp.py (wip/), a program of this work, by way of the kit's print; Lean checks it
import Derived.Test.YtgpbkoajifbcfaaDoorC0
import Derived.Test.YtgpbkoajifbcfaaDoorC1
import Derived.Test.YtgpbkoajifbcfaaDoorC2
import Derived.Test.YtgpbkoajifbcfaaDoorZ
namespace Go.Proofs.YtgpbkoajifbcfaaDoor.C
open Go.RowKit Go.Proofs.YtgpbkoajifbcfaaDoor.Z Go.Proofs.YtgpbkoajifbcfaaDoor.A Go.Proofs.YtgpbkoajifbcfaaDoor.H Go.Proofs.YtgpbkoajifbcfaaDoor.B Go.Proofs.YtgpbkoajifbcfaaDoorW.PrintWords Go.Proofs.YtgpbkoajifbcfaaDoorW.PrintLast Go.Proofs.YtgpbkoajifbcfaaDoorW.PrintMore
attribute [local go_sem] max2_int min2_int max_two min_two max_three min_three max_four min_four   -- for this text's walks alone
set_option linter.unusedVariables false
set_option linter.unusedSimpArgs false
set_option maxHeartbeats 8000000
set_option maxRecDepth 100000
-- gantref1_Times
mutual
def gantref1_Times.l0 : Nat → ByteArray → ByteArray → List Int → Int → Int → Option (ByteArray)
 | 0, _, _, _, _, _ => none
 | k + 1, x0, x1, x5, x15, x16 => if x16 < x15 then (gantref1_Times.l1 k x0 x1 x5 x16 0 x15 x16) else ((gantref1_number.f k x5).bind fun t211 => (some t211))
def gantref1_Times.l1 : Nat → ByteArray → ByteArray → List Int → Int → Int → Int → Int → Option (ByteArray)
 | 0, _, _, _, _, _, _, _ => none
 | k + 1, x0, x1, x5, x6, x7, x15, x16 => if x7 ≤ x6 then (if 0 ≤ x6 then (if x6 < (x5.length : Int) then ((gantref1_digit.f x0 x7).bind fun t213 => ((gantref1_digit.f x1 (wrap64 (x6 - x7))).bind fun t214 => (gantref1_Times.l1 k x0 x1 (x5.set (x6 : Int).toNat (wrap64 ((rd x5 x6) + (wrap64 (t213 * t214))))) x6 (wrap64 (x7 + 1)) x15 x16))) else (none)) else (none)) else (gantref1_Times.l0 k x0 x1 x5 x15 (wrap64 (x16 + 1)))
end
def gantref1_Times.f (k : Nat) (a0 : ByteArray) (a1 : ByteArray) : Option (ByteArray) := if 0 ≤ (wrap64 ((a0.size : Int) + (a1.size : Int))) then (if (wrap64 ((a0.size : Int) + (a1.size : Int)) : Int).toNat ≤ 35184372088832 then ((some (List.replicate (wrap64 ((a0.size : Int) + (a1.size : Int)) : Int).toNat 0 : List Int)).bind fun y208 => (gantref1_Times.l0 k a0 a1 y208 (y208.length : Int) 0)) else (none)) else (none)
theorem gantref1_Times.mono_l : ∀ k, (∀ y0 y1 y2 y3 y4, LeO (gantref1_Times.l0 k y0 y1 y2 y3 y4) (gantref1_Times.l0 (k + 1) y0 y1 y2 y3 y4)) ∧ (∀ y0 y1 y2 y3 y4 y5 y6, LeO (gantref1_Times.l1 k y0 y1 y2 y3 y4 y5 y6) (gantref1_Times.l1 (k + 1) y0 y1 y2 y3 y4 y5 y6))
 | 0 => ⟨fun _ _ _ _ _ r h => by simp [gantref1_Times.l0] at h, fun _ _ _ _ _ _ _ r h => by simp [gantref1_Times.l1] at h⟩
 | k + 1 => by
  obtain ⟨ih0, ih1⟩ := gantref1_Times.mono_l k
  refine ⟨?_, ?_⟩
  ·intro y0 y1 y2 y3 y4
   unfold gantref1_Times.l0
   repeat' first
   | (with_reducible exact ih0 _ _ _ _ _)
   | (with_reducible exact ih1 _ _ _ _ _ _ _)
   | (with_reducible exact gantref1_number.mono _ _)
   | (with_reducible exact LeO.refl _)
   | (with_reducible exact LeO.none _)
   | (with_reducible refine LeO.ite ?_ ?_)
   | (with_reducible refine LeO.bind ?_ (fun _ => ?_))
   | exact ih0 _ _ _ _ _
   | exact ih1 _ _ _ _ _ _ _
   | exact gantref1_number.mono _ _
   | exact LeO.none _
   | refine LeO.ite ?_ ?_
   | refine LeO.bind ?_ (fun _ => ?_)
  ·intro y0 y1 y2 y3 y4 y5 y6
   unfold gantref1_Times.l1
   repeat' first
   | (with_reducible exact ih0 _ _ _ _ _)
   | (with_reducible exact ih1 _ _ _ _ _ _ _)
   | (with_reducible exact gantref1_number.mono _ _)
   | (with_reducible exact LeO.refl _)
   | (with_reducible exact LeO.none _)
   | (with_reducible refine LeO.ite ?_ ?_)
   | (with_reducible refine LeO.bind ?_ (fun _ => ?_))
   | exact ih0 _ _ _ _ _
   | exact ih1 _ _ _ _ _ _ _
   | exact gantref1_number.mono _ _
   | exact LeO.none _
   | refine LeO.ite ?_ ?_
   | refine LeO.bind ?_ (fun _ => ?_)
theorem gantref1_Times.mono : ∀ a0 a1 k, LeO (gantref1_Times.f k a0 a1) (gantref1_Times.f (k + 1) a0 a1) := by
 intro a0 a1 k
 obtain ⟨ih0, ih1⟩ := gantref1_Times.mono_l k
 unfold gantref1_Times.f
 repeat' first
   | (with_reducible exact ih0 _ _ _ _ _)
   | (with_reducible exact ih1 _ _ _ _ _ _ _)
   | (with_reducible exact gantref1_number.mono _ _)
   | (with_reducible exact LeO.refl _)
   | (with_reducible exact LeO.none _)
   | (with_reducible refine LeO.ite ?_ ?_)
   | (with_reducible refine LeO.bind ?_ (fun _ => ?_))
   | exact ih0 _ _ _ _ _
   | exact ih1 _ _ _ _ _ _ _
   | exact gantref1_number.mono _ _
   | exact LeO.none _
   | refine LeO.ite ?_ ?_
   | refine LeO.bind ?_ (fun _ => ?_)
def gantref1_Times.T8 : Bool × List (List Nat × List Nat) := (true, [([], []), ([], []), ([0, 1], [0, 1]), ([2], [2]), ([], []), ([], []), ([4, 5], [4, 5]), ([], []), ([], []), ([], []), ([8, 9], [8, 9]), ([7, 10, 6], [7, 10]), ([6, 11], [6, 11]), ([3, 12], [3, 12]), ([0, 1, 0, 1, 2, 3, 4, 5, 6, 7, 8, 9, 10, 11, 12, 13], [0, 1]), ([14, 13, 11, 0, 1, 2, 3, 4, 5, 6, 7, 8, 9, 10, 11, 12, 13], [13, 14])])
def gantref1_Times.B8 : List Nat := [0, 0, 3, 7, 0, 0, 48, 0, 0, 0, 768, 2032, 4080, 8191, 16383, 32767]
theorem gantref1_Times.tab8 : rtab .any (opsOf Tryd.f30 8) = gantref1_Times.T8 := by kernel_rfl
theorem gantref1_Times.bits8 : waitsOk gantref1_Times.T8.2 gantref1_Times.B8 = true := by kernel_rfl
theorem gantref1_Times.calls (k : Nat) (a0 : ByteArray) (a1 : ByteArray) (r : ByteArray) (w : World) (h : gantref1_Times.f k a0 a1 = some r) :
  Calls Tryd.prog 30 #[.string a0, .string a1] w fun e w' => e = .returned (.string r) ∧ Below w.heap.size w w' := by
 have HB := Aside0.mk (Below.refl w.heap.size w)
 unfold gantref1_Times.f at h
 have H := h
 clear h
 generalize hji3 : (wrap64 ((a0.size : Int) + (a1.size : Int))) = ji3 at H
 have hji3w : (IntKind.i64.wrap ((a0.size : Int) + (a1.size : Int))) = ji3 := (i64_w _).trans hji3
 obtain ⟨c4b0, c4b1, H⟩ := zE H
 obtain ⟨c5b0, c5b1, H⟩ := zE H
 obtain ⟨y208, Ny208⟩ : ∃ y_ : List Int, Aside0 (y_ = (List.replicate (ji3 : Int).toNat 0)) := ⟨_, ⟨rfl⟩⟩
 replace H : (gantref1_Times.l0 k a0 a1 y208 (y208.length : Int) 0) = some r := zY Ny208 H
 have H' := Aside0.mk H
 clear H
 go_enter Tryd.func30, Tryd.ntmps30
 go_wp2_with (first | ((with_reducible refine gate_dst (N := 13) rfl ?_); refine Kd.R_make (Kd.int .i64) _ 3 rfl (N := 13) rfl 102 _ _ rfl ji3 rfl rfl Tryd.underlying102 (.int .i64 0) 8 info3 rfl (by decide) (by omega) 0 (ok := fun _ => True) (okp := fun _ => True) rfl zI trivial zD (Nat.le_trans (Nat.mul_le_mul_right _ (zD : ji3.toNat ≤ 35184372088832)) (by omega)) (Below.refl _ _) (Nat.le_refl _) ?_; intro v209 w6 ho7 hb hg_ hnew_; clear hg_ hnew_; (first | rw [← Ny208.out] at ho7 | (simp only [Int.reduceToNat] at ho7; rw [← Ny208.out] at ho7)); have HO210 := Aside0.mk (Kd.R_lower ho7 (below_size zB)); replace HB := zP hb; clear hb ho7; obtain ⟨Ao8, co8, eo8⟩ := Kd.R_slice HO210.out; subst eo8))
 go_loopg [16] k (fun kq v16 w' => ∃ (x5_1 : List Int) (x16_1 : Int), v16 = .int .i64 x16_1 ∧ Aside0 (gantref1_Times.l0 kq a0 a1 x5_1 (y208.length : Int) x16_1 = some r) ∧ Aside0 (kq ≤ k) ∧ Aside0 (Kd.R (Kd.int .i64) 3 w' w.heap.size (fun _ => True) (.slice Ao8 y208.length co8) x5_1) ∧ Aside0 (Below w.heap.size w w'))
 case atStart => exact ⟨(y208), (0), zS, H', ⟨Nat.le_refl _⟩, ⟨zO HO210⟩, ⟨zB⟩⟩
 case round =>
  clear H'
  try clear p2
  try clear c3
  try clear c4
  try clear c4b0
  try clear c4b1
  try clear c5
  try clear c5b0
  try clear c5b1
  try clear p6
  obtain ⟨x5_1, x16_1, rfl, HA, HK1, HO_5, HB⟩ := hrel
  have hl5_1 := (Kd.R_reads' HO_5.out).1
  rw [hl5_1] at HO_5
  (try simp only [hl5_1])
  cases gk with
  | zero => exact absurd HA.out (by simp [gantref1_Times.l0])
  | succ k1 =>
   have H := HA.out
   clear HA
   simp only [gantref1_Times.l0] at H
   by_cases c9 : x16_1 < (y208.length : Int)
   ·rw [if_pos c9] at H
    have c9b0 : decide (x16_1 < (y208.length : Int)) = true := decide_eq_true c9
    (try (have c9b0_0 := c9b0; simp only [hl5_1] at c9b0_0))
    clear c9
    have H' := Aside0.mk H
    clear H
    go_wp2
    go_loopg [7] k1 (fun kq v7 w' => ∃ (x5_2 : List Int) (x7_2 : Int), v7 = .int .i64 x7_2 ∧ Aside0 (gantref1_Times.l1 kq a0 a1 x5_2 x16_1 x7_2 (y208.length : Int) x16_1 = some r) ∧ Aside0 (kq ≤ k1) ∧ Aside0 (Kd.R (Kd.int .i64) 3 w' w.heap.size (fun _ => True) (.slice Ao8 x5_1.length co8) x5_2) ∧ Aside0 (Below w.heap.size w w'))
    case atStart => exact ⟨(x5_1), (0), zS, H', ⟨Nat.le_refl _⟩, ⟨by (try simp only [hl5_1]); (with_reducible repeat (first | apply Kd.R_alloc | apply Kd.R_drewN | apply Kd.R_drew)); exact HO_5.out⟩, ⟨zB⟩⟩
    case round =>
     clear H'
     try clear p2
     try clear c3
     try clear c4
     try clear c4b0
     try clear c4b1
     try clear c5
     try clear c5b0
     try clear c5b1
     try clear p6
     try clear c9
     try clear c9b0
     try clear p2
     try clear p6
     obtain ⟨x5_2, x7_2, rfl, HA, HK2, HO_5, HB⟩ := hrel
     have hl5_2 := (Kd.R_reads' HO_5.out).1
     rw [hl5_2] at HO_5
     (try simp only [hl5_2])
     cases gk with
     | zero => exact absurd HA.out (by simp [gantref1_Times.l1])
     | succ k2 =>
      have H := HA.out
      clear HA
      simp only [gantref1_Times.l1] at H
      by_cases c10 : x7_2 ≤ x16_1
      ·rw [if_pos c10] at H
       have c10b0 : decide (x7_2 ≤ x16_1) = true := decide_eq_true c10
       clear c10
       obtain ⟨c11b0, H⟩ := zF H
       obtain ⟨c12b0, H⟩ := zF H
       (try (have c12b0_0 := c12b0; simp only [hl5_1] at c12b0_0))
       (try (have c12b0_1 := c12b0; simp only [hl5_2] at c12b0_1))
       obtain ⟨t213, A13, H⟩ := zH H
       obtain ⟨t214, A14, H⟩ := zH H
       obtain ⟨y215, Ny215⟩ : ∃ y_ : List Int, Aside0 (y_ = (x5_2.set (x16_1 : Int).toNat (wrap64 ((rd x5_2 x16_1) + (wrap64 (t213 * t214)))))) := ⟨_, ⟨rfl⟩⟩
       replace H : (gantref1_Times.l1 k2 a0 a1 y215 x16_1 (wrap64 (x7_2 + 1)) (y208.length : Int) x16_1) = some r := zY Ny215 H
       have H' := Aside0.mk H
       clear H
       try go_wp2
       have n0_ := Aside0.mk (Kd.R_drew HO_5.out)
       have n1_ := Aside0.mk (below_drew1 HB.out)
       clear HO_5
       clear HB
       have HO_5 := n0_
       have HB := n1_
       clear n0_ n1_
       have p212 : 0 ≤ (x16_1 : Int) := zD
       have q212 : x16_1 < (x5_2.length : Int) := zD
       obtain ⟨ad212, e212, hx212_0⟩ := Kd.at_int (Kd.R_reads' HO_5.out).2.2 x16_1 p212 q212
       cases e212
       replace p212 := eq_true p212
       replace q212 := eq_true q212
       refine start_ (n := 16) (S := fun w' => w'.cell? (ad212.add (x16_1).toNat) = some (.int .i64 (rd x5_2 x16_1))) (ds := [15]) #[false, false, false, false, false, false, false, false, false, false, false, false, false, false, false, false] (by kernel_rfl) rfl rfl (hx212_0) (fun hHeld => ?_); refine with_tabW gantref1_Times.tab8 gantref1_Times.bits8 (fun HT_ HW_ => ?_)
       generalize wr.drew = w16 at HO_5 HB hx212_0 hHeld ⊢
       refine pure_ (i := 0) (N := some 24) (v := ?_) (a' := ?_) #[true, false, false, false, false, false, false, false, false, false, false, false, false, false, false, false] rfl rfl (any_of HT_.out (by kernel_rfl)) (fun _ _ _ h => h) (Or.inl ⟨by rfl, ?_⟩) ?_ ?_
       rotate_left
       ·intro w'
        go_simp
        with_reducible rfl
       rotate_left
       ·simp only [Act.put, List.setIfInBounds_toArray, List.set_cons_zero, List.set_cons_succ, i64_w, i32_w]
        rfl
       refine pure_ (i := 1) (N := some 25) (v := ?_) (a' := ?_) #[true, true, false, false, false, false, false, false, false, false, false, false, false, false, false, false] rfl rfl (any_of HT_.out (by kernel_rfl)) (fun _ _ _ h => h) (Or.inl ⟨by rfl, ?_⟩) ?_ ?_
       rotate_left
       ·intro w'
        go_simp
        with_reducible rfl
       rotate_left
       ·simp only [Act.put, List.setIfInBounds_toArray, List.set_cons_zero, List.set_cons_succ, i64_w, i32_w]
        rfl
       refine pure_ (i := 2) (N := some 26) (v := ?_) (a' := ?_) #[true, true, true, false, false, false, false, false, false, false, false, false, false, false, false, false] rfl rfl (any_of HT_.out (by kernel_rfl)) (fun _ _ _ h => h) (Or.inl ⟨by rfl, ?_⟩) ?_ ?_
       rotate_left
       ·intro w'
        go_simp
        with_reducible rfl
       rotate_left
       ·simp only [Act.put, List.setIfInBounds_toArray, List.set_cons_zero, List.set_cons_succ, i64_w, i32_w]
        rfl
       refine pure_ (i := 4) (N := some 28) (v := ?_) (a' := ?_) #[true, true, true, false, true, false, false, false, false, false, false, false, false, false, false, false] rfl rfl (any_of HT_.out (by kernel_rfl)) (fun _ _ _ h => h) (Or.inl ⟨by rfl, ?_⟩) ?_ ?_
       rotate_left
       ·intro w'
        go_simp
        with_reducible rfl
       rotate_left
       ·simp only [Act.put, List.setIfInBounds_toArray, List.set_cons_zero, List.set_cons_succ, i64_w, i32_w]
        rfl
       refine pure_ (i := 5) (N := some 29) (v := ?_) (a' := ?_) #[true, true, true, false, true, true, false, false, false, false, false, false, false, false, false, false] rfl rfl (any_of HT_.out (by kernel_rfl)) (fun _ _ _ h => h) (Or.inl ⟨by rfl, ?_⟩) ?_ ?_
       rotate_left
       ·intro w'
        go_simp
        with_reducible rfl
       rotate_left
       ·simp only [Act.put, List.setIfInBounds_toArray, List.set_cons_zero, List.set_cons_succ, i64_w, i32_w]
        rfl
       refine pure_ (i := 7) (N := some 31) (v := ?_) (a' := ?_) #[true, true, true, false, true, true, false, true, false, false, false, false, false, false, false, false] rfl rfl (any_of HT_.out (by kernel_rfl)) (fun _ _ _ h => h) (Or.inl ⟨by rfl, ?_⟩) ?_ ?_
       rotate_left
       ·intro w'
        go_simp
        with_reducible rfl
       rotate_left
       ·simp only [Act.put, List.setIfInBounds_toArray, List.set_cons_zero, List.set_cons_succ, i64_w, i32_w]
        rfl
       refine pure_ (i := 8) (N := some 32) (v := ?_) (a' := ?_) #[true, true, true, false, true, true, false, true, true, false, false, false, false, false, false, false] rfl rfl (any_of HT_.out (by kernel_rfl)) (fun _ _ _ h => h) (Or.inl ⟨by rfl, ?_⟩) ?_ ?_
       rotate_left
       ·intro w'
        go_simp
        with_reducible rfl
       rotate_left
       ·simp only [Act.put, List.setIfInBounds_toArray, List.set_cons_zero, List.set_cons_succ, i64_w, i32_w]
        rfl
       refine pure_ (i := 9) (N := some 33) (v := ?_) (a' := ?_) #[true, true, true, false, true, true, false, true, true, true, false, false, false, false, false, false] rfl rfl (any_of HT_.out (by kernel_rfl)) (fun _ _ _ h => h) (Or.inl ⟨by rfl, ?_⟩) ?_ ?_
       rotate_left
       ·intro w'
        go_simp
        with_reducible rfl
       rotate_left
       ·simp only [Act.put, List.setIfInBounds_toArray, List.set_cons_zero, List.set_cons_succ, i64_w, i32_w]
        rfl
       refine pure_ (i := 10) (N := some 34) (v := ?_) (a' := ?_) #[true, true, true, false, true, true, false, true, true, true, true, false, false, false, false, false] rfl rfl (any_of HT_.out (by kernel_rfl)) (fun _ _ _ h => h) (Or.inl ⟨by rfl, ?_⟩) ?_ ?_
       rotate_left
       ·intro w'
        go_simp
        with_reducible rfl
       rotate_left
       ·simp only [Act.put, List.setIfInBounds_toArray, List.set_cons_zero, List.set_cons_succ, i64_w, i32_w]
        rfl
       refine take_ (i := 3) (N := some 27) (v := ?_) (a' := ?_) #[true, true, true, true, true, true, false, true, true, true, true, false, false, false, false, false] rfl rfl (take_ofW HT_.out HW_.out (by kernel_rfl)) (fun _ _ _ h => h) (Or.inl ⟨by rfl, ?_⟩) hHeld ?_ ?_
       rotate_left
       ·intro w' s0
        go_simp
        with_reducible rfl
       rotate_left
       ·simp only [Act.put, List.setIfInBounds_toArray, List.set_cons_zero, List.set_cons_succ, i64_w, i32_w]
        rfl
       refine one_ (i := 6) (N := some 30) #[true, true, true, true, true, true, true, true, true, true, true, false, false, false, false, false] rfl rfl (one_of HT_.out (by kernel_rfl)) (by decide) (fun K hK => ?_)
       refine goes_ Tryd.func75 (by kernel_rfl) rfl #[.string a0, .int .i64 x7_2] (by rfl) rfl rfl (by (try simp only [List.map_toArray, List.map_cons, List.map_nil]); first | done | rfl | (simp only [List.length_drop, List.length_take]; rfl)) ?_
       with_reducible refine (gantref1_digit.calls a0 x7_2 t213 _ A13.out).mono ?_
       rintro e w' ⟨rfl, ⟨nd, rfl⟩⟩
       refine ⟨_, rfl, ?_⟩
       refine hK.out _ _ (hHeld) (fun hHeld => ?_)
       clear hK K
       refine norm_ (a' := ?_) ?_ ?_
       rotate_left
       ·show Act.put _ (some 30) _ = _
        simp only [Act.put, List.setIfInBounds_toArray, List.set_cons_zero, List.set_cons_succ, i64_w, i32_w]
        rfl
       refine one_ (i := 11) (N := some 35) #[true, true, true, true, true, true, true, true, true, true, true, true, false, false, false, false] rfl rfl (one_of HT_.out (by kernel_rfl)) (by decide) (fun K hK => ?_)
       refine goes_ Tryd.func75 (by kernel_rfl) rfl #[.string a1, .int .i64 (wrap64 (x16_1 - x7_2))] (by rfl) rfl rfl (by (try simp only [List.map_toArray, List.map_cons, List.map_nil]); first | done | rfl | (simp only [List.length_drop, List.length_take]; rfl)) ?_
       with_reducible refine (gantref1_digit.calls a1 (wrap64 (x16_1 - x7_2)) t214 _ A14.out).mono ?_
       rintro e w' ⟨rfl, ⟨nd, rfl⟩⟩
       refine ⟨_, rfl, ?_⟩
       have p15 : 0 ≤ (x16_1 : Int) := zD
       have q15 : (x16_1 : Int) < ((x5_2.length : Int) : Int) := zD
       obtain ⟨go15, co15, eo15, gb15, gl15, cl15, HG15⟩ := Kd.R_form HO_5.out (by omega)
       (first | cases eo15 | (injection eo15 with ea_ en_ ec_; (first | subst ea_ | (injection ea_ with ea_; subst ea_)); subst ec_; clear en_))
       have GB15 := Aside0.mk gb15
       have GG15 := Aside0.mk HG15
       clear gb15 gl15 HG15
       (first | simp only [add_plain] at hx212_0 | skip)
       obtain ⟨hx15_0, hf15_0⟩ := Kd.R_celln 0 HO_5.out (x16_1 : Int) p15 q15
       replace p15 := eq_true p15
       replace q15 := eq_true q15
       have HP17 := Kd.R_putn HO_5.out (x16_1 : Int) (wrap64 ((rd x5_2 x16_1) + (wrap64 (t213 * t214))))
       rw [← Ny215.out] at HP17
       have HQ17 := Aside0.mk HP17
       clear HP17
       refine hK.out _ _ (hHeld) (fun hHeld => ?_)
       clear hK K
       refine norm_ (a' := ?_) ?_ ?_
       rotate_left
       ·show Act.put _ (some 35) _ = _
        simp only [Act.put, List.setIfInBounds_toArray, List.set_cons_zero, List.set_cons_succ, i64_w, i32_w]
        rfl
       refine pure_ (i := 12) (N := some 36) (v := ?_) (a' := ?_) #[true, true, true, true, true, true, true, true, true, true, true, true, true, false, false, false] rfl rfl (any_of HT_.out (by kernel_rfl)) (fun _ _ _ h => h) (Or.inl ⟨by rfl, ?_⟩) ?_ ?_
       rotate_left
       ·intro w'
        go_simp
        with_reducible rfl
       rotate_left
       ·simp only [Act.put, List.setIfInBounds_toArray, List.set_cons_zero, List.set_cons_succ, i64_w, i32_w]
        rfl
       refine pure_ (i := 13) (N := some 37) (v := ?_) (a' := ?_) #[true, true, true, true, true, true, true, true, true, true, true, true, true, true, false, false] rfl rfl (any_of HT_.out (by kernel_rfl)) (fun _ _ _ h => h) (Or.inl ⟨by rfl, ?_⟩) ?_ ?_
       rotate_left
       ·intro w'
        go_simp
        with_reducible rfl
       rotate_left
       ·simp only [Act.put, List.setIfInBounds_toArray, List.set_cons_zero, List.set_cons_succ, i64_w, i32_w]
        rfl
       refine pure_ (i := 14) (N := some 38) (v := ?_) (a' := ?_) #[true, true, true, true, true, true, true, true, true, true, true, true, true, true, true, false] rfl rfl (any_of HT_.out (by kernel_rfl)) (fun _ _ _ h => h) (Or.inl ⟨by rfl, ?_⟩) ?_ ?_
       rotate_left
       ·intro w'
        go_simp
        with_reducible rfl
       rotate_left
       ·simp only [Act.put, List.setIfInBounds_toArray, List.set_cons_zero, List.set_cons_succ, i64_w, i32_w]
        rfl
       refine last_ (i := 15) (N := none) #[true, true, true, true, true, true, true, true, true, true, true, true, true, true, true, true] rfl rfl (one_of HT_.out (by kernel_rfl)) (by decide) (fun K hK => ?_)
       refine skip_ (w1 := ?_) (by rfl) rfl ?_ ?_
       rotate_left
       ·go_simp
        rfl
       refine hK.out _ _ ?_
       clear hK K
       refine done_ (done_of HT_.out (by kernel_rfl)) ?_
       try go_wp2
       (try simp only [← hl5_2])
       go_roundg k2
       case measure => have := HK1.out; have := HK2.out; omega
       case rel => exact ⟨(y215), (wrap64 (x7_2 + 1)), zS, H', ⟨by have := HK1.out; have := HK2.out; omega⟩, ⟨by (try simp only [hl5_1]); (try simp only [hl5_2]); (with_reducible repeat (first | apply Kd.R_alloc | apply Kd.R_drewN | apply Kd.R_drew)); exact HQ17.out⟩, ⟨by repeat (first | (with_reducible first | exact HB.out | apply below_alloc | apply pw_below_drewN | apply below_drew1 | refine below_set ?_ GB15.out) | exact HB.out)⟩⟩
      ·rw [if_neg c10] at H
       have c10b0 : decide (x7_2 ≤ x16_1) = false := decide_eq_false c10
       clear c10
       have H' := Aside0.mk H
       clear H
       go_wp2
       (try simp only [← hl5_1, ← hl5_2])
       go_roundg k2
       case measure => have := HK1.out; have := HK2.out; omega
       case rel => exact ⟨(x5_2), (wrap64 (x16_1 + 1)), zS, H', ⟨by have := HK1.out; have := HK2.out; omega⟩, ⟨by (try simp only [hl5_1]); (try simp only [hl5_2]); (with_reducible repeat (first | apply Kd.R_alloc | apply Kd.R_drewN | apply Kd.R_drew)); exact HO_5.out⟩, ⟨zB⟩⟩
   ·rw [if_neg c9] at H
    have c9b0 : decide (x16_1 < (y208.length : Int)) = false := decide_eq_false c9
    (try (have c9b0_0 := c9b0; simp only [hl5_1] at c9b0_0))
    (try (have c9b0_1 := c9b0; simp only [hl5_2] at c9b0_1))
    clear c9
    obtain ⟨t211, A18, H⟩ := zH H
    obtain rfl := Option.some.inj H
    go_wp2_with (first | ((with_reducible refine zG 72 ?_); refine zL 41 Tryd.func72 #[.slice Ao8 x5_1.length co8] ?_; (with_reducible refine (gantref1_number.calls k1 _ _ x5_1 t211 _ ?side1 ?side2 A18.out).mono ?_); (case side1 => exact zC HO_5); (case side2 => exact (Kd.R_reads' HO_5.out).2.1); rintro e w19 ⟨rfl, hb⟩; refine ⟨_, rfl, ?_⟩; replace HO_5 := Aside0.mk (Kd.R_below (zO HO_5) hb); replace HB := zP hb; (try clear hb)))
    go_ret
    exact ⟨zQ hji3, zB⟩
-- gantlaw1_NatMuls
mutual
def gantlaw1_NatMuls.j0 : Nat → ByteArray → ByteArray → Bool → Option (Bool)
 | 0, _, _, _ => none
 | k + 1, x0, x1, x31 => if x31 = true then (some false) else ((nat_Mul.f k x0 x1).bind fun t221 => ((gantref1_Times.f k x0 x1).bind fun t222 => (some (t221.toList == t222.toList))))
def gantlaw1_NatMuls.j1 : Nat → ByteArray → ByteArray → Bool → Option (Bool)
 | 0, _, _, _ => none
 | k + 1, x0, x1, x49 => if x49 = true then (some false) else ((nat_Mul.f k x0 x1).bind fun t225 => ((gantref1_Times.f k x0 x1).bind fun t226 => (some (t225.toList == t226.toList))))
end
def gantlaw1_NatMuls.f (k : Nat) (a0 : ByteArray) (a1 : ByteArray) : Option (Bool) := (nat_Mul.f k (⟨#[2]⟩ : ByteArray) (⟨#[2]⟩ : ByteArray)).bind fun t216 => (if t216.toList = ([4] : List UInt8) then ((nat_Div.f k a0 a1).bind fun bt217 => ((gantref1_Bare.f a1).bind fun t220 => (if t220.toList = ([] : List UInt8) then (if bt217.1.toList = ([] : List UInt8) then (if bt217.2.1.toList = ([] : List UInt8) then (gantlaw1_NatMuls.j0 k a0 a1 (bt217.2.2 != 12)) else (gantlaw1_NatMuls.j0 k a0 a1 true)) else (gantlaw1_NatMuls.j0 k a0 a1 true)) else ((gantref1_Share.f k a0 a1).bind fun bt223 => (if bt217.2.2 = 0 then (if bt217.1.toList = bt223.1.toList then (gantlaw1_NatMuls.j1 k a0 a1 (bt217.2.1.toList != bt223.2.toList)) else (gantlaw1_NatMuls.j1 k a0 a1 true)) else (gantlaw1_NatMuls.j1 k a0 a1 true)))))) else (some false))
theorem gantlaw1_NatMuls.mono_l : ∀ k, (∀ y0 y1 y2, LeO (gantlaw1_NatMuls.j0 k y0 y1 y2) (gantlaw1_NatMuls.j0 (k + 1) y0 y1 y2)) ∧ (∀ y0 y1 y2, LeO (gantlaw1_NatMuls.j1 k y0 y1 y2) (gantlaw1_NatMuls.j1 (k + 1) y0 y1 y2))
 | 0 => ⟨fun _ _ _ r h => by simp [gantlaw1_NatMuls.j0] at h, fun _ _ _ r h => by simp [gantlaw1_NatMuls.j1] at h⟩
 | k + 1 => by
  obtain ⟨ih0, ih1⟩ := gantlaw1_NatMuls.mono_l k
  refine ⟨?_, ?_⟩
  ·intro y0 y1 y2
   unfold gantlaw1_NatMuls.j0
   have m0 := @gantref1_Share.mono
   have m1 := @gantref1_Times.mono
   have m2 := @nat_Div.mono
   have m3 := @nat_Mul.mono
   exact zM
  ·intro y0 y1 y2
   unfold gantlaw1_NatMuls.j1
   have m0 := @gantref1_Share.mono
   have m1 := @gantref1_Times.mono
   have m2 := @nat_Div.mono
   have m3 := @nat_Mul.mono
   exact zM
theorem gantlaw1_NatMuls.mono : ∀ a0 a1 k, LeO (gantlaw1_NatMuls.f k a0 a1) (gantlaw1_NatMuls.f (k + 1) a0 a1) := by
 intro a0 a1 k
 obtain ⟨ih0, ih1⟩ := gantlaw1_NatMuls.mono_l k
 unfold gantlaw1_NatMuls.f
 have m0 := @gantref1_Share.mono
 have m1 := @gantref1_Times.mono
 have m2 := @nat_Div.mono
 have m3 := @nat_Mul.mono
 exact zM
theorem gantlaw1_NatMuls.calls (k : Nat) (a0 : ByteArray) (a1 : ByteArray) (r : Bool) (w : World) (h : gantlaw1_NatMuls.f k a0 a1 = some r) :
  Calls Tryd.prog 6 #[.string a0, .string a1] w fun e w' => e = .returned (.bool r) ∧ Below w.heap.size w w' := by
 have HB := Aside0.mk (Below.refl w.heap.size w)
 unfold gantlaw1_NatMuls.f at h
 have H := h
 clear h
 obtain ⟨t216, A3, H⟩ := zH H
 by_cases c4 : t216.toList = ([4] : List UInt8)
 ·rw [if_pos c4] at H
  have c4b0 : (t216.toList == ([4] : List UInt8)) = true := beq_iff_eq.mpr c4
  have c4b1 : (t216.toList != ([4] : List UInt8)) = false := bne_eq_false_iff_eq.mpr c4
  clear c4
  obtain ⟨⟨t217, t218, t219⟩, A5, H⟩ := zH H
  obtain ⟨t220, A6, H⟩ := zH H
  by_cases c7 : t220.toList = ([] : List UInt8)
  ·rw [if_pos c7] at H
   have c7b0 : (t220.toList == ([] : List UInt8)) = true := beq_iff_eq.mpr c7
   have c7b1 : (t220.toList != ([] : List UInt8)) = false := bne_eq_false_iff_eq.mpr c7
   clear c7
   have HC8 := Aside0.mk H
   clear H
   go_enter Tryd.func6, Tryd.ntmps6
   go_upto_region 5 with (first | ((with_reducible refine zG 27 ?_); refine zL 10 Tryd.func27 #[.string (⟨#[2]⟩ : ByteArray), .string (⟨#[2]⟩ : ByteArray)] ?_; (with_reducible refine (nat_Mul.calls k (⟨#[2]⟩ : ByteArray) (⟨#[2]⟩ : ByteArray) t216 _ A3.out).mono ?_); rintro e w9 ⟨rfl, hb⟩; refine ⟨_, rfl, ?_⟩; replace HB := zP hb; (try clear hb)) | ((with_reducible refine zG 28 ?_); refine zL 15 Tryd.func28 #[.string a0, .string a1] ?_; (with_reducible refine (nat_Div.calls k a0 a1 t217 t218 t219 _ A5.out).mono ?_); rintro e w10 ⟨rfl, hb⟩; refine ⟨_, rfl, ?_⟩; replace HB := zP hb; (try clear hb)) | ((with_reducible refine zG 17 ?_); refine zL 20 Tryd.func17 #[.string a1] ?_; (with_reducible refine (gantref1_Bare.calls a1 t220 _ A6.out).mono ?_); rintro e w' ⟨rfl, ⟨nd, rfl⟩⟩; refine ⟨_, rfl, ?_⟩))
   (try simp only [Act.put, List.setIfInBounds_toArray, List.set_cons_zero, List.set_cons_succ])
   go_cut [31] (fun v31 wc => ∃ (kq : Nat) (x31_7 : Bool), v31 = .bool x31_7 ∧ Aside0 (gantlaw1_NatMuls.j0 kq a0 a1 x31_7 = some r) ∧ Aside0 (kq ≤ k) ∧ Aside0 (Below w.heap.size w wc))
   case first =>
    have H := HC8.out
    clear HC8
    by_cases c11 : t217.toList = ([] : List UInt8)
    ·rw [if_pos c11] at H
     have c11b0 : (t217.toList == ([] : List UInt8)) = true := beq_iff_eq.mpr c11
     have c11b1 : (t217.toList != ([] : List UInt8)) = false := bne_eq_false_iff_eq.mpr c11
     clear c11
     (first | rw [c11b0] | rw [c11b1] | (simp only [i64_w, i32_w]; rw [c11b0]) | skip)
     by_cases c12 : t218.toList = ([] : List UInt8)
     ·rw [if_pos c12] at H
      have c12b0 : (t218.toList == ([] : List UInt8)) = true := beq_iff_eq.mpr c12
      have c12b1 : (t218.toList != ([] : List UInt8)) = false := bne_eq_false_iff_eq.mpr c12
      clear c12
      have H' := Aside0.mk H
      clear H
      go_wp2
      go_meet
      case rel => exact ⟨_, ((t219 != 12)), zS, H', ⟨by first | omega | exact Nat.le_refl _⟩, ⟨zB⟩⟩
     ·rw [if_neg c12] at H
      have c12b0 : (t218.toList == ([] : List UInt8)) = false := beq_eq_false_iff_ne.mpr c12
      have c12b1 : (t218.toList != ([] : List UInt8)) = true := bne_iff_ne.mpr c12
      have H' := Aside0.mk H
      clear H
      go_wp2
      go_meet
      case rel => exact ⟨_, (true), zS, H', ⟨by first | omega | exact Nat.le_refl _⟩, ⟨zB⟩⟩
    ·rw [if_neg c11] at H
     have c11b0 : (t217.toList == ([] : List UInt8)) = false := beq_eq_false_iff_ne.mpr c11
     have c11b1 : (t217.toList != ([] : List UInt8)) = true := bne_iff_ne.mpr c11
     (first | rw [c11b0] | rw [c11b1] | (simp only [i64_w, i32_w]; rw [c11b0]) | skip)
     have H' := Aside0.mk H
     clear H
     go_wp2
     go_meet
     case rel => exact ⟨_, (true), zS, H', ⟨by first | omega | exact Nat.le_refl _⟩, ⟨zB⟩⟩
   case rest =>
    clear HC8
    try clear c1
    try clear c2
    try clear p2
    try clear c4
    try clear c4b0
    try clear c4b1
    try clear c6
    try clear c7
    try clear c7b0
    try clear c7b1
    try clear c11
    try clear c11b0
    try clear c11b1
    try clear c12
    try clear c12b0
    try clear c12b1
    obtain ⟨kq, x31_7, rfl, HA, HJ7, HB⟩ := hcut
    cases kq with
    | zero => exact absurd HA.out (by simp [gantlaw1_NatMuls.j0])
    | succ kj7 =>
     have H := HA.out
     clear HA
     simp only [gantlaw1_NatMuls.j0] at H
     by_cases c13 : x31_7 = true
     ·subst c13
      have H1 : (some false) = some r := by rw [if_pos rfl] at H; exact H
      clear H
      have H := H1
      clear H1
      obtain rfl := Option.some.inj H
      go_wp2
      go_ret
      exact ⟨zR, zB⟩
     ·replace c13 := Bool.eq_false_iff.mpr c13
      subst c13
      have H1 : ((nat_Mul.f kj7 a0 a1).bind fun t221 => ((gantref1_Times.f kj7 a0 a1).bind fun t222 => (some (t221.toList == t222.toList)))) = some r := by rw [if_neg (show ¬ (false = true) by decide)] at H; exact H
      clear H
      have H := H1
      clear H1
      obtain ⟨t221, A14, H⟩ := zH H
      obtain ⟨t222, A15, H⟩ := zH H
      obtain rfl := Option.some.inj H
      go_wp2_with (first | ((with_reducible refine zG 27 ?_); refine zL 52 Tryd.func27 #[.string a0, .string a1] ?_; (with_reducible refine (nat_Mul.calls kj7 a0 a1 t221 _ A14.out).mono ?_); rintro e w16 ⟨rfl, hb⟩; refine ⟨_, rfl, ?_⟩; replace HB := zP hb; (try clear hb)) | ((with_reducible refine zG 30 ?_); refine zL 55 Tryd.func30 #[.string a0, .string a1] ?_; (with_reducible refine (gantref1_Times.calls kj7 a0 a1 t222 _ A15.out).mono ?_); rintro e w17 ⟨rfl, hb⟩; refine ⟨_, rfl, ?_⟩; replace HB := zP hb; (try clear hb)))
      go_ret
      exact ⟨zR, zB⟩
  ·rw [if_neg c7] at H
   have c7b0 : (t220.toList == ([] : List UInt8)) = false := beq_eq_false_iff_ne.mpr c7
   have c7b1 : (t220.toList != ([] : List UInt8)) = true := bne_iff_ne.mpr c7
   obtain ⟨⟨t223, t224⟩, A18, H⟩ := zH H
   have HC19 := Aside0.mk H
   clear H
   go_enter Tryd.func6, Tryd.ntmps6
   go_upto_region 8 with (first | ((with_reducible refine zG 27 ?_); refine zL 10 Tryd.func27 #[.string (⟨#[2]⟩ : ByteArray), .string (⟨#[2]⟩ : ByteArray)] ?_; (with_reducible refine (nat_Mul.calls k (⟨#[2]⟩ : ByteArray) (⟨#[2]⟩ : ByteArray) t216 _ A3.out).mono ?_); rintro e w20 ⟨rfl, hb⟩; refine ⟨_, rfl, ?_⟩; replace HB := zP hb; (try clear hb)) | ((with_reducible refine zG 28 ?_); refine zL 15 Tryd.func28 #[.string a0, .string a1] ?_; (with_reducible refine (nat_Div.calls k a0 a1 t217 t218 t219 _ A5.out).mono ?_); rintro e w21 ⟨rfl, hb⟩; refine ⟨_, rfl, ?_⟩; replace HB := zP hb; (try clear hb)) | ((with_reducible refine zG 17 ?_); refine zL 20 Tryd.func17 #[.string a1] ?_; (with_reducible refine (gantref1_Bare.calls a1 t220 _ A6.out).mono ?_); rintro e w' ⟨rfl, ⟨nd, rfl⟩⟩; refine ⟨_, rfl, ?_⟩) | ((with_reducible refine zG 29 ?_); refine zL 35 Tryd.func29 #[.string a0, .string a1] ?_; (with_reducible refine (gantref1_Share.calls k a0 a1 t223 t224 _ A18.out).mono ?_); rintro e w22 ⟨rfl, hb⟩; refine ⟨_, rfl, ?_⟩; replace HB := zP hb; (try clear hb)))
   (try simp only [Act.put, List.setIfInBounds_toArray, List.set_cons_zero, List.set_cons_succ])
   go_cut [49] (fun v49 wc => ∃ (kq : Nat) (x49_18 : Bool), v49 = .bool x49_18 ∧ Aside0 (gantlaw1_NatMuls.j1 kq a0 a1 x49_18 = some r) ∧ Aside0 (kq ≤ k) ∧ Aside0 (Below w.heap.size w wc))
   case first =>
    have H := HC19.out
    clear HC19
    by_cases c23 : t219 = 0
    ·rw [if_pos c23] at H
     have c23b0 : (t219 == 0) = true := beq_iff_eq.mpr c23
     have c23b1 : (t219 != 0) = false := bne_eq_false_iff_eq.mpr c23
     clear c23
     (first | rw [c23b0] | rw [c23b1] | (simp only [i64_w, i32_w]; rw [c23b0]) | skip)
     by_cases c24 : t217.toList = t223.toList
     ·rw [if_pos c24] at H
      have c24b0 : (t217.toList == t223.toList) = true := beq_iff_eq.mpr c24
      have c24b1 : (t217.toList != t223.toList) = false := bne_eq_false_iff_eq.mpr c24
      clear c24
      have H' := Aside0.mk H
      clear H
      go_wp2
      go_meet
      case rel => exact ⟨_, ((t218.toList != t224.toList)), zS, H', ⟨by first | omega | exact Nat.le_refl _⟩, ⟨zB⟩⟩
     ·rw [if_neg c24] at H
      have c24b0 : (t217.toList == t223.toList) = false := beq_eq_false_iff_ne.mpr c24
      have c24b1 : (t217.toList != t223.toList) = true := bne_iff_ne.mpr c24
      have H' := Aside0.mk H
      clear H
      go_wp2
      go_meet
      case rel => exact ⟨_, (true), zS, H', ⟨by first | omega | exact Nat.le_refl _⟩, ⟨zB⟩⟩
    ·rw [if_neg c23] at H
     have c23b0 : (t219 == 0) = false := beq_eq_false_iff_ne.mpr c23
     have c23b1 : (t219 != 0) = true := bne_iff_ne.mpr c23
     (first | rw [c23b0] | rw [c23b1] | (simp only [i64_w, i32_w]; rw [c23b0]) | skip)
     have H' := Aside0.mk H
     clear H
     go_wp2
     go_meet
     case rel => exact ⟨_, (true), zS, H', ⟨by first | omega | exact Nat.le_refl _⟩, ⟨zB⟩⟩
   case rest =>
    clear HC19
    try clear c1
    try clear c2
    try clear p2
    try clear c3
    try clear c4
    try clear c4b0
    try clear c4b1
    try clear c6
    try clear c7
    try clear c7b0
    try clear c7b1
    try clear c11
    try clear c11b0
    try clear c11b1
    try clear c12
    try clear c12b0
    try clear c12b1
    try clear c13
    try clear c17
    try clear c23
    try clear c23b0
    try clear c23b1
    try clear c24
    try clear c24b0
    try clear c24b1
    try clear p2
    obtain ⟨kq, x49_18, rfl, HA, HJ18, HB⟩ := hcut
    cases kq with
    | zero => exact absurd HA.out (by simp [gantlaw1_NatMuls.j1])
    | succ kj18 =>
     have H := HA.out
     clear HA
     simp only [gantlaw1_NatMuls.j1] at H
     by_cases c25 : x49_18 = true
     ·subst c25
      have H1 : (some false) = some r := by rw [if_pos rfl] at H; exact H
      clear H
      have H := H1
      clear H1
      obtain rfl := Option.some.inj H
      go_wp2
      go_ret
      exact ⟨zR, zB⟩
     ·replace c25 := Bool.eq_false_iff.mpr c25
      subst c25
      have H1 : ((nat_Mul.f kj18 a0 a1).bind fun t225 => ((gantref1_Times.f kj18 a0 a1).bind fun t226 => (some (t225.toList == t226.toList)))) = some r := by rw [if_neg (show ¬ (false = true) by decide)] at H; exact H
      clear H
      have H := H1
      clear H1
      obtain ⟨t225, A26, H⟩ := zH H
      obtain ⟨t226, A27, H⟩ := zH H
      obtain rfl := Option.some.inj H
      go_wp2_with (first | ((with_reducible refine zG 27 ?_); refine zL 52 Tryd.func27 #[.string a0, .string a1] ?_; (with_reducible refine (nat_Mul.calls kj18 a0 a1 t225 _ A26.out).mono ?_); rintro e w28 ⟨rfl, hb⟩; refine ⟨_, rfl, ?_⟩; replace HB := zP hb; (try clear hb)) | ((with_reducible refine zG 30 ?_); refine zL 55 Tryd.func30 #[.string a0, .string a1] ?_; (with_reducible refine (gantref1_Times.calls kj18 a0 a1 t226 _ A27.out).mono ?_); rintro e w29 ⟨rfl, hb⟩; refine ⟨_, rfl, ?_⟩; replace HB := zP hb; (try clear hb)))
      go_ret
      exact ⟨zR, zB⟩
 ·rw [if_neg c4] at H
  have c4b0 : (t216.toList == ([4] : List UInt8)) = false := beq_eq_false_iff_ne.mpr c4
  have c4b1 : (t216.toList != ([4] : List UInt8)) = true := bne_iff_ne.mpr c4
  obtain rfl := Option.some.inj H
  go_enter Tryd.func6, Tryd.ntmps6
  go_wp2_with (first | ((with_reducible refine zG 27 ?_); refine zL 10 Tryd.func27 #[.string (⟨#[2]⟩ : ByteArray), .string (⟨#[2]⟩ : ByteArray)] ?_; (with_reducible refine (nat_Mul.calls k (⟨#[2]⟩ : ByteArray) (⟨#[2]⟩ : ByteArray) t216 _ A3.out).mono ?_); rintro e w30 ⟨rfl, hb⟩; refine ⟨_, rfl, ?_⟩; replace HB := zP hb; (try clear hb)))
  go_ret
  exact ⟨zR, zB⟩

/-- THE ONE PURE STATEMENT of gantlaw1_NatMuls: yours. -/
def gantlaw1_NatMuls.Pure : Prop := ∀ (a0 : ByteArray) (a1 : ByteArray), a0.size ≤ 140737488351232 → a1.size ≤ 140737488351232 → ∃ k, gantlaw1_NatMuls.f k a0 a1 = some true
theorem gantlaw1_NatMuls.walk (P : gantlaw1_NatMuls.Pure) (a0 : ByteArray) (a1 : ByteArray) (w : World) (w0 : a0.size ≤ 140737488351232) (w1 : a1.size ≤ 140737488351232) :
  Calls Tryd.prog 6 #[.string a0, .string a1] w fun e w' => e = .returned (.bool true) ∧ Below w.heap.size w w' := by
 obtain ⟨k, h⟩ := P a0 a1 w0 w1
 refine (gantlaw1_NatMuls.calls k a0 a1 true w h).mono ?_
 rintro e w' ⟨rfl, hd⟩
 exact ⟨rfl, hd⟩
end Go.Proofs.YtgpbkoajifbcfaaDoor.C
