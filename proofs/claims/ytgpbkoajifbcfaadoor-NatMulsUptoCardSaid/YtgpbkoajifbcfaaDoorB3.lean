-- printed by pp.py (wip/), a program of this work, by way of the kit's print; Lean checks it
import Derived.Test.YtgpbkoajifbcfaaDoorB0
import Derived.Test.YtgpbkoajifbcfaaDoorB1
import Derived.Test.YtgpbkoajifbcfaaDoorB2
import Derived.Test.YtgpbkoajifbcfaaDoorZ
namespace Go.Proofs.YtgpbkoajifbcfaaDoor.B
open Go.RowKit Go.Proofs.YtgpbkoajifbcfaaDoor.Z Go.Proofs.YtgpbkoajifbcfaaDoor.A Go.Proofs.YtgpbkoajifbcfaaDoor.H Go.Proofs.YtgpbkoajifbcfaaDoorW.PrintWords Go.Proofs.YtgpbkoajifbcfaaDoorW.PrintLast Go.Proofs.YtgpbkoajifbcfaaDoorW.PrintMore
attribute [local go_sem] max2_int min2_int max_two min_two max_three min_three max_four min_four   -- for this text's walks alone
set_option linter.unusedVariables false
set_option linter.unusedSimpArgs false
set_option maxHeartbeats 8000000
set_option maxRecDepth 100000
-- gantref1_Less
def gantref1_Less.l0 : Nat → ByteArray → ByteArray → List Int → Int → Int → Int → Option (ByteArray)
 | 0, _, _, _, _, _, _ => none
 | k + 1, x0, x1, x5, x6, x12, x13 => if x13 < x12 then ((gantref1_digit.f x0 x13).bind fun t184 => ((gantref1_digit.f x1 x13).bind fun t185 => (if 0 ≤ x13 then (if x13 < (x5.length : Int) then ((some (x5.set (x13 : Int).toNat (wrap64 ((wrap64 (t184 - t185)) - x6)) : List Int)).bind fun y186 => (if (rd y186 x13) < 0 then (gantref1_Less.l0 k x0 x1 (y186.set (x13 : Int).toNat (wrap64 ((rd y186 x13) + 256))) 1 x12 (wrap64 (x13 + 1))) else (gantref1_Less.l0 k x0 x1 y186 0 x12 (wrap64 (x13 + 1))))) else (none)) else (none)))) else ((gantref1_number.f k x5).bind fun t183 => (some t183))
def gantref1_Less.f (k : Nat) (a0 : ByteArray) (a1 : ByteArray) : Option (ByteArray) := if 0 ≤ (a0.size : Int) then (if ((a0.size : Int) : Int).toNat ≤ 35184372088832 then ((some (List.replicate ((a0.size : Int) : Int).toNat 0 : List Int)).bind fun y180 => (gantref1_Less.l0 k a0 a1 y180 0 (y180.length : Int) 0)) else (none)) else (none)
theorem gantref1_Less.mono_l : ∀ k, (∀ y0 y1 y2 y3 y4 y5, LeO (gantref1_Less.l0 k y0 y1 y2 y3 y4 y5) (gantref1_Less.l0 (k + 1) y0 y1 y2 y3 y4 y5))
 | 0 => fun _ _ _ _ _ _ r h => by simp [gantref1_Less.l0] at h
 | k + 1 => by
  have ih0 := gantref1_Less.mono_l k
  ·intro y0 y1 y2 y3 y4 y5
   unfold gantref1_Less.l0
   have m0 := @gantref1_number.mono
   exact zM
theorem gantref1_Less.mono : ∀ a0 a1 k, LeO (gantref1_Less.f k a0 a1) (gantref1_Less.f (k + 1) a0 a1) := by
 intro a0 a1 k
 have ih0 := gantref1_Less.mono_l k
 unfold gantref1_Less.f
 have m0 := @gantref1_number.mono
 exact zM
theorem gantref1_Less.calls (k : Nat) (a0 : ByteArray) (a1 : ByteArray) (r : ByteArray) (w : World) (h : gantref1_Less.f k a0 a1 = some r) :
  Calls Tryd.prog 20 #[.string a0, .string a1] w fun e w' => e = .returned (.string r) ∧ Below w.heap.size w w' := by
 have HB := Aside0.mk (Below.refl w.heap.size w)
 unfold gantref1_Less.f at h
 have H := h
 clear h
 obtain ⟨c3b0, c3b1, H⟩ := zE H
 obtain ⟨c4b0, c4b1, H⟩ := zE H
 obtain ⟨y180, Ny180⟩ : ∃ y_ : List Int, Aside0 (y_ = (List.replicate ((a0.size : Int) : Int).toNat 0)) := ⟨_, ⟨rfl⟩⟩
 replace H : (gantref1_Less.l0 k a0 a1 y180 0 (y180.length : Int) 0) = some r := zY Ny180 H
 have H' := Aside0.mk H
 clear H
 go_enter Tryd.func20, Tryd.ntmps20
 go_wp2_with (first | ((with_reducible refine gate_dst (N := 10) rfl ?_); refine Kd.R_make (Kd.int .i64) _ 3 rfl (N := 10) rfl 102 _ _ rfl (a0.size : Int) rfl rfl Tryd.underlying102 (.int .i64 0) 8 info3 rfl (by decide) (by omega) 0 (ok := fun _ => True) (okp := fun _ => True) rfl zI trivial zD (Nat.le_trans (Nat.mul_le_mul_right _ (zD : (a0.size : Int).toNat ≤ 35184372088832)) (by omega)) (Below.refl _ _) (Nat.le_refl _) ?_; intro v181 w5 ho6 hb hg_ hnew_; clear hg_ hnew_; (first | rw [← Ny180.out] at ho6 | (simp only [Int.reduceToNat] at ho6; rw [← Ny180.out] at ho6)); have HO182 := Aside0.mk (Kd.R_lower ho6 (below_size zB)); replace HB := zP hb; clear hb ho6; obtain ⟨Ao7, co7, eo7⟩ := Kd.R_slice HO182.out; subst eo7))
 go_loopg [6, 13] k (fun kq v6 v13 w' => ∃ (x5_1 : List Int) (x6_1 : Int) (x13_1 : Int), v6 = .int .i64 x6_1 ∧ v13 = .int .i64 x13_1 ∧ Aside0 (gantref1_Less.l0 kq a0 a1 x5_1 x6_1 (y180.length : Int) x13_1 = some r) ∧ Aside0 (kq ≤ k) ∧ Aside0 (Kd.R (Kd.int .i64) 3 w' w.heap.size (fun _ => True) (.slice Ao7 y180.length co7) x5_1) ∧ Aside0 (Below w.heap.size w w'))
 case atStart => exact ⟨(y180), (0), (0), zS, zS, H', ⟨Nat.le_refl _⟩, ⟨zO HO182⟩, ⟨zB⟩⟩
 case round =>
  clear H'
  try clear c2
  try clear p2
  try clear c3
  try clear c3b0
  try clear c3b1
  try clear c4
  try clear c4b0
  try clear c4b1
  obtain ⟨x5_1, x6_1, x13_1, rfl, rfl, HA, HK1, HO_5, HB⟩ := hrel
  have hl5_1 := (Kd.R_reads' HO_5.out).1
  rw [hl5_1] at HO_5
  (try simp only [hl5_1])
  cases gk with
  | zero => exact absurd HA.out (by simp [gantref1_Less.l0])
  | succ k1 =>
   have H := HA.out
   clear HA
   simp only [gantref1_Less.l0] at H
   by_cases c8 : x13_1 < (y180.length : Int)
   ·rw [if_pos c8] at H
    have c8b0 : decide (x13_1 < (y180.length : Int)) = true := decide_eq_true c8
    (try (have c8b0_0 := c8b0; simp only [hl5_1] at c8b0_0))
    clear c8
    obtain ⟨t184, A9, H⟩ := zH H
    obtain ⟨t185, A10, H⟩ := zH H
    obtain ⟨c11b0, H⟩ := zF H
    obtain ⟨c12b0, H⟩ := zF H
    (try (have c12b0_0 := c12b0; simp only [hl5_1] at c12b0_0))
    obtain ⟨y186, Ny186⟩ : ∃ y_ : List Int, Aside0 (y_ = (x5_1.set (x13_1 : Int).toNat (wrap64 ((wrap64 (t184 - t185)) - x6_1)))) := ⟨_, ⟨rfl⟩⟩
    replace H : (if (rd y186 x13_1) < 0 then (gantref1_Less.l0 k1 a0 a1 (y186.set (x13_1 : Int).toNat (wrap64 ((rd y186 x13_1) + 256))) 1 (y180.length : Int) (wrap64 (x13_1 + 1))) else (gantref1_Less.l0 k1 a0 a1 y186 0 (y180.length : Int) (wrap64 (x13_1 + 1)))) = some r := zY Ny186 H
    by_cases c14 : (rd y186 x13_1) < 0
    ·rw [if_pos c14] at H
     have c14b0 : decide ((rd y186 x13_1) < 0) = true := decide_eq_true c14
     clear c14
     obtain ⟨y189, Ny189⟩ : ∃ y_ : List Int, Aside0 (y_ = (y186.set (x13_1 : Int).toNat (wrap64 ((rd y186 x13_1) + 256)))) := ⟨_, ⟨rfl⟩⟩
     replace H : (gantref1_Less.l0 k1 a0 a1 y189 1 (y180.length : Int) (wrap64 (x13_1 + 1))) = some r := zY Ny189 H
     have H' := Aside0.mk H
     clear H
     go_wp2_with (first | ((with_reducible refine zG 75 ?_); refine zL 20 Tryd.func75 #[.string a0, .int .i64 x13_1] ?_; (with_reducible refine (gantref1_digit.calls a0 x13_1 t184 _ A9.out).mono ?_); rintro e w' ⟨rfl, ⟨nd, rfl⟩⟩; refine ⟨_, rfl, ?_⟩; (try (rw [drewN_self wr]; generalize hq_ : World.drewN wr _ = wr; have n0_ : Aside0 (Kd.R (Kd.int .i64) 3 wr w.heap.size (fun _ => True) (.slice Ao7 x5_1.length co7) x5_1) := ⟨by rw [← hq_]; exact (zO HO_5)⟩; have n1_ : Aside0 (Below w.heap.size w wr) := ⟨by rw [← hq_]; exact zB⟩; clear HO_5 HB hq_; have HO_5 := n0_; have HB := n1_; clear n0_ n1_))) | ((with_reducible refine zG 75 ?_); refine zL 23 Tryd.func75 #[.string a1, .int .i64 x13_1] ?_; (with_reducible refine (gantref1_digit.calls a1 x13_1 t185 _ A10.out).mono ?_); rintro e w' ⟨rfl, ⟨nd, rfl⟩⟩; refine ⟨_, rfl, ?_⟩; (try (rw [drewN_self wr]; generalize hq_ : World.drewN wr _ = wr; have n0_ : Aside0 (Kd.R (Kd.int .i64) 3 wr w.heap.size (fun _ => True) (.slice Ao7 x5_1.length co7) x5_1) := ⟨by rw [← hq_]; exact (zO HO_5)⟩; have n1_ : Aside0 (Below w.heap.size w wr) := ⟨by rw [← hq_]; exact zB⟩; clear HO_5 HB hq_; have HO_5 := n0_; have HB := n1_; clear n0_ n1_)); have p13 : 0 ≤ (x13_1 : Int) := zD; have q13 : (x13_1 : Int) < ((x5_1.length : Int) : Int) := zD; obtain ⟨go13, co13, eo13, gb13, gl13, cl13, HG13⟩ := Kd.R_form HO_5.out (by omega); (first | cases eo13 | (injection eo13 with ea_ en_ ec_; (first | subst ea_ | (injection ea_ with ea_; subst ea_)); subst ec_; clear en_)); have GB13 := Aside0.mk gb13; have GG13 := Aside0.mk HG13; clear gb13 gl13 HG13; obtain ⟨hx13_0, hf13_0⟩ := Kd.R_celln 0 HO_5.out (x13_1 : Int) p13 q13; replace p13 := eq_true p13; replace q13 := eq_true q13; obtain ⟨hy16_, hz16_⟩ := Kd.R_celln 0 HO_5.out (x13_1 : Int) zD zD; have HP16 := Kd.R_putg HO_5.out (x13_1 : Int) (wrap64 ((wrap64 (t184 - t185)) - x6_1))) | ((with_reducible refine gate_store (t := 3) (p := 27) rfl ?_); refine store_event (t := 3) (p := 27) (v := ?vo_w17) (w1 := (wr.setCell ⟨go13, (x13_1 : Int).toNat, none⟩ (.int .i64 (wrap64 ((wrap64 (t184 - t185)) - x6_1))))) ?hg ?ho ?hn ?hr ?_; (case ho => rfl); (case hg => rfl); (case hn => rfl); (case hr => first | (go_simp; done) | (go_simp; rfl)); intro w17 hw; have hg : wr.grownBy w17 (some go13) := (by rw [hw]; exact HP16.2); have hp_ : Kd.R (Kd.int .i64) 3 w17 w.heap.size (fun _ => True) (.slice (some ⟨go13, 0, none⟩) x5_1.length co7) y186 := (by rw [hw, Ny186.out]; exact HP16.1); clear HP16; replace HO_5 := Aside0.mk (hp_); replace HB := Aside0.mk ((by rw [hw]; exact below_set (HB.out) GB13.out : Below w.heap.size w w17)); clear hg hw hp_; have p187 : 0 ≤ (x13_1 : Int) := zD; have q187 : x13_1 < (y186.length : Int) := (by have h_ : (x13_1 : Int) < ((x5_1.length : Int) : Int) := zD; first | (have e_ := (Kd.R_reads' HO_5.out).1; omega) | simpa only [Ny186.out, List.length_set] using h_); have ql187 : ((x13_1 : Int) < ((x5_1.length : Int) : Int)) = True := eq_true zD; obtain ⟨ad187, e187, hx187_0⟩ := Kd.at_int (Kd.R_reads' HO_5.out).2.2 x13_1 p187 q187; obtain rfl : (⟨go13, 0, none⟩ : Addr) = ad187 := (by injection e187); (first | simp only [add_plain] at hx187_0 | simp only [add_at] at hx187_0 | simp only [Addr.add, Nat.zero_add] at hx187_0 | skip); replace p187 := eq_true p187; replace q187 := eq_true q187; have p188 : 0 ≤ (x13_1 : Int) := zD; have q188 : x13_1 < (y186.length : Int) := (by have h_ : (x13_1 : Int) < ((x5_1.length : Int) : Int) := zD; first | (have e_ := (Kd.R_reads' HO_5.out).1; omega) | simpa only [Ny186.out, List.length_set] using h_); have ql188 : ((x13_1 : Int) < ((x5_1.length : Int) : Int)) = True := eq_true zD; obtain ⟨ad188, e188, hx188_0⟩ := Kd.at_int (Kd.R_reads' HO_5.out).2.2 x13_1 p188 q188; obtain rfl : (⟨go13, 0, none⟩ : Addr) = ad188 := (by injection e188); (first | simp only [add_plain] at hx188_0 | simp only [add_at] at hx188_0 | simp only [Addr.add, Nat.zero_add] at hx188_0 | skip); replace p188 := eq_true p188; replace q188 := eq_true q188; have p15 : 0 ≤ (x13_1 : Int) := zD; have q15 : (x13_1 : Int) < ((x5_1.length : Int) : Int) := zD; obtain ⟨hx15_0, hf15_0⟩ := Kd.R_celln 0 HO_5.out (x13_1 : Int) p15 q15; replace p15 := eq_true p15; replace q15 := eq_true q15; obtain ⟨hy18_, hz18_⟩ := Kd.R_celln 0 HO_5.out (x13_1 : Int) zD zD; have HP18 := Kd.R_putg HO_5.out (x13_1 : Int) (wrap64 ((rd y186 x13_1) + 256))) | ((with_reducible refine gate_store (t := 3) (p := 40) rfl ?_); refine store_event (t := 3) (p := 40) (v := ?vo_w19) (w1 := (w17.setCell ⟨go13, (x13_1 : Int).toNat, none⟩ (.int .i64 (wrap64 ((rd y186 x13_1) + 256))))) ?hg ?ho ?hn ?hr ?_; (case ho => rfl); (case hg => rfl); (case hn => rfl); (case hr => first | (go_simp; done) | (go_simp; rfl)); intro w19 hw; have hg : w17.grownBy w19 (some go13) := (by rw [hw]; exact HP18.2); have hp_ : Kd.R (Kd.int .i64) 3 w19 w.heap.size (fun _ => True) (.slice (some ⟨go13, 0, none⟩) x5_1.length co7) y189 := (by rw [hw, Ny189.out]; exact HP18.1); clear HP18; replace HO_5 := Aside0.mk (hp_); replace HB := Aside0.mk ((by rw [hw]; exact below_set (HB.out) GB13.out : Below w.heap.size w w19)); clear hg hw hp_))
     (try simp only [← hl5_1])
     go_roundg k1
     case measure => have := HK1.out; omega
     case rel => exact ⟨(y189), (1), (wrap64 (x13_1 + 1)), zS, zS, H', ⟨by have := HK1.out; omega⟩, ⟨by (try simp only [hl5_1]); (with_reducible repeat (first | apply Kd.R_alloc | apply Kd.R_drewN | apply Kd.R_drew)); exact HO_5.out⟩, ⟨zB⟩⟩
    ·rw [if_neg c14] at H
     have c14b0 : decide ((rd y186 x13_1) < 0) = false := decide_eq_false c14
     clear c14
     have H' := Aside0.mk H
     clear H
     go_wp2_with (first | ((with_reducible refine zG 75 ?_); refine zL 20 Tryd.func75 #[.string a0, .int .i64 x13_1] ?_; (with_reducible refine (gantref1_digit.calls a0 x13_1 t184 _ A9.out).mono ?_); rintro e w' ⟨rfl, ⟨nd, rfl⟩⟩; refine ⟨_, rfl, ?_⟩; (try (rw [drewN_self wr]; generalize hq_ : World.drewN wr _ = wr; have n0_ : Aside0 (Kd.R (Kd.int .i64) 3 wr w.heap.size (fun _ => True) (.slice Ao7 x5_1.length co7) x5_1) := ⟨by rw [← hq_]; exact (zO HO_5)⟩; have n1_ : Aside0 (Below w.heap.size w wr) := ⟨by rw [← hq_]; exact zB⟩; clear HO_5 HB hq_; have HO_5 := n0_; have HB := n1_; clear n0_ n1_))) | ((with_reducible refine zG 75 ?_); refine zL 23 Tryd.func75 #[.string a1, .int .i64 x13_1] ?_; (with_reducible refine (gantref1_digit.calls a1 x13_1 t185 _ A10.out).mono ?_); rintro e w' ⟨rfl, ⟨nd, rfl⟩⟩; refine ⟨_, rfl, ?_⟩; (try (rw [drewN_self wr]; generalize hq_ : World.drewN wr _ = wr; have n0_ : Aside0 (Kd.R (Kd.int .i64) 3 wr w.heap.size (fun _ => True) (.slice Ao7 x5_1.length co7) x5_1) := ⟨by rw [← hq_]; exact (zO HO_5)⟩; have n1_ : Aside0 (Below w.heap.size w wr) := ⟨by rw [← hq_]; exact zB⟩; clear HO_5 HB hq_; have HO_5 := n0_; have HB := n1_; clear n0_ n1_)); have p13 : 0 ≤ (x13_1 : Int) := zD; have q13 : (x13_1 : Int) < ((x5_1.length : Int) : Int) := zD; obtain ⟨go13, co13, eo13, gb13, gl13, cl13, HG13⟩ := Kd.R_form HO_5.out (by omega); (first | cases eo13 | (injection eo13 with ea_ en_ ec_; (first | subst ea_ | (injection ea_ with ea_; subst ea_)); subst ec_; clear en_)); have GB13 := Aside0.mk gb13; have GG13 := Aside0.mk HG13; clear gb13 gl13 HG13; obtain ⟨hx13_0, hf13_0⟩ := Kd.R_celln 0 HO_5.out (x13_1 : Int) p13 q13; replace p13 := eq_true p13; replace q13 := eq_true q13; obtain ⟨hy20_, hz20_⟩ := Kd.R_celln 0 HO_5.out (x13_1 : Int) zD zD; have HP20 := Kd.R_putg HO_5.out (x13_1 : Int) (wrap64 ((wrap64 (t184 - t185)) - x6_1))) | ((with_reducible refine gate_store (t := 3) (p := 27) rfl ?_); refine store_event (t := 3) (p := 27) (v := ?vo_w21) (w1 := (wr.setCell ⟨go13, (x13_1 : Int).toNat, none⟩ (.int .i64 (wrap64 ((wrap64 (t184 - t185)) - x6_1))))) ?hg ?ho ?hn ?hr ?_; (case ho => rfl); (case hg => rfl); (case hn => rfl); (case hr => first | (go_simp; done) | (go_simp; rfl)); intro w21 hw; have hg : wr.grownBy w21 (some go13) := (by rw [hw]; exact HP20.2); have hp_ : Kd.R (Kd.int .i64) 3 w21 w.heap.size (fun _ => True) (.slice (some ⟨go13, 0, none⟩) x5_1.length co7) y186 := (by rw [hw, Ny186.out]; exact HP20.1); clear HP20; replace HO_5 := Aside0.mk (hp_); replace HB := Aside0.mk ((by rw [hw]; exact below_set (HB.out) GB13.out : Below w.heap.size w w21)); clear hg hw hp_; have p187 : 0 ≤ (x13_1 : Int) := zD; have q187 : x13_1 < (y186.length : Int) := (by have h_ : (x13_1 : Int) < ((x5_1.length : Int) : Int) := zD; first | (have e_ := (Kd.R_reads' HO_5.out).1; omega) | simpa only [Ny186.out, List.length_set] using h_); have ql187 : ((x13_1 : Int) < ((x5_1.length : Int) : Int)) = True := eq_true zD; obtain ⟨ad187, e187, hx187_0⟩ := Kd.at_int (Kd.R_reads' HO_5.out).2.2 x13_1 p187 q187; obtain rfl : (⟨go13, 0, none⟩ : Addr) = ad187 := (by injection e187); (first | simp only [add_plain] at hx187_0 | simp only [add_at] at hx187_0 | simp only [Addr.add, Nat.zero_add] at hx187_0 | skip); replace p187 := eq_true p187; replace q187 := eq_true q187))
     (try simp only [← hl5_1])
     go_roundg k1
     case measure => have := HK1.out; omega
     case rel => exact ⟨(y186), (0), (wrap64 (x13_1 + 1)), zS, zS, H', ⟨by have := HK1.out; omega⟩, ⟨by (try simp only [hl5_1]); (with_reducible repeat (first | apply Kd.R_alloc | apply Kd.R_drewN | apply Kd.R_drew)); exact HO_5.out⟩, ⟨zB⟩⟩
   ·rw [if_neg c8] at H
    have c8b0 : decide (x13_1 < (y180.length : Int)) = false := decide_eq_false c8
    (try (have c8b0_0 := c8b0; simp only [hl5_1] at c8b0_0))
    clear c8
    obtain ⟨t183, A22, H⟩ := zH H
    obtain rfl := Option.some.inj H
    go_wp2_with (first | ((with_reducible refine zG 72 ?_); refine zL 43 Tryd.func72 #[.slice Ao7 x5_1.length co7] ?_; (with_reducible refine (gantref1_number.calls k1 _ _ x5_1 t183 _ ?side1 ?side2 A22.out).mono ?_); (case side1 => exact zC HO_5); (case side2 => exact (Kd.R_reads' HO_5.out).2.1); rintro e w23 ⟨rfl, hb⟩; refine ⟨_, rfl, ?_⟩; replace HO_5 := Aside0.mk (Kd.R_below (zO HO_5) hb); replace HB := zP hb; (try clear hb)))
    go_ret
    exact ⟨zR, zB⟩
-- gantref1_Plus
def gantref1_Plus.l0 : Nat → ByteArray → ByteArray → List Int → Int → Int → Option (ByteArray)
 | 0, _, _, _, _, _ => none
 | k + 1, x0, x1, x5, x14, x15 => if x15 < x14 then ((gantref1_digit.f x0 x15).bind fun t193 => ((gantref1_digit.f x1 x15).bind fun t194 => (if 0 ≤ x15 then (if x15 < (x5.length : Int) then (gantref1_Plus.l0 k x0 x1 (x5.set (x15 : Int).toNat (wrap64 (t193 + t194))) x14 (wrap64 (x15 + 1))) else (none)) else (none)))) else ((gantref1_number.f k x5).bind fun t196 => (some t196))
def gantref1_Plus.f (k : Nat) (a0 : ByteArray) (a1 : ByteArray) : Option (ByteArray) := if 0 ≤ (mx (a0.size : Int) (a1.size : Int)) then (if (mx (a0.size : Int) (a1.size : Int) : Int).toNat ≤ 35184372088832 then ((some (List.replicate (mx (a0.size : Int) (a1.size : Int) : Int).toNat 0 : List Int)).bind fun y190 => (gantref1_Plus.l0 k a0 a1 y190 (y190.length : Int) 0)) else (none)) else (none)
theorem gantref1_Plus.mono_l : ∀ k, (∀ y0 y1 y2 y3 y4, LeO (gantref1_Plus.l0 k y0 y1 y2 y3 y4) (gantref1_Plus.l0 (k + 1) y0 y1 y2 y3 y4))
 | 0 => fun _ _ _ _ _ r h => by simp [gantref1_Plus.l0] at h
 | k + 1 => by
  have ih0 := gantref1_Plus.mono_l k
  ·intro y0 y1 y2 y3 y4
   unfold gantref1_Plus.l0
   have m0 := @gantref1_number.mono
   exact zM
theorem gantref1_Plus.mono : ∀ a0 a1 k, LeO (gantref1_Plus.f k a0 a1) (gantref1_Plus.f (k + 1) a0 a1) := by
 intro a0 a1 k
 have ih0 := gantref1_Plus.mono_l k
 unfold gantref1_Plus.f
 have m0 := @gantref1_number.mono
 exact zM
theorem gantref1_Plus.calls (k : Nat) (a0 : ByteArray) (a1 : ByteArray) (r : ByteArray) (w : World) (h : gantref1_Plus.f k a0 a1 = some r) :
  Calls Tryd.prog 22 #[.string a0, .string a1] w fun e w' => e = .returned (.string r) ∧ Below w.heap.size w w' := by
 have HB := Aside0.mk (Below.refl w.heap.size w)
 unfold gantref1_Plus.f at h
 have H := h
 clear h
 generalize hji3 : (mx (a0.size : Int) (a1.size : Int)) = ji3 at H
 (try (have hji3l : 0 ≤ ji3 := by (rw [← hji3]; unfold mx; (repeat' split) <;> omega)))
 (try (have hji3m : 0 ≤ ji3 := by omega))
 have hji3_ : (if (a0.size : Int) < (a1.size : Int) then (a1.size : Int) else (a0.size : Int)) = ji3 := hji3
 have hji3_n : (if a0.size < a1.size then (a1.size : Int) else (a0.size : Int)) = ji3 := by have hz_ := hji3_; simp only [Int.ofNat_lt] at hz_; exact hz_
 obtain ⟨c4b0, c4b1, H⟩ := zE H
 obtain ⟨c5b0, c5b1, H⟩ := zE H
 obtain ⟨y190, Ny190⟩ : ∃ y_ : List Int, Aside0 (y_ = (List.replicate (ji3 : Int).toNat 0)) := ⟨_, ⟨rfl⟩⟩
 replace H : (gantref1_Plus.l0 k a0 a1 y190 (y190.length : Int) 0) = some r := zY Ny190 H
 have H' := Aside0.mk H
 clear H
 go_enter Tryd.func22, Tryd.ntmps22
 go_wp2_with (first | ((with_reducible refine gate_dst (N := 12) rfl ?_); refine Kd.R_make (Kd.int .i64) _ 3 rfl (N := 12) rfl 102 _ _ rfl ji3 rfl rfl Tryd.underlying102 (.int .i64 0) 8 info3 rfl (by decide) (by omega) 0 (ok := fun _ => True) (okp := fun _ => True) rfl zI trivial zD (Nat.le_trans (Nat.mul_le_mul_right _ (zD : ji3.toNat ≤ 35184372088832)) (by omega)) (Below.refl _ _) (Nat.le_refl _) ?_; intro v191 w6 ho7 hb hg_ hnew_; clear hg_ hnew_; (first | rw [← Ny190.out] at ho7 | (simp only [Int.reduceToNat] at ho7; rw [← Ny190.out] at ho7)); have HO192 := Aside0.mk (Kd.R_lower ho7 (below_size zB)); replace HB := zP hb; clear hb ho7; obtain ⟨Ao8, co8, eo8⟩ := Kd.R_slice HO192.out; subst eo8))
 go_loopg [15] k (fun kq v15 w' => ∃ (x5_1 : List Int) (x15_1 : Int), v15 = .int .i64 x15_1 ∧ Aside0 (gantref1_Plus.l0 kq a0 a1 x5_1 (y190.length : Int) x15_1 = some r) ∧ Aside0 (kq ≤ k) ∧ Aside0 (Kd.R (Kd.int .i64) 3 w' w.heap.size (fun _ => True) (.slice Ao8 y190.length co8) x5_1) ∧ Aside0 (Below w.heap.size w w'))
 case atStart => exact ⟨(y190), (0), zS, H', ⟨Nat.le_refl _⟩, ⟨zO HO192⟩, ⟨zB⟩⟩
 case round =>
  clear H'
  try clear c2
  try clear p2
  try clear c4
  try clear c4b0
  try clear c4b1
  try clear c5
  try clear c5b0
  try clear c5b1
  obtain ⟨x5_1, x15_1, rfl, HA, HK1, HO_5, HB⟩ := hrel
  have hl5_1 := (Kd.R_reads' HO_5.out).1
  rw [hl5_1] at HO_5
  (try simp only [hl5_1])
  cases gk with
  | zero => exact absurd HA.out (by simp [gantref1_Plus.l0])
  | succ k1 =>
   have H := HA.out
   clear HA
   simp only [gantref1_Plus.l0] at H
   by_cases c9 : x15_1 < (y190.length : Int)
   ·rw [if_pos c9] at H
    have c9b0 : decide (x15_1 < (y190.length : Int)) = true := decide_eq_true c9
    (try (have c9b0_0 := c9b0; simp only [hl5_1] at c9b0_0))
    clear c9
    obtain ⟨t193, A10, H⟩ := zH H
    obtain ⟨t194, A11, H⟩ := zH H
    obtain ⟨c12b0, H⟩ := zF H
    obtain ⟨c13b0, H⟩ := zF H
    (try (have c13b0_0 := c13b0; simp only [hl5_1] at c13b0_0))
    obtain ⟨y195, Ny195⟩ : ∃ y_ : List Int, Aside0 (y_ = (x5_1.set (x15_1 : Int).toNat (wrap64 (t193 + t194)))) := ⟨_, ⟨rfl⟩⟩
    replace H : (gantref1_Plus.l0 k1 a0 a1 y195 (y190.length : Int) (wrap64 (x15_1 + 1))) = some r := zY Ny195 H
    have H' := Aside0.mk H
    clear H
    go_wp2_with (first | ((with_reducible refine zG 75 ?_); refine zL 22 Tryd.func75 #[.string a0, .int .i64 x15_1] ?_; (with_reducible refine (gantref1_digit.calls a0 x15_1 t193 _ A10.out).mono ?_); rintro e w' ⟨rfl, ⟨nd, rfl⟩⟩; refine ⟨_, rfl, ?_⟩; (try (rw [drewN_self wr]; generalize hq_ : World.drewN wr _ = wr; have n0_ : Aside0 (Kd.R (Kd.int .i64) 3 wr w.heap.size (fun _ => True) (.slice Ao8 x5_1.length co8) x5_1) := ⟨by rw [← hq_]; exact (zO HO_5)⟩; have n1_ : Aside0 (Below w.heap.size w wr) := ⟨by rw [← hq_]; exact zB⟩; clear HO_5 HB hq_; have HO_5 := n0_; have HB := n1_; clear n0_ n1_))) | ((with_reducible refine zG 75 ?_); refine zL 25 Tryd.func75 #[.string a1, .int .i64 x15_1] ?_; (with_reducible refine (gantref1_digit.calls a1 x15_1 t194 _ A11.out).mono ?_); rintro e w' ⟨rfl, ⟨nd, rfl⟩⟩; refine ⟨_, rfl, ?_⟩; (try (rw [drewN_self wr]; generalize hq_ : World.drewN wr _ = wr; have n0_ : Aside0 (Kd.R (Kd.int .i64) 3 wr w.heap.size (fun _ => True) (.slice Ao8 x5_1.length co8) x5_1) := ⟨by rw [← hq_]; exact (zO HO_5)⟩; have n1_ : Aside0 (Below w.heap.size w wr) := ⟨by rw [← hq_]; exact zB⟩; clear HO_5 HB hq_; have HO_5 := n0_; have HB := n1_; clear n0_ n1_)); have p14 : 0 ≤ (x15_1 : Int) := zD; have q14 : (x15_1 : Int) < ((x5_1.length : Int) : Int) := zD; obtain ⟨go14, co14, eo14, gb14, gl14, cl14, HG14⟩ := Kd.R_form HO_5.out (by omega); (first | cases eo14 | (injection eo14 with ea_ en_ ec_; (first | subst ea_ | (injection ea_ with ea_; subst ea_)); subst ec_; clear en_)); have GB14 := Aside0.mk gb14; have GG14 := Aside0.mk HG14; clear gb14 gl14 HG14; obtain ⟨hx14_0, hf14_0⟩ := Kd.R_celln 0 HO_5.out (x15_1 : Int) p14 q14; replace p14 := eq_true p14; replace q14 := eq_true q14; obtain ⟨hy15_, hz15_⟩ := Kd.R_celln 0 HO_5.out (x15_1 : Int) zD zD; have HP15 := Kd.R_putg HO_5.out (x15_1 : Int) (wrap64 (t193 + t194))) | ((with_reducible refine gate_store (t := 3) (p := 27) rfl ?_); refine store_event (t := 3) (p := 27) (v := ?vo_w16) (w1 := (wr.setCell ⟨go14, (x15_1 : Int).toNat, none⟩ (.int .i64 (wrap64 (t193 + t194))))) ?hg ?ho ?hn ?hr ?_; (case ho => rfl); (case hg => rfl); (case hn => rfl); (case hr => first | (go_simp; done) | (go_simp; rfl)); intro w16 hw; have hg : wr.grownBy w16 (some go14) := (by rw [hw]; exact HP15.2); have hp_ : Kd.R (Kd.int .i64) 3 w16 w.heap.size (fun _ => True) (.slice (some ⟨go14, 0, none⟩) x5_1.length co8) y195 := (by rw [hw, Ny195.out]; exact HP15.1); clear HP15; replace HO_5 := Aside0.mk (hp_); replace HB := Aside0.mk ((by rw [hw]; exact below_set (HB.out) GB14.out : Below w.heap.size w w16)); clear hg hw hp_))
    (try simp only [← hl5_1])
    go_roundg k1
    case measure => have := HK1.out; omega
    case rel => exact ⟨(y195), (wrap64 (x15_1 + 1)), zS, H', ⟨by have := HK1.out; omega⟩, ⟨by (try simp only [hl5_1]); (with_reducible repeat (first | apply Kd.R_alloc | apply Kd.R_drewN | apply Kd.R_drew)); exact HO_5.out⟩, ⟨zB⟩⟩
   ·rw [if_neg c9] at H
    have c9b0 : decide (x15_1 < (y190.length : Int)) = false := decide_eq_false c9
    (try (have c9b0_0 := c9b0; simp only [hl5_1] at c9b0_0))
    clear c9
    obtain ⟨t196, A17, H⟩ := zH H
    obtain rfl := Option.some.inj H
    go_wp2_with (first | ((with_reducible refine zG 72 ?_); refine zL 30 Tryd.func72 #[.slice Ao8 x5_1.length co8] ?_; (with_reducible refine (gantref1_number.calls k1 _ _ x5_1 t196 _ ?side1 ?side2 A17.out).mono ?_); (case side1 => exact zC HO_5); (case side2 => exact (Kd.R_reads' HO_5.out).2.1); rintro e w18 ⟨rfl, hb⟩; refine ⟨_, rfl, ?_⟩; replace HO_5 := Aside0.mk (Kd.R_below (zO HO_5) hb); replace HB := zP hb; (try clear hb)))
    go_ret
    exact ⟨zQ hji3, zB⟩
-- gantlaw1_NatAdds
mutual
def gantlaw1_NatAdds.j0 : Nat → ByteArray → ByteArray → Int → Bool → Option (Bool)
 | 0, _, _, _, _ => none
 | k + 1, x0, x1, x7, x26 => if x26 = true then (some false) else ((nat_Cmp.f k x0 x1).bind fun t201 => (if t201 = x7 then ((nat_Add.f k x0 x1).bind fun t202 => ((gantref1_Plus.f k x0 x1).bind fun t203 => (some (t202.toList == t203.toList)))) else (some false)))
def gantlaw1_NatAdds.j1 : Nat → ByteArray → ByteArray → Int → Bool → Option (Bool)
 | 0, _, _, _, _ => none
 | k + 1, x0, x1, x7, x35 => if x35 = true then (some false) else ((nat_Cmp.f k x0 x1).bind fun t205 => (if t205 = x7 then ((nat_Add.f k x0 x1).bind fun t206 => ((gantref1_Plus.f k x0 x1).bind fun t207 => (some (t206.toList == t207.toList)))) else (some false)))
end
def gantlaw1_NatAdds.f (k : Nat) (a0 : ByteArray) (a1 : ByteArray) : Option (Bool) := (nat_Add.f k (⟨#[2]⟩ : ByteArray) (⟨#[2]⟩ : ByteArray)).bind fun t197 => (if t197.toList = ([4] : List UInt8) then ((nat_Sub.f k a0 a1).bind fun bt198 => ((gantref1_Compare.f k a0 a1).bind fun t200 => (if t200 < 0 then (if bt198.1.toList = ([] : List UInt8) then (gantlaw1_NatAdds.j0 k a0 a1 t200 (bt198.2 != 1)) else (gantlaw1_NatAdds.j0 k a0 a1 t200 true)) else (if bt198.2 = 0 then ((gantref1_Less.f k a0 a1).bind fun t204 => (gantlaw1_NatAdds.j1 k a0 a1 t200 (bt198.1.toList != t204.toList))) else (gantlaw1_NatAdds.j1 k a0 a1 t200 true))))) else (some false))
theorem gantlaw1_NatAdds.mono_l : ∀ k, (∀ y0 y1 y2 y3, LeO (gantlaw1_NatAdds.j0 k y0 y1 y2 y3) (gantlaw1_NatAdds.j0 (k + 1) y0 y1 y2 y3)) ∧ (∀ y0 y1 y2 y3, LeO (gantlaw1_NatAdds.j1 k y0 y1 y2 y3) (gantlaw1_NatAdds.j1 (k + 1) y0 y1 y2 y3))
 | 0 => ⟨fun _ _ _ _ r h => by simp [gantlaw1_NatAdds.j0] at h, fun _ _ _ _ r h => by simp [gantlaw1_NatAdds.j1] at h⟩
 | k + 1 => by
  obtain ⟨ih0, ih1⟩ := gantlaw1_NatAdds.mono_l k
  refine ⟨?_, ?_⟩
  ·intro y0 y1 y2 y3
   unfold gantlaw1_NatAdds.j0
   have m0 := @gantref1_Compare.mono
   have m1 := @gantref1_Less.mono
   have m2 := @gantref1_Plus.mono
   have m3 := @nat_Add.mono
   have m4 := @nat_Cmp.mono
   have m5 := @nat_Sub.mono
   exact zM
  ·intro y0 y1 y2 y3
   unfold gantlaw1_NatAdds.j1
   have m0 := @gantref1_Compare.mono
   have m1 := @gantref1_Less.mono
   have m2 := @gantref1_Plus.mono
   have m3 := @nat_Add.mono
   have m4 := @nat_Cmp.mono
   have m5 := @nat_Sub.mono
   exact zM
theorem gantlaw1_NatAdds.mono : ∀ a0 a1 k, LeO (gantlaw1_NatAdds.f k a0 a1) (gantlaw1_NatAdds.f (k + 1) a0 a1) := by
 intro a0 a1 k
 obtain ⟨ih0, ih1⟩ := gantlaw1_NatAdds.mono_l k
 unfold gantlaw1_NatAdds.f
 have m0 := @gantref1_Compare.mono
 have m1 := @gantref1_Less.mono
 have m2 := @gantref1_Plus.mono
 have m3 := @nat_Add.mono
 have m4 := @nat_Cmp.mono
 have m5 := @nat_Sub.mono
 exact zM
theorem gantlaw1_NatAdds.calls (k : Nat) (a0 : ByteArray) (a1 : ByteArray) (r : Bool) (w : World) (h : gantlaw1_NatAdds.f k a0 a1 = some r) :
  Calls Tryd.prog 4 #[.string a0, .string a1] w fun e w' => e = .returned (.bool r) ∧ Below w.heap.size w w' := by
 have HB := Aside0.mk (Below.refl w.heap.size w)
 unfold gantlaw1_NatAdds.f at h
 have H := h
 clear h
 obtain ⟨t197, A3, H⟩ := zH H
 by_cases c4 : t197.toList = ([4] : List UInt8)
 ·rw [if_pos c4] at H
  have c4b0 : (t197.toList == ([4] : List UInt8)) = true := beq_iff_eq.mpr c4
  have c4b1 : (t197.toList != ([4] : List UInt8)) = false := bne_eq_false_iff_eq.mpr c4
  clear c4
  obtain ⟨⟨t198, t199⟩, A5, H⟩ := zH H
  obtain ⟨t200, A6, H⟩ := zH H
  by_cases c7 : t200 < 0
  ·rw [if_pos c7] at H
   have c7b0 : decide (t200 < 0) = true := decide_eq_true c7
   clear c7
   have HC8 := Aside0.mk H
   clear H
   go_enter Tryd.func4, Tryd.ntmps4
   go_upto_region 6 with (first | ((with_reducible refine zG 18 ?_); refine zL 8 Tryd.func18 #[.string (⟨#[2]⟩ : ByteArray), .string (⟨#[2]⟩ : ByteArray)] ?_; (with_reducible refine (nat_Add.calls k (⟨#[2]⟩ : ByteArray) (⟨#[2]⟩ : ByteArray) t197 _ A3.out).mono ?_); rintro e w9 ⟨rfl, hb⟩; refine ⟨_, rfl, ?_⟩; replace HB := zP hb; (try clear hb)) | ((with_reducible refine zG 19 ?_); refine zL 13 Tryd.func19 #[.string a0, .string a1] ?_; (with_reducible refine (nat_Sub.calls k a0 a1 t198 t199 _ A5.out).mono ?_); rintro e w10 ⟨rfl, hb⟩; refine ⟨_, rfl, ?_⟩; replace HB := zP hb; (try clear hb)) | ((with_reducible refine zG 16 ?_); refine zL 18 Tryd.func16 #[.string a0, .string a1] ?_; (with_reducible refine (gantref1_Compare.calls k a0 a1 t200 _ A6.out).mono ?_); rintro e w11 ⟨rfl, hb⟩; refine ⟨_, rfl, ?_⟩; replace HB := zP hb; (try clear hb)))
   (try simp only [Act.put, List.setIfInBounds_toArray, List.set_cons_zero, List.set_cons_succ])
   go_cut [26] (fun v26 wc => ∃ (kq : Nat) (x26_7 : Bool), v26 = .bool x26_7 ∧ Aside0 (gantlaw1_NatAdds.j0 kq a0 a1 t200 x26_7 = some r) ∧ Aside0 (kq ≤ k) ∧ Aside0 (Below w.heap.size w wc))
   case first =>
    have H := HC8.out
    clear HC8
    by_cases c12 : t198.toList = ([] : List UInt8)
    ·rw [if_pos c12] at H
     have c12b0 : (t198.toList == ([] : List UInt8)) = true := beq_iff_eq.mpr c12
     have c12b1 : (t198.toList != ([] : List UInt8)) = false := bne_eq_false_iff_eq.mpr c12
     clear c12
     (first | rw [c12b0] | rw [c12b1] | (simp only [i64_w, i32_w]; rw [c12b0]) | skip)
     have H' := Aside0.mk H
     clear H
     go_wp2
     go_meet
     case rel => exact ⟨_, ((t199 != 1)), zS, H', ⟨by first | omega | exact Nat.le_refl _⟩, ⟨zB⟩⟩
    ·rw [if_neg c12] at H
     have c12b0 : (t198.toList == ([] : List UInt8)) = false := beq_eq_false_iff_ne.mpr c12
     have c12b1 : (t198.toList != ([] : List UInt8)) = true := bne_iff_ne.mpr c12
     (first | rw [c12b0] | rw [c12b1] | (simp only [i64_w, i32_w]; rw [c12b0]) | skip)
     have H' := Aside0.mk H
     clear H
     go_wp2
     go_meet
     case rel => exact ⟨_, (true), zS, H', ⟨by first | omega | exact Nat.le_refl _⟩, ⟨zB⟩⟩
   case rest =>
    clear HC8
    try clear c1
    try clear p2
    try clear c4
    try clear c4b0
    try clear c4b1
    try clear c7
    try clear c7b0
    try clear c12
    try clear c12b0
    try clear c12b1
    obtain ⟨kq, x26_7, rfl, HA, HJ7, HB⟩ := hcut
    cases kq with
    | zero => exact absurd HA.out (by simp [gantlaw1_NatAdds.j0])
    | succ kj7 =>
     have H := HA.out
     clear HA
     simp only [gantlaw1_NatAdds.j0] at H
     by_cases c13 : x26_7 = true
     ·subst c13
      have H1 : (some false) = some r := by rw [if_pos rfl] at H; exact H
      clear H
      have H := H1
      clear H1
      obtain rfl := Option.some.inj H
      go_wp2
      go_ret
      exact ⟨zR, zB⟩
     ·replace c13 := Bool.eq_false_iff.mpr c13
      subst c13
      have H1 : ((nat_Cmp.f kj7 a0 a1).bind fun t201 => (if t201 = t200 then ((nat_Add.f kj7 a0 a1).bind fun t202 => ((gantref1_Plus.f kj7 a0 a1).bind fun t203 => (some (t202.toList == t203.toList)))) else (some false))) = some r := by rw [if_neg (show ¬ (false = true) by decide)] at H; exact H
      clear H
      have H := H1
      clear H1
      obtain ⟨t201, A14, H⟩ := zH H
      by_cases c15 : t201 = t200
      ·rw [if_pos c15] at H
       have c15b0 : (t201 == t200) = true := beq_iff_eq.mpr c15
       have c15b1 : (t201 != t200) = false := bne_eq_false_iff_eq.mpr c15
       clear c15
       obtain ⟨t202, A16, H⟩ := zH H
       obtain ⟨t203, A17, H⟩ := zH H
       obtain rfl := Option.some.inj H
       go_wp2_with (first | ((with_reducible refine zG 21 ?_); refine zL 38 Tryd.func21 #[.string a0, .string a1] ?_; (with_reducible refine (nat_Cmp.calls kj7 a0 a1 t201 _ A14.out).mono ?_); rintro e w' ⟨rfl, ⟨nd, rfl⟩⟩; refine ⟨_, rfl, ?_⟩) | (go_at_call 18; (with_reducible refine (nat_Add.calls kj7 a0 a1 t202 _ A16.out).mono ?_); rintro e w18 ⟨rfl, hb⟩; replace HB := zP hb; (try clear hb)) | (go_at_call 22; (with_reducible refine (gantref1_Plus.calls kj7 a0 a1 t203 _ A17.out).mono ?_); rintro e w19 ⟨rfl, hb⟩; replace HB := zP hb; (try clear hb)))
       go_ret
       exact ⟨zR, zB⟩
      ·rw [if_neg c15] at H
       have c15b0 : (t201 == t200) = false := beq_eq_false_iff_ne.mpr c15
       have c15b1 : (t201 != t200) = true := bne_iff_ne.mpr c15
       obtain rfl := Option.some.inj H
       go_wp2_with (first | ((with_reducible refine zG 21 ?_); refine zL 38 Tryd.func21 #[.string a0, .string a1] ?_; (with_reducible refine (nat_Cmp.calls kj7 a0 a1 t201 _ A14.out).mono ?_); rintro e w' ⟨rfl, ⟨nd, rfl⟩⟩; refine ⟨_, rfl, ?_⟩))
       go_ret
       exact ⟨zR, zB⟩
  ·rw [if_neg c7] at H
   have c7b0 : decide (t200 < 0) = false := decide_eq_false c7
   clear c7
   have HC20 := Aside0.mk H
   clear H
   go_enter Tryd.func4, Tryd.ntmps4
   go_upto_region 8 with (first | ((with_reducible refine zG 18 ?_); refine zL 8 Tryd.func18 #[.string (⟨#[2]⟩ : ByteArray), .string (⟨#[2]⟩ : ByteArray)] ?_; (with_reducible refine (nat_Add.calls k (⟨#[2]⟩ : ByteArray) (⟨#[2]⟩ : ByteArray) t197 _ A3.out).mono ?_); rintro e w21 ⟨rfl, hb⟩; refine ⟨_, rfl, ?_⟩; replace HB := zP hb; (try clear hb)) | ((with_reducible refine zG 19 ?_); refine zL 13 Tryd.func19 #[.string a0, .string a1] ?_; (with_reducible refine (nat_Sub.calls k a0 a1 t198 t199 _ A5.out).mono ?_); rintro e w22 ⟨rfl, hb⟩; refine ⟨_, rfl, ?_⟩; replace HB := zP hb; (try clear hb)) | ((with_reducible refine zG 16 ?_); refine zL 18 Tryd.func16 #[.string a0, .string a1] ?_; (with_reducible refine (gantref1_Compare.calls k a0 a1 t200 _ A6.out).mono ?_); rintro e w23 ⟨rfl, hb⟩; refine ⟨_, rfl, ?_⟩; replace HB := zP hb; (try clear hb)))
   (try simp only [Act.put, List.setIfInBounds_toArray, List.set_cons_zero, List.set_cons_succ])
   go_cut [35] (fun v35 wc => ∃ (kq : Nat) (x35_19 : Bool), v35 = .bool x35_19 ∧ Aside0 (gantlaw1_NatAdds.j1 kq a0 a1 t200 x35_19 = some r) ∧ Aside0 (kq ≤ k) ∧ Aside0 (Below w.heap.size w wc))
   case first =>
    have H := HC20.out
    clear HC20
    by_cases c24 : t199 = 0
    ·rw [if_pos c24] at H
     have c24b0 : (t199 == 0) = true := beq_iff_eq.mpr c24
     have c24b1 : (t199 != 0) = false := bne_eq_false_iff_eq.mpr c24
     clear c24
     (first | rw [c24b0] | rw [c24b1] | (simp only [i64_w, i32_w]; rw [c24b0]) | skip)
     obtain ⟨t204, A25, H⟩ := zH H
     have H' := Aside0.mk H
     clear H
     go_wp2_with (first | (go_at_call 20; (with_reducible refine (gantref1_Less.calls k a0 a1 t204 _ A25.out).mono ?_); rintro e w26 ⟨rfl, hb⟩; replace HB := zP hb; (try clear hb)))
     go_meet
     case rel => exact ⟨_, ((t198.toList != t204.toList)), zS, H', ⟨by first | omega | exact Nat.le_refl _⟩, ⟨zB⟩⟩
    ·rw [if_neg c24] at H
     have c24b0 : (t199 == 0) = false := beq_eq_false_iff_ne.mpr c24
     have c24b1 : (t199 != 0) = true := bne_iff_ne.mpr c24
     (first | rw [c24b0] | rw [c24b1] | (simp only [i64_w, i32_w]; rw [c24b0]) | skip)
     have H' := Aside0.mk H
     clear H
     go_wp2
     go_meet
     case rel => exact ⟨_, (true), zS, H', ⟨by first | omega | exact Nat.le_refl _⟩, ⟨zB⟩⟩
   case rest =>
    clear HC20
    try clear c1
    try clear c2
    try clear p2
    try clear c4
    try clear c4b0
    try clear c4b1
    try clear c7
    try clear c7b0
    try clear c12
    try clear c12b0
    try clear c12b1
    try clear c13
    try clear c15
    try clear c15b0
    try clear c15b1
    try clear c16
    try clear c18
    try clear c19
    try clear c21
    try clear c24
    try clear c24b0
    try clear c24b1
    try clear p2
    obtain ⟨kq, x35_19, rfl, HA, HJ19, HB⟩ := hcut
    cases kq with
    | zero => exact absurd HA.out (by simp [gantlaw1_NatAdds.j1])
    | succ kj19 =>
     have H := HA.out
     clear HA
     simp only [gantlaw1_NatAdds.j1] at H
     by_cases c27 : x35_19 = true
     ·subst c27
      have H1 : (some false) = some r := by rw [if_pos rfl] at H; exact H
      clear H
      have H := H1
      clear H1
      obtain rfl := Option.some.inj H
      go_wp2
      go_ret
      exact ⟨zR, zB⟩
     ·replace c27 := Bool.eq_false_iff.mpr c27
      subst c27
      have H1 : ((nat_Cmp.f kj19 a0 a1).bind fun t205 => (if t205 = t200 then ((nat_Add.f kj19 a0 a1).bind fun t206 => ((gantref1_Plus.f kj19 a0 a1).bind fun t207 => (some (t206.toList == t207.toList)))) else (some false))) = some r := by rw [if_neg (show ¬ (false = true) by decide)] at H; exact H
      clear H
      have H := H1
      clear H1
      obtain ⟨t205, A28, H⟩ := zH H
      by_cases c29 : t205 = t200
      ·rw [if_pos c29] at H
       have c29b0 : (t205 == t200) = true := beq_iff_eq.mpr c29
       have c29b1 : (t205 != t200) = false := bne_eq_false_iff_eq.mpr c29
       clear c29
       obtain ⟨t206, A30, H⟩ := zH H
       obtain ⟨t207, A31, H⟩ := zH H
       obtain rfl := Option.some.inj H
       go_wp2_with (first | ((with_reducible refine zG 21 ?_); refine zL 38 Tryd.func21 #[.string a0, .string a1] ?_; (with_reducible refine (nat_Cmp.calls kj19 a0 a1 t205 _ A28.out).mono ?_); rintro e w' ⟨rfl, ⟨nd, rfl⟩⟩; refine ⟨_, rfl, ?_⟩) | (go_at_call 18; (with_reducible refine (nat_Add.calls kj19 a0 a1 t206 _ A30.out).mono ?_); rintro e w32 ⟨rfl, hb⟩; replace HB := zP hb; (try clear hb)) | (go_at_call 22; (with_reducible refine (gantref1_Plus.calls kj19 a0 a1 t207 _ A31.out).mono ?_); rintro e w33 ⟨rfl, hb⟩; replace HB := zP hb; (try clear hb)))
       go_ret
       exact ⟨zR, zB⟩
      ·rw [if_neg c29] at H
       have c29b0 : (t205 == t200) = false := beq_eq_false_iff_ne.mpr c29
       have c29b1 : (t205 != t200) = true := bne_iff_ne.mpr c29
       obtain rfl := Option.some.inj H
       go_wp2_with (first | ((with_reducible refine zG 21 ?_); refine zL 38 Tryd.func21 #[.string a0, .string a1] ?_; (with_reducible refine (nat_Cmp.calls kj19 a0 a1 t205 _ A28.out).mono ?_); rintro e w' ⟨rfl, ⟨nd, rfl⟩⟩; refine ⟨_, rfl, ?_⟩))
       go_ret
       exact ⟨zR, zB⟩
 ·rw [if_neg c4] at H
  have c4b0 : (t197.toList == ([4] : List UInt8)) = false := beq_eq_false_iff_ne.mpr c4
  have c4b1 : (t197.toList != ([4] : List UInt8)) = true := bne_iff_ne.mpr c4
  obtain rfl := Option.some.inj H
  go_enter Tryd.func4, Tryd.ntmps4
  go_wp2_with (first | ((with_reducible refine zG 18 ?_); refine zL 8 Tryd.func18 #[.string (⟨#[2]⟩ : ByteArray), .string (⟨#[2]⟩ : ByteArray)] ?_; (with_reducible refine (nat_Add.calls k (⟨#[2]⟩ : ByteArray) (⟨#[2]⟩ : ByteArray) t197 _ A3.out).mono ?_); rintro e w34 ⟨rfl, hb⟩; refine ⟨_, rfl, ?_⟩; replace HB := zP hb; (try clear hb)))
  go_ret
  exact ⟨zR, zB⟩

/-- THE ONE PURE STATEMENT of gantlaw1_NatAdds: yours. -/
def gantlaw1_NatAdds.Pure : Prop := ∀ (a0 : ByteArray) (a1 : ByteArray), a0.size ≤ 140737488351232 → a1.size ≤ 140737488351232 → ∃ k, gantlaw1_NatAdds.f k a0 a1 = some true
theorem gantlaw1_NatAdds.walk (P : gantlaw1_NatAdds.Pure) (a0 : ByteArray) (a1 : ByteArray) (w : World) (w0 : a0.size ≤ 140737488351232) (w1 : a1.size ≤ 140737488351232) :
  Calls Tryd.prog 4 #[.string a0, .string a1] w fun e w' => e = .returned (.bool true) ∧ Below w.heap.size w w' := by
 obtain ⟨k, h⟩ := P a0 a1 w0 w1
 refine (gantlaw1_NatAdds.calls k a0 a1 true w h).mono ?_
 rintro e w' ⟨rfl, hd⟩
 exact ⟨rfl, hd⟩
end Go.Proofs.YtgpbkoajifbcfaaDoor.B
