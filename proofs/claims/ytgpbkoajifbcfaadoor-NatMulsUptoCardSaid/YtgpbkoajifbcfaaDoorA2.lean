-- printed by pp.py (wip/), a program of this work, by way of the kit's print; Lean checks it
import Derived.Test.YtgpbkoajifbcfaaDoorA0
import Derived.Test.YtgpbkoajifbcfaaDoorZ
namespace Go.Proofs.YtgpbkoajifbcfaaDoor.A
open Go.RowKit Go.Proofs.YtgpbkoajifbcfaaDoor.Z Go.Proofs.YtgpbkoajifbcfaaDoorW.PrintWords Go.Proofs.YtgpbkoajifbcfaaDoorW.PrintLast Go.Proofs.YtgpbkoajifbcfaaDoorW.PrintMore
attribute [local go_sem] max2_int min2_int max_two min_two max_three min_three max_four min_four   -- for this text's walks alone
set_option linter.unusedVariables false
set_option linter.unusedSimpArgs false
set_option maxHeartbeats 8000000
set_option maxRecDepth 100000
-- nat_left
def nat_left.l0 : Nat → Int → List Int → List Int → Int → Int → Option (List Int)
 | 0, _, _, _, _, _ => none
 | k + 1, x1, x5, x13, x14, x15 => if x15 < x14 then (if 0 ≤ x15 then (if x15 < (x13.length : Int) then (if 0 ≤ x1 then (if x15 < (x5.length : Int) then (if 0 ≤ (wrap64 (x15 + 1)) then (if (wrap64 (x15 + 1)) < (x5.length : Int) then (nat_left.l0 k x1 ((x5.set (x15 : Int).toNat (Go.bits .or .u32 (rd x5 x15) ((shl .u64 (IntKind.u64.wrap (rd x13 x15)) x1) % 4294967296))).set ((wrap64 (x15 + 1)) : Int).toNat (((shl .u64 (IntKind.u64.wrap (rd x13 x15)) x1) / 4294967296) % 4294967296)) x13 x14 (wrap64 (x15 + 1))) else (none)) else (none)) else (none)) else (none)) else (none)) else (none)) else (some x5)
def nat_left.f (k : Nat) (l0 : List Int) (a1 : Int) : Option (List Int) := if 0 ≤ (wrap64 ((l0.length : Int) + 1)) then (if (wrap64 ((l0.length : Int) + 1) : Int).toNat ≤ 70368744177664 then (nat_left.l0 k a1 (List.replicate (wrap64 ((l0.length : Int) + 1) : Int).toNat 0) l0 (l0.length : Int) 0) else (none)) else (none)
theorem nat_left.mono_l : ∀ k, (∀ y0 y1 y2 y3 y4, LeO (nat_left.l0 k y0 y1 y2 y3 y4) (nat_left.l0 (k + 1) y0 y1 y2 y3 y4))
 | 0 => fun _ _ _ _ _ r h => by simp [nat_left.l0] at h
 | k + 1 => by
  have ih0 := nat_left.mono_l k
  ·intro y0 y1 y2 y3 y4
   unfold nat_left.l0
   exact zM
theorem nat_left.mono : ∀ a0 a1 k, LeO (nat_left.f k a0 a1) (nat_left.f (k + 1) a0 a1) := by
 intro a0 a1 k
 have ih0 := nat_left.mono_l k
 unfold nat_left.f
 exact zM
theorem nat_left.calls (k : Nat) (A0 : Option Addr) (c0 : Nat) (l0 : List Int) (a1 : Int) (r : List Int) (w : World) (hr0 : Kd.C (Kd.int .u32) w A0 l0.length l0) (hc0 : l0.length ≤ c0) (h : nat_left.f k l0 a1 = some r) :
  Calls Tryd.prog 137 #[.slice A0 l0.length c0, .int .i64 a1] w fun e w' => ∃ v0_ : Value, e = .returned (v0_) ∧ Kd.R (Kd.int .u32) 107 w' w.heap.size (fun _ => True) v0_ r ∧ Below w.heap.size w w' := by
 have HR0 := Aside0.mk hr0
 have HC0 := Aside0.mk hc0
 clear hr0 hc0
 have HB := Aside0.mk (Below.refl w.heap.size w)
 unfold nat_left.f at h
 have H := h
 clear h
 generalize hji3 : (wrap64 ((l0.length : Int) + 1)) = ji3 at H
 have hji3w : (IntKind.i64.wrap ((l0.length : Int) + 1)) = ji3 := (i64_w _).trans hji3
 obtain ⟨c4b0, c4b1, H⟩ := zE H
 obtain ⟨c5b0, c5b1, H⟩ := zE H
 obtain ⟨y116, Ny116⟩ : ∃ y_ : List Int, Aside0 (y_ = (List.replicate (ji3 : Int).toNat 0)) := ⟨_, ⟨rfl⟩⟩
 replace H : (nat_left.l0 k a1 y116 l0 (l0.length : Int) 0) = some r := zY Ny116 H
 have H' := Aside0.mk H
 clear H
 go_enter Tryd.func137, Tryd.ntmps137
 go_wp2_with (first | ((with_reducible refine gate_dst (N := 12) rfl ?_); refine Kd.R_make (Kd.int .u32) _ 107 rfl (N := 12) rfl 61 _ _ rfl ji3 rfl rfl Tryd.underlying61 (.int .u32 0) 4 info107 rfl (by decide) (by omega) 0 (ok := fun _ => True) (okp := fun _ => True) rfl zI trivial zD (Nat.le_trans (Nat.mul_le_mul_right _ (zD : ji3.toNat ≤ 70368744177664)) (by omega)) (Below.refl _ _) (Nat.le_refl _) ?_; intro v117 w6 ho7 hb hg_ hnew_; clear hg_ hnew_; (first | rw [← Ny116.out] at ho7 | (simp only [Int.reduceToNat] at ho7; rw [← Ny116.out] at ho7)); have HO118 := Aside0.mk (Kd.R_lower ho7 (below_size zB)); replace HB := zP hb; clear hb ho7))
 go_loopg [15] k (fun kq v15 w' => ∃ (x5_1 : List Int) (x15_1 : Int), v15 = .int .i64 x15_1 ∧ Aside0 (nat_left.l0 kq a1 x5_1 l0 (l0.length : Int) x15_1 = some r) ∧ Aside0 (kq ≤ k) ∧ Aside0 (Kd.R (Kd.int .u32) 107 w' w.heap.size (fun _ => True) v117 x5_1) ∧ Aside0 (Below w.heap.size w w'))
 case atStart => exact ⟨(y116), (0), zS, H', ⟨Nat.le_refl _⟩, ⟨zO HO118⟩, ⟨zB⟩⟩
 case round =>
  clear H'
  try clear c1
  try clear p2
  try clear c4
  try clear c4b0
  try clear c4b1
  try clear c5
  try clear c5b0
  try clear c5b1
  try clear p6
  obtain ⟨x5_1, x15_1, rfl, HA, HK1, HO_5, HB⟩ := hrel
  cases gk with
  | zero => exact absurd HA.out (by simp [nat_left.l0])
  | succ k1 =>
   have H := HA.out
   clear HA
   simp only [nat_left.l0] at H
   by_cases c8 : x15_1 < (l0.length : Int)
   ·rw [if_pos c8] at H
    have c8b0 : decide (x15_1 < (l0.length : Int)) = true := decide_eq_true c8
    clear c8
    obtain ⟨c9b0, H⟩ := zF H
    obtain ⟨c10b0, H⟩ := zF H
    obtain ⟨c11b0, c11b1, H⟩ := zE H
    generalize hji12 : (shl .u64 (IntKind.u64.wrap (rd l0 x15_1)) a1) = ji12 at H
    have hji12_ : (IntKind.u64.wrap ((IntKind.u64.wrap (rd l0 x15_1)) * 2 ^ min a1.toNat 64)) = ji12 := hji12
    have hji12z : a1 ≤ 64 → (IntKind.u64.wrap ((IntKind.u64.wrap (rd l0 x15_1)) * 2 ^ a1.toNat)) = ji12 := shl_small hji12
    obtain ⟨c13b0, H⟩ := zF H
    obtain ⟨y121, Ny121⟩ : ∃ y_ : List Int, Aside0 (y_ = (x5_1.set (x15_1 : Int).toNat (Go.bits .or .u32 (rd x5_1 x15_1) ((ji12) % 4294967296)))) := ⟨_, ⟨rfl⟩⟩
    replace H : (if 0 ≤ (wrap64 (x15_1 + 1)) then (if (wrap64 (x15_1 + 1)) < (x5_1.length : Int) then (nat_left.l0 k1 a1 (y121.set ((wrap64 (x15_1 + 1)) : Int).toNat (((ji12) / 4294967296) % 4294967296)) l0 (l0.length : Int) (wrap64 (x15_1 + 1))) else (none)) else (none)) = some r := zY Ny121 H
    generalize hji15 : (wrap64 (x15_1 + 1)) = ji15 at H
    have hji15w : (IntKind.i64.wrap (x15_1 + 1)) = ji15 := (i64_w _).trans hji15
    obtain ⟨c16b0, H⟩ := zF H
    obtain ⟨c17b0, H⟩ := zF H
    obtain ⟨y122, Ny122⟩ : ∃ y_ : List Int, Aside0 (y_ = (y121.set ((ji15) : Int).toNat (((ji12) / 4294967296) % 4294967296))) := ⟨_, ⟨rfl⟩⟩
    replace H : (nat_left.l0 k1 a1 y122 l0 (l0.length : Int) ji15) = some r := zY Ny122 H
    have H' := Aside0.mk H
    clear H
    have p119 : 0 ≤ (x15_1 : Int) := zD
    have q119 : x15_1 < (l0.length : Int) := zD
    obtain ⟨ad119, e119, hx119_0⟩ := Kd.at_int HR0.out x15_1 p119 q119
    cases e119
    replace hx119_0 := (HB.out.cell (World.block_lt_of_cell? w _ hx119_0)).trans hx119_0
    replace p119 := eq_true p119
    replace q119 := eq_true q119
    obtain ⟨Ao19, co19, eo19⟩ := Kd.R_slice HO_5.out
    subst eo19
    have p120 : 0 ≤ (x15_1 : Int) := zD
    have q120 : x15_1 < (x5_1.length : Int) := zD
    obtain ⟨ad120, e120, hx120_0⟩ := Kd.at_int (Kd.R_reads' HO_5.out).2.2 x15_1 p120 q120
    cases e120
    replace p120 := eq_true p120
    replace q120 := eq_true q120
    have p14 : 0 ≤ (x15_1 : Int) := zD
    have q14 : (x15_1 : Int) < ((x5_1.length : Int) : Int) := zD
    obtain ⟨go14, co14, eo14, gb14, gl14, cl14, HG14⟩ := Kd.R_form HO_5.out (by omega)
    (first | cases eo14 | (injection eo14 with ea_ en_ ec_; (first | subst ea_ | (injection ea_ with ea_; subst ea_)); subst ec_; clear en_))
    have GB14 := Aside0.mk gb14
    have GG14 := Aside0.mk HG14
    clear gb14 gl14 HG14
    (first | simp only [add_plain] at hx120_0 | skip)
    obtain ⟨hx14_0, hf14_0⟩ := Kd.R_celln 0 HO_5.out (x15_1 : Int) p14 q14
    replace p14 := eq_true p14
    replace q14 := eq_true q14
    have HP20 := Kd.R_putg HO_5.out (x15_1 : Int) (Go.bits .or .u32 (rd x5_1 x15_1) ((ji12) % 4294967296))
    go_wp2_with (first | ((with_reducible refine gate_store (t := 107) (p := 31) rfl ?_); refine store_event (t := 107) (p := 31) (v := ?vo_w21) (w1 := (wr.setCell ⟨go14, (x15_1 : Int).toNat, none⟩ (.int .u32 (Go.bits .or .u32 (rd x5_1 x15_1) ((ji12) % 4294967296))))) ?hg ?ho ?hn ?hr ?_; (case ho => rfl); (case hg => rfl); (case hn => rfl); (case hr => first | (go_simp; done) | (go_simp; rfl)); intro w21 hw; have hg : wr.grownBy w21 (some go14) := (by rw [hw]; exact HP20.2); have hp_ : Kd.R (Kd.int .u32) 107 w21 w.heap.size (fun _ => True) (.slice (some ⟨go14, 0, none⟩) x5_1.length co19) y121 := (by rw [hw, Ny121.out]; exact HP20.1); clear HP20; replace HO_5 := Aside0.mk (hp_); replace HB := Aside0.mk ((by rw [hw]; exact below_set (HB.out) GB14.out : Below w.heap.size w w21)); clear hg hw hp_; have p18 : 0 ≤ ((ji15) : Int) := zD; have q18 : ((ji15) : Int) < ((x5_1.length : Int) : Int) := zD; obtain ⟨hx18_0, hf18_0⟩ := Kd.R_celln 0 HO_5.out ((ji15) : Int) p18 q18; replace p18 := eq_true p18; replace q18 := eq_true q18; obtain ⟨hy22_, hz22_⟩ := Kd.R_celln 0 HO_5.out ((ji15) : Int) zD zD; have HP22 := Kd.R_putg HO_5.out ((ji15) : Int) (((ji12) / 4294967296) % 4294967296)) | ((with_reducible refine gate_store (t := 107) (p := 38) rfl ?_); refine store_event (t := 107) (p := 38) (v := ?vo_w23) (w1 := (w21.setCell ⟨go14, ((ji15) : Int).toNat, none⟩ (.int .u32 (((ji12) / 4294967296) % 4294967296)))) ?hg ?ho ?hn ?hr ?_; (case ho => rfl); (case hg => rfl); (case hn => rfl); (case hr => first | (go_simp; done) | (go_simp; rfl)); intro w23 hw; have hg : w21.grownBy w23 (some go14) := (by rw [hw]; exact HP22.2); have hp_ : Kd.R (Kd.int .u32) 107 w23 w.heap.size (fun _ => True) (.slice (some ⟨go14, 0, none⟩) x5_1.length co19) y122 := (by rw [hw, Ny122.out]; exact HP22.1); clear HP22; replace HO_5 := Aside0.mk (hp_); replace HB := Aside0.mk ((by rw [hw]; exact below_set (HB.out) GB14.out : Below w.heap.size w w23)); clear hg hw hp_))
    go_roundg k1
    case measure => have := HK1.out; omega
    case rel => exact ⟨(y122), (ji15), (by first | rfl | (simp; done) | (simp only [← hji15] <;> (first | rfl | simp)) | (simp [*]; done)), H', ⟨by have := HK1.out; omega⟩, ⟨zO HO_5⟩, ⟨zB⟩⟩
   ·rw [if_neg c8] at H
    have c8b0 : decide (x15_1 < (l0.length : Int)) = false := decide_eq_false c8
    clear c8
    obtain rfl := Option.some.inj H
    go_wp2
    go_ret
    exact ⟨_, zQ hji3, zO HO_5, zB⟩
-- nat_takeAway
def nat_takeAway.l0 : Nat → List Int → List Int → Int → Int → Int → List Int → Int → Int → Option (Bool × List Int)
 | 0, _, _, _, _, _, _, _, _ => none
 | k + 1, x0, x1, x2, x7, x8, x13, x14, x15 => if x15 < x14 then (if 0 ≤ x15 then (if x15 < (x13.length : Int) then (if x15 < (x0.length : Int) then (nat_takeAway.l0 k (x0.set (x15 : Int).toNat ((IntKind.u64.wrap ((IntKind.u64.wrap ((IntKind.u64.wrap (rd x0 x15)) - ((IntKind.u64.wrap (x7 + (IntKind.u64.wrap (x2 * (IntKind.u64.wrap (rd x13 x15)))))) % 4294967296))) - x8)) % 4294967296)) x1 x2 ((IntKind.u64.wrap (x7 + (IntKind.u64.wrap (x2 * (IntKind.u64.wrap (rd x13 x15)))))) / 4294967296) ((IntKind.u64.wrap ((IntKind.u64.wrap ((IntKind.u64.wrap (rd x0 x15)) - ((IntKind.u64.wrap (x7 + (IntKind.u64.wrap (x2 * (IntKind.u64.wrap (rd x13 x15)))))) % 4294967296))) - x8)) / 9223372036854775808) x13 x14 (wrap64 (x15 + 1))) else (none)) else (none)) else (none)) else (if 0 ≤ (x1.length : Int) then (if (x1.length : Int) < (x0.length : Int) then (some (decide (((IntKind.u64.wrap ((IntKind.u64.wrap ((IntKind.u64.wrap (rd x0 (x1.length : Int))) - x7)) - x8)) / 9223372036854775808) > 0), (x0.set ((x1.length : Int) : Int).toNat ((IntKind.u64.wrap ((IntKind.u64.wrap ((IntKind.u64.wrap (rd x0 (x1.length : Int))) - x7)) - x8)) % 4294967296)))) else (none)) else (none))
def nat_takeAway.f (k : Nat) (l0 : List Int) (l1 : List Int) (a2 : Int) : Option (Bool × List Int) := nat_takeAway.l0 k l0 l1 a2 0 0 l1 (l1.length : Int) 0
theorem nat_takeAway.mono_l : ∀ k, (∀ y0 y1 y2 y3 y4 y5 y6 y7, LeO (nat_takeAway.l0 k y0 y1 y2 y3 y4 y5 y6 y7) (nat_takeAway.l0 (k + 1) y0 y1 y2 y3 y4 y5 y6 y7))
 | 0 => fun _ _ _ _ _ _ _ _ r h => by simp [nat_takeAway.l0] at h
 | k + 1 => by
  have ih0 := nat_takeAway.mono_l k
  ·intro y0 y1 y2 y3 y4 y5 y6 y7
   unfold nat_takeAway.l0
   exact zM
theorem nat_takeAway.mono : ∀ a0 a1 a2 k, LeO (nat_takeAway.f k a0 a1 a2) (nat_takeAway.f (k + 1) a0 a1 a2) := by
 intro a0 a1 a2 k
 have ih0 := nat_takeAway.mono_l k
 unfold nat_takeAway.f
 exact zM
theorem nat_takeAway.calls (k : Nat) (P0_ : Nat → Prop) (u9000_ : Value) (l0 : List Int) (A1 : Option Addr) (c1 : Nat) (l1 : List Int) (a2 : Int) (r1 : Bool) (r2 : List Int) (w0 w : World) (hB : Below w0.heap.size w0 w) (ho0 : Kd.R (Kd.int .u32) 107 w w0.heap.size P0_ u9000_ l0) (hr1 : ∀ W_, Kept w W_ (fun k_ => P0_ k_) → Kd.C (Kd.int .u32) W_ A1 l1.length l1) (hc1 : l1.length ≤ c1) (h : nat_takeAway.f k l0 l1 a2 = some (r1, r2)) :
  Calls Tryd.prog 138 #[u9000_, .slice A1 l1.length c1, .int .u64 a2] w fun e w' => e = .returned (.bool r1) ∧ Kd.R (Kd.int .u32) 107 w' w0.heap.size (fun k_ => (P0_ k_ ∨ w.heap.size ≤ k_)) u9000_ r2 ∧ Below w0.heap.size w0 w' ∧ Kept w w' (fun k_ => P0_ k_) := by
 have HO0 := Aside0.mk (show Kd.R (Kd.int .u32) 107 w w0.heap.size (fun k_ => (P0_ k_ ∨ w.heap.size ≤ k_)) u9000_ l0 from Kd.R_mono ho0 (fun k_ hk => (.inl hk)))
 have HR1 := Aside0.mk hr1
 have HC1 := Aside0.mk hc1
 clear hr1 hc1
 have HK := Aside0.mk (Kept.refl w (fun k_ => P0_ k_))
 have HW0 := Aside0.mk hB.size
 have HB := Aside0.mk hB
 clear hB
 unfold nat_takeAway.f at h
 have H := h
 clear h
 have H' := Aside0.mk H
 clear H
 go_enter Tryd.func138, Tryd.ntmps138
 go_wp2
 go_loopg [7, 8, 15] k (fun kq v7 v8 v15 w' => ∃ (x0_1 : List Int) (x7_1 : Int) (x8_1 : Int) (x15_1 : Int), v7 = .int .u64 x7_1 ∧ v8 = .int .u64 x8_1 ∧ v15 = .int .i64 x15_1 ∧ Aside0 (nat_takeAway.l0 kq x0_1 l1 a2 x7_1 x8_1 l1 (l1.length : Int) x15_1 = some (r1, r2)) ∧ Aside0 (kq ≤ k) ∧ Aside0 (Kd.R (Kd.int .u32) 107 w' w0.heap.size (fun k_ => (P0_ k_ ∨ w.heap.size ≤ k_)) u9000_ x0_1) ∧ Aside0 (Kept w w' (fun k_ => P0_ k_)) ∧ Aside0 (Below w0.heap.size w0 w'))
 case atStart => exact ⟨(l0), (0), (0), (0), zS, zS, zS, H', ⟨Nat.le_refl _⟩, ⟨zO HO0⟩, ⟨zK⟩, ⟨zB⟩⟩
 case round =>
  clear H'
  try clear c1
  try clear p2
  obtain ⟨x0_1, x7_1, x8_1, x15_1, rfl, rfl, rfl, HA, HK1, HO_0, HK, HB⟩ := hrel
  cases gk with
  | zero => exact absurd HA.out (by simp [nat_takeAway.l0])
  | succ k1 =>
   have H := HA.out
   clear HA
   simp only [nat_takeAway.l0] at H
   by_cases c4 : x15_1 < (l1.length : Int)
   ·rw [if_pos c4] at H
    have c4b0 : decide (x15_1 < (l1.length : Int)) = true := decide_eq_true c4
    clear c4
    obtain ⟨c5b0, H⟩ := zF H
    obtain ⟨c6b0, H⟩ := zF H
    obtain ⟨c7b0, H⟩ := zF H
    obtain ⟨y125, Ny125⟩ : ∃ y_ : List Int, Aside0 (y_ = (x0_1.set (x15_1 : Int).toNat ((IntKind.u64.wrap ((IntKind.u64.wrap ((IntKind.u64.wrap (rd x0_1 x15_1)) - ((IntKind.u64.wrap (x7_1 + (IntKind.u64.wrap (a2 * (IntKind.u64.wrap (rd l1 x15_1)))))) % 4294967296))) - x8_1)) % 4294967296))) := ⟨_, ⟨rfl⟩⟩
    replace H : (nat_takeAway.l0 k1 y125 l1 a2 ((IntKind.u64.wrap (x7_1 + (IntKind.u64.wrap (a2 * (IntKind.u64.wrap (rd l1 x15_1)))))) / 4294967296) ((IntKind.u64.wrap ((IntKind.u64.wrap ((IntKind.u64.wrap (rd x0_1 x15_1)) - ((IntKind.u64.wrap (x7_1 + (IntKind.u64.wrap (a2 * (IntKind.u64.wrap (rd l1 x15_1)))))) % 4294967296))) - x8_1)) / 9223372036854775808) l1 (l1.length : Int) (wrap64 (x15_1 + 1))) = some (r1, r2) := zY Ny125 H
    have H' := Aside0.mk H
    clear H
    have p123 : 0 ≤ (x15_1 : Int) := zD
    have q123 : x15_1 < (l1.length : Int) := zD
    obtain ⟨ad123, e123, hx123_0⟩ := Kd.at_int (Kd.C_kept_now HR1.out HK.out) x15_1 p123 q123
    cases e123
    replace p123 := eq_true p123
    replace q123 := eq_true q123
    obtain ⟨Ao9, co9, eo9⟩ := Kd.R_slice HO_0.out
    subst eo9
    have p124 : 0 ≤ (x15_1 : Int) := zD
    have q124 : x15_1 < (x0_1.length : Int) := zD
    obtain ⟨ad124, e124, hx124_0⟩ := Kd.at_int (Kd.R_reads' HO_0.out).2.2 x15_1 p124 q124
    cases e124
    replace p124 := eq_true p124
    replace q124 := eq_true q124
    have p8 : 0 ≤ (x15_1 : Int) := zD
    have q8 : (x15_1 : Int) < ((x0_1.length : Int) : Int) := zD
    obtain ⟨go8, co8, eo8, gb8, gl8, cl8, HG8⟩ := Kd.R_form HO_0.out (by omega)
    (first | cases eo8 | (injection eo8 with ea_ en_ ec_; (first | subst ea_ | (injection ea_ with ea_; subst ea_)); subst ec_; clear en_))
    have GB8 := Aside0.mk gb8
    have GG8 := Aside0.mk HG8
    clear gb8 gl8 HG8
    have HMgo8 := Aside0.mk (show (P0_ go8 ∨ w.heap.size ≤ go8) from (HO_0.out.1 _ rfl))
    (first | simp only [add_plain] at hx124_0 | skip)
    obtain ⟨hx8_0, hf8_0⟩ := Kd.R_celln 0 HO_0.out (x15_1 : Int) p8 q8
    replace p8 := eq_true p8
    replace q8 := eq_true q8
    have HP10 := Kd.R_putg HO_0.out (x15_1 : Int) ((IntKind.u64.wrap ((IntKind.u64.wrap ((IntKind.u64.wrap (rd x0_1 x15_1)) - ((IntKind.u64.wrap (x7_1 + (IntKind.u64.wrap (a2 * (IntKind.u64.wrap (rd l1 x15_1)))))) % 4294967296))) - x8_1)) % 4294967296)
    go_wp2_with (first | ((with_reducible refine gate_store (t := 107) (p := 43) rfl ?_); refine store_event (t := 107) (p := 43) (v := ?vo_w11) (w1 := (wr.setCell ⟨go8, (x15_1 : Int).toNat, none⟩ (.int .u32 ((IntKind.u64.wrap ((IntKind.u64.wrap ((IntKind.u64.wrap (rd x0_1 x15_1)) - ((IntKind.u64.wrap (x7_1 + (IntKind.u64.wrap (a2 * (IntKind.u64.wrap (rd l1 x15_1)))))) % 4294967296))) - x8_1)) % 4294967296)))) ?hg ?ho ?hn ?hr ?_; (case ho => rfl); (case hg => rfl); (case hn => rfl); (case hr => first | (go_simp; done) | (go_simp; rfl)); intro w11 hw; have hg : wr.grownBy w11 (some go8) := (by rw [hw]; exact HP10.2); have hp_ : Kd.R (Kd.int .u32) 107 w11 w0.heap.size (fun k_ => (P0_ k_ ∨ w.heap.size ≤ k_)) (.slice (some ⟨go8, 0, none⟩) x0_1.length co9) y125 := (by rw [hw, Ny125.out]; exact HP10.1); clear HP10; replace HB := Aside0.mk ((by rw [hw]; exact below_set (HB.out) GB8.out : Below w0.heap.size w0 w11)); replace HK := Aside0.mk (Kept.of_grown (S := (fun k_ => P0_ k_)) hg zK (fun k_ e_ => (HO_0.out.1 k_ e_))); replace HO_0 := Aside0.mk (hp_); clear hg hw hp_))
    go_roundg k1
    case measure => have := HK1.out; omega
    case rel => exact ⟨(y125), ((IntKind.u64.wrap (x7_1 + (IntKind.u64.wrap (a2 * (IntKind.u64.wrap (rd l1 x15_1)))))) / 4294967296), ((IntKind.u64.wrap ((IntKind.u64.wrap ((IntKind.u64.wrap (rd x0_1 x15_1)) - ((IntKind.u64.wrap (x7_1 + (IntKind.u64.wrap (a2 * (IntKind.u64.wrap (rd l1 x15_1)))))) % 4294967296))) - x8_1)) / 9223372036854775808), (wrap64 (x15_1 + 1)), zS, zS, zS, H', ⟨by have := HK1.out; omega⟩, ⟨zO HO_0⟩, ⟨zK⟩, ⟨zB⟩⟩
   ·rw [if_neg c4] at H
    have c4b0 : decide (x15_1 < (l1.length : Int)) = false := decide_eq_false c4
    clear c4
    by_cases c12 : 0 ≤ (l1.length : Int)
    ·rw [if_pos c12] at H
     have c12b0 : decide (0 ≤ (l1.length : Int)) = true := decide_eq_true c12
     have c12b1 : decide (0 ≤ l1.length) = true := decide_eq_true (by omega)
     clear c12
     by_cases c13 : (l1.length : Int) < (x0_1.length : Int)
     ·rw [if_pos c13] at H
      have c13b0 : decide ((l1.length : Int) < (x0_1.length : Int)) = true := decide_eq_true c13
      have c13b1 : decide (l1.length < x0_1.length) = true := decide_eq_true (Int.ofNat_lt.mp c13)
      clear c13
      obtain ⟨y127, Ny127⟩ : ∃ y_ : List Int, Aside0 (y_ = (x0_1.set ((l1.length : Int) : Int).toNat ((IntKind.u64.wrap ((IntKind.u64.wrap ((IntKind.u64.wrap (rd x0_1 (l1.length : Int))) - x7_1)) - x8_1)) % 4294967296))) := ⟨_, ⟨rfl⟩⟩
      replace H : (some (decide (((IntKind.u64.wrap ((IntKind.u64.wrap ((IntKind.u64.wrap (rd x0_1 (l1.length : Int))) - x7_1)) - x8_1)) / 9223372036854775808) > 0), y127)) = some (r1, r2) := zY Ny127 H
      simp only [Option.some.injEq, Prod.mk.injEq] at H
      obtain ⟨rfl, rfl⟩ := H
      obtain ⟨Ao15, co15, eo15⟩ := Kd.R_slice HO_0.out
      subst eo15
      have p126 : 0 ≤ ((l1.length : Int) : Int) := zD
      have q126 : (l1.length : Int) < (x0_1.length : Int) := zD
      obtain ⟨ad126, e126, hx126_0⟩ := Kd.at_int (Kd.R_reads' HO_0.out).2.2 (l1.length : Int) p126 q126
      cases e126
      (try simp only [Go.IntWalk.toNatUp] at hx126_0)
      replace p126 := eq_true p126
      replace q126 := eq_true q126
      have p14 : 0 ≤ ((l1.length : Int) : Int) := zD
      have q14 : ((l1.length : Int) : Int) < ((x0_1.length : Int) : Int) := zD
      obtain ⟨go14, co14, eo14, gb14, gl14, cl14, HG14⟩ := Kd.R_form HO_0.out (by omega)
      (first | cases eo14 | (injection eo14 with ea_ en_ ec_; (first | subst ea_ | (injection ea_ with ea_; subst ea_)); subst ec_; clear en_))
      have GB14 := Aside0.mk gb14
      have GG14 := Aside0.mk HG14
      clear gb14 gl14 HG14
      have HMgo14 := Aside0.mk (show (P0_ go14 ∨ w.heap.size ≤ go14) from (HO_0.out.1 _ rfl))
      (first | simp only [add_plain] at hx126_0 | skip)
      obtain ⟨hx14_0, hf14_0⟩ := Kd.R_celln 0 HO_0.out ((l1.length : Int) : Int) p14 q14
      (try simp only [Go.IntWalk.toNatUp] at hx14_0 hf14_0)
      replace p14 := eq_true p14
      replace q14 := eq_true q14
      have HP16 := Kd.R_putg HO_0.out ((l1.length : Int) : Int) ((IntKind.u64.wrap ((IntKind.u64.wrap ((IntKind.u64.wrap (rd x0_1 (l1.length : Int))) - x7_1)) - x8_1)) % 4294967296)
      go_wp2_with (first | ((with_reducible refine gate_store (t := 107) (p := 62) rfl ?_); refine store_event (t := 107) (p := 62) (v := ?vo_w17) (w1 := (wr.setCell ⟨go14, ((l1.length : Int) : Int).toNat, none⟩ (.int .u32 ((IntKind.u64.wrap ((IntKind.u64.wrap ((IntKind.u64.wrap (rd x0_1 (l1.length : Int))) - x7_1)) - x8_1)) % 4294967296)))) ?hg ?ho ?hn ?hr ?_; (case ho => rfl); (case hg => rfl); (case hn => rfl); (case hr => first | (go_simp; done) | (go_simp; rfl)); intro w17 hw; have hg : wr.grownBy w17 (some go14) := (by rw [hw]; exact HP16.2); have hp_ : Kd.R (Kd.int .u32) 107 w17 w0.heap.size (fun k_ => (P0_ k_ ∨ w.heap.size ≤ k_)) (.slice (some ⟨go14, 0, none⟩) x0_1.length co15) y127 := (by rw [hw, Ny127.out]; exact HP16.1); clear HP16; replace HB := Aside0.mk ((by rw [hw]; exact below_set (HB.out) GB14.out : Below w0.heap.size w0 w17)); replace HK := Aside0.mk (Kept.of_grown (S := (fun k_ => P0_ k_)) hg zK (fun k_ e_ => (HO_0.out.1 k_ e_))); replace HO_0 := Aside0.mk (hp_); clear hg hw hp_))
      go_ret
      exact ⟨zR, zO HO_0, zB, zK⟩
     ·rw [if_neg c13] at H
      exact absurd H (by simp)
    ·rw [if_neg c12] at H
     exact absurd H (by simp)
-- nat_putBack
def nat_putBack.l0 : Nat → List Int → List Int → Int → List Int → Int → Int → Option (List Int)
 | 0, _, _, _, _, _, _ => none
 | k + 1, x0, x1, x4, x7, x8, x9 => if x9 < x8 then (if 0 ≤ x9 then (if x9 < (x7.length : Int) then (if x9 < (x0.length : Int) then (nat_putBack.l0 k (x0.set (x9 : Int).toNat ((IntKind.u64.wrap (x4 + (IntKind.u64.wrap ((IntKind.u64.wrap (rd x0 x9)) + (IntKind.u64.wrap (rd x7 x9)))))) % 4294967296)) x1 ((IntKind.u64.wrap (x4 + (IntKind.u64.wrap ((IntKind.u64.wrap (rd x0 x9)) + (IntKind.u64.wrap (rd x7 x9)))))) / 4294967296) x7 x8 (wrap64 (x9 + 1))) else (none)) else (none)) else (none)) else (if 0 ≤ (x1.length : Int) then (if (x1.length : Int) < (x0.length : Int) then (some (x0.set ((x1.length : Int) : Int).toNat (((rd x0 (x1.length : Int)) + ((x4) % 4294967296)) % 4294967296))) else (none)) else (none))
def nat_putBack.f (k : Nat) (l0 : List Int) (l1 : List Int) : Option (List Int) := nat_putBack.l0 k l0 l1 0 l1 (l1.length : Int) 0
theorem nat_putBack.mono_l : ∀ k, (∀ y0 y1 y2 y3 y4 y5, LeO (nat_putBack.l0 k y0 y1 y2 y3 y4 y5) (nat_putBack.l0 (k + 1) y0 y1 y2 y3 y4 y5))
 | 0 => fun _ _ _ _ _ _ r h => by simp [nat_putBack.l0] at h
 | k + 1 => by
  have ih0 := nat_putBack.mono_l k
  ·intro y0 y1 y2 y3 y4 y5
   unfold nat_putBack.l0
   exact zM
theorem nat_putBack.mono : ∀ a0 a1 k, LeO (nat_putBack.f k a0 a1) (nat_putBack.f (k + 1) a0 a1) := by
 intro a0 a1 k
 have ih0 := nat_putBack.mono_l k
 unfold nat_putBack.f
 exact zM
theorem nat_putBack.calls (k : Nat) (P0_ : Nat → Prop) (u9000_ : Value) (l0 : List Int) (A1 : Option Addr) (c1 : Nat) (l1 : List Int) (r : List Int) (w0 w : World) (hB : Below w0.heap.size w0 w) (ho0 : Kd.R (Kd.int .u32) 107 w w0.heap.size P0_ u9000_ l0) (hr1 : ∀ W_, Kept w W_ (fun k_ => P0_ k_) → Kd.C (Kd.int .u32) W_ A1 l1.length l1) (hc1 : l1.length ≤ c1) (h : nat_putBack.f k l0 l1 = some r) :
  Calls Tryd.prog 139 #[u9000_, .slice A1 l1.length c1] w fun e w' => e = .returned (.tuple #[]) ∧ Kd.R (Kd.int .u32) 107 w' w0.heap.size (fun k_ => (P0_ k_ ∨ w.heap.size ≤ k_)) u9000_ r ∧ Below w0.heap.size w0 w' ∧ Kept w w' (fun k_ => P0_ k_) := by
 have HO0 := Aside0.mk (show Kd.R (Kd.int .u32) 107 w w0.heap.size (fun k_ => (P0_ k_ ∨ w.heap.size ≤ k_)) u9000_ l0 from Kd.R_mono ho0 (fun k_ hk => (.inl hk)))
 have HR1 := Aside0.mk hr1
 have HC1 := Aside0.mk hc1
 clear hr1 hc1
 have HK := Aside0.mk (Kept.refl w (fun k_ => P0_ k_))
 have HW0 := Aside0.mk hB.size
 have HB := Aside0.mk hB
 clear hB
 unfold nat_putBack.f at h
 have H := h
 clear h
 have H' := Aside0.mk H
 clear H
 go_enter Tryd.func139, Tryd.ntmps139
 go_wp2
 go_loopg [4, 9] k (fun kq v4 v9 w' => ∃ (x0_1 : List Int) (x4_1 : Int) (x9_1 : Int), v4 = .int .u64 x4_1 ∧ v9 = .int .i64 x9_1 ∧ Aside0 (nat_putBack.l0 kq x0_1 l1 x4_1 l1 (l1.length : Int) x9_1 = some r) ∧ Aside0 (kq ≤ k) ∧ Aside0 (Kd.R (Kd.int .u32) 107 w' w0.heap.size (fun k_ => (P0_ k_ ∨ w.heap.size ≤ k_)) u9000_ x0_1) ∧ Aside0 (Kept w w' (fun k_ => P0_ k_)) ∧ Aside0 (Below w0.heap.size w0 w'))
 case atStart => exact ⟨(l0), (0), (0), zS, zS, H', ⟨Nat.le_refl _⟩, ⟨zO HO0⟩, ⟨zK⟩, ⟨zB⟩⟩
 case round =>
  clear H'
  try clear c1
  try clear p2
  obtain ⟨x0_1, x4_1, x9_1, rfl, rfl, HA, HK1, HO_0, HK, HB⟩ := hrel
  cases gk with
  | zero => exact absurd HA.out (by simp [nat_putBack.l0])
  | succ k1 =>
   have H := HA.out
   clear HA
   simp only [nat_putBack.l0] at H
   by_cases c3 : x9_1 < (l1.length : Int)
   ·rw [if_pos c3] at H
    have c3b0 : decide (x9_1 < (l1.length : Int)) = true := decide_eq_true c3
    clear c3
    obtain ⟨c4b0, H⟩ := zF H
    obtain ⟨c5b0, H⟩ := zF H
    obtain ⟨c6b0, H⟩ := zF H
    obtain ⟨y130, Ny130⟩ : ∃ y_ : List Int, Aside0 (y_ = (x0_1.set (x9_1 : Int).toNat ((IntKind.u64.wrap (x4_1 + (IntKind.u64.wrap ((IntKind.u64.wrap (rd x0_1 x9_1)) + (IntKind.u64.wrap (rd l1 x9_1)))))) % 4294967296))) := ⟨_, ⟨rfl⟩⟩
    replace H : (nat_putBack.l0 k1 y130 l1 ((IntKind.u64.wrap (x4_1 + (IntKind.u64.wrap ((IntKind.u64.wrap (rd x0_1 x9_1)) + (IntKind.u64.wrap (rd l1 x9_1)))))) / 4294967296) l1 (l1.length : Int) (wrap64 (x9_1 + 1))) = some r := zY Ny130 H
    have H' := Aside0.mk H
    clear H
    have p128 : 0 ≤ (x9_1 : Int) := zD
    have q128 : x9_1 < (l1.length : Int) := zD
    obtain ⟨ad128, e128, hx128_0⟩ := Kd.at_int (Kd.C_kept_now HR1.out HK.out) x9_1 p128 q128
    cases e128
    replace p128 := eq_true p128
    replace q128 := eq_true q128
    obtain ⟨Ao8, co8, eo8⟩ := Kd.R_slice HO_0.out
    subst eo8
    have p129 : 0 ≤ (x9_1 : Int) := zD
    have q129 : x9_1 < (x0_1.length : Int) := zD
    obtain ⟨ad129, e129, hx129_0⟩ := Kd.at_int (Kd.R_reads' HO_0.out).2.2 x9_1 p129 q129
    cases e129
    replace p129 := eq_true p129
    replace q129 := eq_true q129
    have p7 : 0 ≤ (x9_1 : Int) := zD
    have q7 : (x9_1 : Int) < ((x0_1.length : Int) : Int) := zD
    obtain ⟨go7, co7, eo7, gb7, gl7, cl7, HG7⟩ := Kd.R_form HO_0.out (by omega)
    (first | cases eo7 | (injection eo7 with ea_ en_ ec_; (first | subst ea_ | (injection ea_ with ea_; subst ea_)); subst ec_; clear en_))
    have GB7 := Aside0.mk gb7
    have GG7 := Aside0.mk HG7
    clear gb7 gl7 HG7
    have HMgo7 := Aside0.mk (show (P0_ go7 ∨ w.heap.size ≤ go7) from (HO_0.out.1 _ rfl))
    (first | simp only [add_plain] at hx129_0 | skip)
    obtain ⟨hx7_0, hf7_0⟩ := Kd.R_celln 0 HO_0.out (x9_1 : Int) p7 q7
    replace p7 := eq_true p7
    replace q7 := eq_true q7
    have HP9 := Kd.R_putg HO_0.out (x9_1 : Int) ((IntKind.u64.wrap (x4_1 + (IntKind.u64.wrap ((IntKind.u64.wrap (rd x0_1 x9_1)) + (IntKind.u64.wrap (rd l1 x9_1)))))) % 4294967296)
    go_wp2_with (first | ((with_reducible refine gate_store (t := 107) (p := 28) rfl ?_); refine store_event (t := 107) (p := 28) (v := ?vo_w10) (w1 := (wr.setCell ⟨go7, (x9_1 : Int).toNat, none⟩ (.int .u32 ((IntKind.u64.wrap (x4_1 + (IntKind.u64.wrap ((IntKind.u64.wrap (rd x0_1 x9_1)) + (IntKind.u64.wrap (rd l1 x9_1)))))) % 4294967296)))) ?hg ?ho ?hn ?hr ?_; (case ho => rfl); (case hg => rfl); (case hn => rfl); (case hr => first | (go_simp; done) | (go_simp; rfl)); intro w10 hw; have hg : wr.grownBy w10 (some go7) := (by rw [hw]; exact HP9.2); have hp_ : Kd.R (Kd.int .u32) 107 w10 w0.heap.size (fun k_ => (P0_ k_ ∨ w.heap.size ≤ k_)) (.slice (some ⟨go7, 0, none⟩) x0_1.length co8) y130 := (by rw [hw, Ny130.out]; exact HP9.1); clear HP9; replace HB := Aside0.mk ((by rw [hw]; exact below_set (HB.out) GB7.out : Below w0.heap.size w0 w10)); replace HK := Aside0.mk (Kept.of_grown (S := (fun k_ => P0_ k_)) hg zK (fun k_ e_ => (HO_0.out.1 k_ e_))); replace HO_0 := Aside0.mk (hp_); clear hg hw hp_))
    go_roundg k1
    case measure => have := HK1.out; omega
    case rel => exact ⟨(y130), ((IntKind.u64.wrap (x4_1 + (IntKind.u64.wrap ((IntKind.u64.wrap (rd x0_1 x9_1)) + (IntKind.u64.wrap (rd l1 x9_1)))))) / 4294967296), (wrap64 (x9_1 + 1)), zS, zS, H', ⟨by have := HK1.out; omega⟩, ⟨zO HO_0⟩, ⟨zK⟩, ⟨zB⟩⟩
   ·rw [if_neg c3] at H
    have c3b0 : decide (x9_1 < (l1.length : Int)) = false := decide_eq_false c3
    clear c3
    by_cases c11 : 0 ≤ (l1.length : Int)
    ·rw [if_pos c11] at H
     have c11b0 : decide (0 ≤ (l1.length : Int)) = true := decide_eq_true c11
     have c11b1 : decide (0 ≤ l1.length) = true := decide_eq_true (by omega)
     clear c11
     by_cases c12 : (l1.length : Int) < (x0_1.length : Int)
     ·rw [if_pos c12] at H
      have c12b0 : decide ((l1.length : Int) < (x0_1.length : Int)) = true := decide_eq_true c12
      have c12b1 : decide (l1.length < x0_1.length) = true := decide_eq_true (Int.ofNat_lt.mp c12)
      clear c12
      obtain ⟨y132, Ny132⟩ : ∃ y_ : List Int, Aside0 (y_ = (x0_1.set ((l1.length : Int) : Int).toNat (((rd x0_1 (l1.length : Int)) + ((x4_1) % 4294967296)) % 4294967296))) := ⟨_, ⟨rfl⟩⟩
      replace H : (some y132) = some r := zY Ny132 H
      obtain rfl := Option.some.inj H
      obtain ⟨Ao14, co14, eo14⟩ := Kd.R_slice HO_0.out
      subst eo14
      have p131 : 0 ≤ ((l1.length : Int) : Int) := zD
      have q131 : (l1.length : Int) < (x0_1.length : Int) := zD
      obtain ⟨ad131, e131, hx131_0⟩ := Kd.at_int (Kd.R_reads' HO_0.out).2.2 (l1.length : Int) p131 q131
      cases e131
      (try simp only [Go.IntWalk.toNatUp] at hx131_0)
      replace p131 := eq_true p131
      replace q131 := eq_true q131
      have p13 : 0 ≤ ((l1.length : Int) : Int) := zD
      have q13 : ((l1.length : Int) : Int) < ((x0_1.length : Int) : Int) := zD
      obtain ⟨go13, co13, eo13, gb13, gl13, cl13, HG13⟩ := Kd.R_form HO_0.out (by omega)
      (first | cases eo13 | (injection eo13 with ea_ en_ ec_; (first | subst ea_ | (injection ea_ with ea_; subst ea_)); subst ec_; clear en_))
      have GB13 := Aside0.mk gb13
      have GG13 := Aside0.mk HG13
      clear gb13 gl13 HG13
      have HMgo13 := Aside0.mk (show (P0_ go13 ∨ w.heap.size ≤ go13) from (HO_0.out.1 _ rfl))
      (first | simp only [add_plain] at hx131_0 | skip)
      obtain ⟨hx13_0, hf13_0⟩ := Kd.R_celln 0 HO_0.out ((l1.length : Int) : Int) p13 q13
      (try simp only [Go.IntWalk.toNatUp] at hx13_0 hf13_0)
      replace p13 := eq_true p13
      replace q13 := eq_true q13
      have HP15 := Kd.R_putg HO_0.out ((l1.length : Int) : Int) (((rd x0_1 (l1.length : Int)) + ((x4_1) % 4294967296)) % 4294967296)
      go_wp2_with (first | ((with_reducible refine gate_store (t := 107) (p := 40) rfl ?_); refine store_event (t := 107) (p := 40) (v := ?vo_w16) (w1 := (wr.setCell ⟨go13, ((l1.length : Int) : Int).toNat, none⟩ (.int .u32 (((rd x0_1 (l1.length : Int)) + ((x4_1) % 4294967296)) % 4294967296)))) ?hg ?ho ?hn ?hr ?_; (case ho => rfl); (case hg => rfl); (case hn => rfl); (case hr => first | (go_simp; done) | (go_simp; rfl)); intro w16 hw; have hg : wr.grownBy w16 (some go13) := (by rw [hw]; exact HP15.2); have hp_ : Kd.R (Kd.int .u32) 107 w16 w0.heap.size (fun k_ => (P0_ k_ ∨ w.heap.size ≤ k_)) (.slice (some ⟨go13, 0, none⟩) x0_1.length co14) y132 := (by rw [hw, Ny132.out]; exact HP15.1); clear HP15; replace HB := Aside0.mk ((by rw [hw]; exact below_set (HB.out) GB13.out : Below w0.heap.size w0 w16)); replace HK := Aside0.mk (Kept.of_grown (S := (fun k_ => P0_ k_)) hg zK (fun k_ e_ => (HO_0.out.1 k_ e_))); replace HO_0 := Aside0.mk (hp_); clear hg hw hp_))
      first | go_end0 | ((try simp only [Exit.inBlock, Exit.then]); refine bodyPost_ret (results_none rfl _ _ _) rfl ?_)
      exact ⟨zR, zO HO_0, zB, zK⟩
     ·rw [if_neg c12] at H
      exact absurd H (by simp)
    ·rw [if_neg c11] at H
     exact absurd H (by simp)
-- nat_common
def nat_common.l0 : Nat → Int → Int → Option (Int)
 | 0, _, _ => none
 | k + 1, x0, x1 => if x1 > 0 then (if x1 = 0 then (none) else (nat_common.l0 k x1 (Int.tmod x0 x1))) else (some x0)
def nat_common.f (k : Nat) (a0 : Int) (a1 : Int) : Option (Int) := nat_common.l0 k a0 a1
theorem nat_common.mono_l : ∀ k, (∀ y0 y1, LeO (nat_common.l0 k y0 y1) (nat_common.l0 (k + 1) y0 y1))
 | 0 => fun _ _ r h => by simp [nat_common.l0] at h
 | k + 1 => by
  have ih0 := nat_common.mono_l k
  ·intro y0 y1
   unfold nat_common.l0
   exact zM
theorem nat_common.mono : ∀ a0 a1 k, LeO (nat_common.f k a0 a1) (nat_common.f (k + 1) a0 a1) := by
 intro a0 a1 k
 have ih0 := nat_common.mono_l k
 unfold nat_common.f
 exact zM
theorem nat_common.calls (k : Nat) (a0 : Int) (a1 : Int) (r : Int) (w : World) (h : nat_common.f k a0 a1 = some r) :
  Calls Tryd.prog 172 #[.int .u64 a0, .int .u64 a1] w fun e w' => e = .returned (.int .u64 r) ∧ Drawn0 w w' := by
 unfold nat_common.f at h
 have H := h
 clear h
 have H' := Aside0.mk H
 clear H
 go_enter Tryd.func172, Tryd.ntmps172
 go_wp2
 repeat (go_quiet (fail); try go_wp2)
 go_loopg [0, 1] k (fun kq v0 v1 w' => ∃ (x0_1 : Int) (x1_1 : Int), v0 = .int .u64 x0_1 ∧ v1 = .int .u64 x1_1 ∧ Aside0 (nat_common.l0 kq x0_1 x1_1 = some r) ∧ Aside0 (kq ≤ k) ∧ Drawn0 w w')
 case atStart => exact ⟨(a0), (a1), zS, zS, H', ⟨Nat.le_refl _⟩, by repeat (first | exact Drawn0.refl _ | apply Drawn0.step)⟩
 case round =>
  clear H'
  try clear c1
  try clear p2
  obtain ⟨x0_1, x1_1, rfl, rfl, HA, HK1, ⟨m1, rfl⟩⟩ := hrel
  cases gk with
  | zero => exact absurd HA.out (by simp [nat_common.l0])
  | succ k1 =>
   have H := HA.out
   clear HA
   simp only [nat_common.l0] at H
   by_cases c3 : x1_1 > 0
   ·rw [if_pos c3] at H
    have c3b0 : decide (0 < x1_1) = true := decide_eq_true c3
    clear c3
    by_cases c4 : x1_1 = 0
    ·rw [if_pos c4] at H
     exact absurd H (by simp)
    ·rw [if_neg c4] at H
     have c4b0 : (x1_1 == 0) = false := beq_eq_false_iff_ne.mpr c4
     have c4b1 : (x1_1 != 0) = true := bne_iff_ne.mpr c4
     have H' := Aside0.mk H
     clear H
     go_wp2
     repeat (go_quiet (fail); try go_wp2)
     go_roundg k1
     case measure => have := HK1.out; omega
     case rel => exact ⟨(x1_1), (Int.tmod x0_1 x1_1), zS, zS, H', ⟨by have := HK1.out; omega⟩, by repeat (first | exact Drawn0.refl _ | apply Drawn0.step)⟩
   ·rw [if_neg c3] at H
    have c3b0 : decide (0 < x1_1) = false := decide_eq_false c3
    clear c3
    obtain rfl := Option.some.inj H
    go_wp2
    repeat (go_quiet (fail); try go_wp2)
    go_ret
    exact ⟨zS, by repeat (first | exact Drawn0.refl _ | apply Drawn0.step)⟩
end Go.Proofs.YtgpbkoajifbcfaaDoor.A
