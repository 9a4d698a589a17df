-- printed by pp.py (wip/), a program of this work, by way of the kit's print; Lean checks it
import Derived.Test.YtgpbkoajifbcfaaDoorC0
import Derived.Test.YtgpbkoajifbcfaaDoorZ
namespace Go.Proofs.YtgpbkoajifbcfaaDoor.C
open Go.RowKit Go.Proofs.YtgpbkoajifbcfaaDoor.Z Go.Proofs.YtgpbkoajifbcfaaDoor.A Go.Proofs.YtgpbkoajifbcfaaDoor.H Go.Proofs.YtgpbkoajifbcfaaDoor.B Go.Proofs.YtgpbkoajifbcfaaDoorW.PrintWords Go.Proofs.YtgpbkoajifbcfaaDoorW.PrintLast Go.Proofs.YtgpbkoajifbcfaaDoorW.PrintMore
attribute [local go_sem] max2_int min2_int max_two min_two max_three min_three max_four min_four   -- for this text's walks alone
set_option linter.unusedVariables false
set_option linter.unusedSimpArgs false
set_option maxHeartbeats 8000000
set_option maxRecDepth 100000
-- nat_Div
mutual
def nat_Div.j0 : Nat → ByteArray → ByteArray → Bool → Option (ByteArray × ByteArray × Int)
 | 0, _, _, _ => none
 | k + 1, x0, x1, x20 => if x20 = true then ((nat_short.f k x0).bind fun t142 => ((nat_short.f k x1).bind fun t143 => (if t143 = 0 then (none) else ((nat_fromShort.f (IntKind.u64.wrap (Int.tdiv t142 t143))).bind fun t144 => ((nat_short.f k x0).bind fun t145 => ((nat_short.f k x1).bind fun t146 => (if t146 = 0 then (none) else ((nat_fromShort.f (Int.tmod t145 t146)).bind fun t147 => (some (t144, t147, 0)))))))))) else ((nat_Cmp.f k x0 x1).bind fun t148 => (if t148 < 0 then (some ((⟨#[]⟩ : ByteArray), x0, 0)) else ((nat_words.f k x0).bind fun t149 => ((nat_words.f k x1).bind fun t152 => (if (t152.length : Int) = 1 then (nat_Div.l0 k t149 t152 0 (wrap64 ((t149.length : Int) - 1))) else ((nat_longq.f k t149 t152).bind fun bt161 => ((nat_text.f k bt161.1).bind fun t167 => ((nat_text.f k bt161.2).bind fun t168 => (some (t167, t168, 0))))))))))
def nat_Div.l0 : Nat → List Int → List Int → Int → Int → Option (ByteArray × ByteArray × Int)
 | 0, _, _, _, _ => none
 | k + 1, x7, x8, x9, x10 => if x10 ≥ 0 then (if 0 ≤ x10 then (if x10 < (x7.length : Int) then (if 0 < (x8.length : Int) then (if (IntKind.u64.wrap (rd x8 0)) = 0 then (none) else (nat_Div.l0 k (x7.set (x10 : Int).toNat ((IntKind.u64.wrap (Int.tdiv (Go.bits .or .u64 (IntKind.u64.wrap (x9 * 4294967296)) (IntKind.u64.wrap (rd x7 x10))) (IntKind.u64.wrap (rd x8 0)))) % 4294967296)) x8 (Int.tmod (Go.bits .or .u64 (IntKind.u64.wrap (x9 * 4294967296)) (IntKind.u64.wrap (rd x7 x10))) (IntKind.u64.wrap (rd x8 0))) (wrap64 (x10 - 1)))) else (none)) else (none)) else (none)) else ((nat_text.f k x7).bind fun t159 => ((nat_fromShort.f x9).bind fun t160 => (some (t159, t160, 0))))
end
def nat_Div.f (k : Nat) (a0 : ByteArray) (a1 : ByteArray) : Option (ByteArray × ByteArray × Int) := (nat_trim.f k a0).bind fun t140 => ((nat_trim.f k a1).bind fun t141 => (if t141.toList = ([] : List UInt8) then (some ((⟨#[]⟩ : ByteArray), (⟨#[]⟩ : ByteArray), 12)) else (if (t140.size : Int) ≤ 8 then (nat_Div.j0 k t140 t141 (decide ((t141.size : Int) ≤ 8))) else (nat_Div.j0 k t140 t141 false))))
theorem nat_Div.mono_l : ∀ k, (∀ y0 y1 y2, LeO (nat_Div.j0 k y0 y1 y2) (nat_Div.j0 (k + 1) y0 y1 y2)) ∧ (∀ y0 y1 y2 y3, LeO (nat_Div.l0 k y0 y1 y2 y3) (nat_Div.l0 (k + 1) y0 y1 y2 y3))
 | 0 => ⟨fun _ _ _ r h => by simp [nat_Div.j0] at h, fun _ _ _ _ r h => by simp [nat_Div.l0] at h⟩
 | k + 1 => by
  obtain ⟨ih0, ih1⟩ := nat_Div.mono_l k
  refine ⟨?_, ?_⟩
  ·intro y0 y1 y2
   unfold nat_Div.j0
   have m0 := @nat_Cmp.mono
   have m1 := @nat_longq.mono
   have m2 := @nat_short.mono
   have m3 := @nat_text.mono
   have m4 := @nat_trim.mono
   have m5 := @nat_words.mono
   exact zM
  ·intro y0 y1 y2 y3
   unfold nat_Div.l0
   have m0 := @nat_Cmp.mono
   have m1 := @nat_longq.mono
   have m2 := @nat_short.mono
   have m3 := @nat_text.mono
   have m4 := @nat_trim.mono
   have m5 := @nat_words.mono
   exact zM
theorem nat_Div.mono : ∀ a0 a1 k, LeO (nat_Div.f k a0 a1) (nat_Div.f (k + 1) a0 a1) := by
 intro a0 a1 k
 obtain ⟨ih0, ih1⟩ := nat_Div.mono_l k
 unfold nat_Div.f
 have m0 := @nat_Cmp.mono
 have m1 := @nat_longq.mono
 have m2 := @nat_short.mono
 have m3 := @nat_text.mono
 have m4 := @nat_trim.mono
 have m5 := @nat_words.mono
 exact zM
def nat_Div.T15 : Bool × List (List Nat × List Nat) := (true, [([], []), ([], []), ([], []), ([], []), ([3], [3]), ([4], [4]), ([5], [5]), ([2, 6], [2, 6]), ([7], [7]), ([], []), ([], []), ([10], [10]), ([11], [11]), ([12], [12]), ([9, 13], [9, 13]), ([0, 1, 0, 1, 2, 3, 4, 5, 6, 7, 8, 12], [0, 1]), ([15, 8, 0, 1, 2, 3, 4, 5, 6, 7, 8, 12], [8, 15]), ([14, 16, 0, 1, 2, 3, 4, 5, 6, 7, 8, 9, 10, 11, 12, 13, 14, 15, 16], [2, 9, 14])])
def nat_Div.B15 : List Nat := [0, 0, 0, 0, 8, 24, 56, 124, 252, 0, 0, 1024, 3072, 7168, 15872, 7679, 40447, 131071]
theorem nat_Div.tab15 : rtab .any (opsOf Tryd.f28 15) = nat_Div.T15 := by kernel_rfl
theorem nat_Div.bits15 : waitsOk nat_Div.T15.2 nat_Div.B15 = true := by kernel_rfl
theorem nat_Div.calls (k : Nat) (a0 : ByteArray) (a1 : ByteArray) (r1 : ByteArray) (r2 : ByteArray) (r3 : Int) (w : World) (h : nat_Div.f k a0 a1 = some (r1, r2, r3)) :
  Calls Tryd.prog 28 #[.string a0, .string a1] w fun e w' => e = .returned (.tuple #[.string r1, .string r2, .int .i64 r3]) ∧ Below w.heap.size w w' := by
 have HB := Aside0.mk (Below.refl w.heap.size w)
 unfold nat_Div.f at h
 have H := h
 clear h
 obtain ⟨t140, A3, H⟩ := zH H
 obtain ⟨t141, A4, H⟩ := zH H
 by_cases c5 : t141.toList = ([] : List UInt8)
 ·rw [if_pos c5] at H
  have c5b0 : (t141.toList == ([] : List UInt8)) = true := beq_iff_eq.mpr c5
  have c5b1 : (t141.toList != ([] : List UInt8)) = false := bne_eq_false_iff_eq.mpr c5
  clear c5
  simp only [Option.some.injEq, Prod.mk.injEq] at H
  obtain ⟨rfl, rfl, rfl⟩ := H
  go_enter Tryd.func28, Tryd.ntmps28
  go_wp2_with (first | ((with_reducible refine zG 73 ?_); refine zL 14 Tryd.func73 #[.string a0] ?_; (with_reducible refine (nat_trim.calls k a0 t140 _ A3.out).mono ?_); rintro e w' ⟨rfl, ⟨nd, rfl⟩⟩; refine ⟨_, rfl, ?_⟩) | ((with_reducible refine zG 73 ?_); refine zL 16 Tryd.func73 #[.string a1] ?_; (with_reducible refine (nat_trim.calls k a1 t141 _ A4.out).mono ?_); rintro e w' ⟨rfl, ⟨nd, rfl⟩⟩; refine ⟨_, rfl, ?_⟩))
  go_ret3
  exact ⟨zR, zB⟩
 ·rw [if_neg c5] at H
  have c5b0 : (t141.toList == ([] : List UInt8)) = false := beq_eq_false_iff_ne.mpr c5
  have c5b1 : (t141.toList != ([] : List UInt8)) = true := bne_iff_ne.mpr c5
  have HC6 := Aside0.mk H
  clear H
  go_enter Tryd.func28, Tryd.ntmps28
  go_upto_region 4 with (first | ((with_reducible refine zG 73 ?_); refine zL 14 Tryd.func73 #[.string a0] ?_; (with_reducible refine (nat_trim.calls k a0 t140 _ A3.out).mono ?_); rintro e w' ⟨rfl, ⟨nd, rfl⟩⟩; refine ⟨_, rfl, ?_⟩) | ((with_reducible refine zG 73 ?_); refine zL 16 Tryd.func73 #[.string a1] ?_; (with_reducible refine (nat_trim.calls k a1 t141 _ A4.out).mono ?_); rintro e w' ⟨rfl, ⟨nd, rfl⟩⟩; refine ⟨_, rfl, ?_⟩))
  (try simp only [Act.put, List.setIfInBounds_toArray, List.set_cons_zero, List.set_cons_succ])
  go_cut [20] (fun v20 wc => ∃ (kq : Nat) (x20_5 : Bool), v20 = .bool x20_5 ∧ Aside0 (nat_Div.j0 kq t140 t141 x20_5 = some (r1, r2, r3)) ∧ Aside0 (kq ≤ k) ∧ Aside0 (Below w.heap.size w wc))
  case first =>
   have H := HC6.out
   clear HC6
   by_cases c7 : (t140.size : Int) ≤ 8
   ·rw [if_pos c7] at H
    have c7b0 : decide ((t140.size : Int) ≤ 8) = true := decide_eq_true c7
    have c7b1 : decide (t140.size ≤ 8) = true := decide_eq_true (by omega)
    clear c7
    (first | rw [c7b0] | rw [c7b1] | (simp only [i64_w, i32_w]; rw [c7b0]) | skip)
    have H' := Aside0.mk H
    clear H
    go_wp2
    go_meet
    case rel => exact ⟨_, (decide ((t141.size : Int) ≤ 8)), zS, H', ⟨by first | omega | exact Nat.le_refl _⟩, ⟨zB⟩⟩
   ·rw [if_neg c7] at H
    have c7b0 : decide ((t140.size : Int) ≤ 8) = false := decide_eq_false c7
    have c7b1 : decide (t140.size ≤ 8) = false := decide_eq_false (by omega)
    clear c7
    (first | rw [c7b0] | rw [c7b1] | (simp only [i64_w, i32_w]; rw [c7b0]) | skip)
    have H' := Aside0.mk H
    clear H
    go_wp2
    go_meet
    case rel => exact ⟨_, (false), zS, H', ⟨by first | omega | exact Nat.le_refl _⟩, ⟨zB⟩⟩
  case rest =>
   clear HC6
   try clear c2
   try clear p2
   try clear c5
   try clear c5b0
   try clear c5b1
   try clear c7
   try clear c7b0
   try clear c7b1
   obtain ⟨kq, x20_5, rfl, HA, HJ5, HB⟩ := hcut
   cases kq with
   | zero => exact absurd HA.out (by simp [nat_Div.j0])
   | succ kj5 =>
    have H := HA.out
    clear HA
    simp only [nat_Div.j0] at H
    by_cases c8 : x20_5 = true
    ·subst c8
     have H1 : ((nat_short.f kj5 t140).bind fun t142 => ((nat_short.f kj5 t141).bind fun t143 => (if t143 = 0 then (none) else ((nat_fromShort.f (IntKind.u64.wrap (Int.tdiv t142 t143))).bind fun t144 => ((nat_short.f kj5 t140).bind fun t145 => ((nat_short.f kj5 t141).bind fun t146 => (if t146 = 0 then (none) else ((nat_fromShort.f (Int.tmod t145 t146)).bind fun t147 => (some (t144, t147, 0)))))))))) = some (r1, r2, r3) := by rw [if_pos rfl] at H; exact H
     clear H
     have H := H1
     clear H1
     obtain ⟨t142, A9, H⟩ := zH H
     obtain ⟨t143, A10, H⟩ := zH H
     by_cases c11 : t143 = 0
     ·rw [if_pos c11] at H
      exact absurd H (by simp)
     ·rw [if_neg c11] at H
      have c11b0 : (t143 == 0) = false := beq_eq_false_iff_ne.mpr c11
      have c11b1 : (t143 != 0) = true := bne_iff_ne.mpr c11
      obtain ⟨t144, A12, H⟩ := zH H
      obtain ⟨t145, A13, H⟩ := zH H
      obtain ⟨t146, A14, H⟩ := zH H
      by_cases c15 : t146 = 0
      ·rw [if_pos c15] at H
       exact absurd H (by simp)
      ·rw [if_neg c15] at H
       have c15b0 : (t146 == 0) = false := beq_eq_false_iff_ne.mpr c15
       have c15b1 : (t146 != 0) = true := bne_iff_ne.mpr c15
       obtain ⟨t147, A16, H⟩ := zH H
       simp only [Option.some.injEq, Prod.mk.injEq] at H
       obtain ⟨rfl, rfl, rfl⟩ := H
       go_wp2_with (first | ((with_reducible refine zG 74 ?_); refine zL 30 Tryd.func74 #[.string t140] ?_; (with_reducible refine (nat_short.calls kj5 t140 t142 _ A9.out).mono ?_); rintro e w' ⟨rfl, ⟨nd, rfl⟩⟩; refine ⟨_, rfl, ?_⟩) | ((with_reducible refine zG 74 ?_); refine zL 32 Tryd.func74 #[.string t141] ?_; (with_reducible refine (nat_short.calls kj5 t141 t143 _ A10.out).mono ?_); rintro e w' ⟨rfl, ⟨nd, rfl⟩⟩; refine ⟨_, rfl, ?_⟩) | ((with_reducible refine zG 71 ?_); refine zL 34 Tryd.func71 #[.int .u64 (IntKind.u64.wrap (Int.tdiv t142 t143))] ?_; (with_reducible refine (nat_fromShort.calls (IntKind.u64.wrap (Int.tdiv t142 t143)) t144 _ A12.out).mono ?_); rintro e w17 ⟨rfl, hb⟩; refine ⟨_, rfl, ?_⟩; replace HB := zP hb; (try clear hb)) | ((with_reducible refine zG 74 ?_); refine zL 36 Tryd.func74 #[.string t140] ?_; (with_reducible refine (nat_short.calls kj5 t140 t145 _ A13.out).mono ?_); rintro e w' ⟨rfl, ⟨nd, rfl⟩⟩; refine ⟨_, rfl, ?_⟩) | ((with_reducible refine zG 74 ?_); refine zL 38 Tryd.func74 #[.string t141] ?_; (with_reducible refine (nat_short.calls kj5 t141 t146 _ A14.out).mono ?_); rintro e w' ⟨rfl, ⟨nd, rfl⟩⟩; refine ⟨_, rfl, ?_⟩) | ((with_reducible refine zG 71 ?_); refine zL 40 Tryd.func71 #[.int .u64 (Int.tmod t145 t146)] ?_; (with_reducible refine (nat_fromShort.calls (Int.tmod t145 t146) t147 _ A16.out).mono ?_); rintro e w18 ⟨rfl, hb⟩; refine ⟨_, rfl, ?_⟩; replace HB := zP hb; (try clear hb)))
       go_ret3
       exact ⟨zR, zB⟩
    ·replace c8 := Bool.eq_false_iff.mpr c8
     subst c8
     have H1 : ((nat_Cmp.f kj5 t140 t141).bind fun t148 => (if t148 < 0 then (some ((⟨#[]⟩ : ByteArray), t140, 0)) else ((nat_words.f kj5 t140).bind fun t149 => ((nat_words.f kj5 t141).bind fun t152 => (if (t152.length : Int) = 1 then (nat_Div.l0 kj5 t149 t152 0 (wrap64 ((t149.length : Int) - 1))) else ((nat_longq.f kj5 t149 t152).bind fun bt161 => ((nat_text.f kj5 bt161.1).bind fun t167 => ((nat_text.f kj5 bt161.2).bind fun t168 => (some (t167, t168, 0)))))))))) = some (r1, r2, r3) := by rw [if_neg (show ¬ (false = true) by decide)] at H; exact H
     clear H
     have H := H1
     clear H1
     obtain ⟨t148, A19, H⟩ := zH H
     by_cases c20 : t148 < 0
     ·rw [if_pos c20] at H
      have c20b0 : decide (t148 < 0) = true := decide_eq_true c20
      clear c20
      simp only [Option.some.injEq, Prod.mk.injEq] at H
      obtain ⟨rfl, rfl, rfl⟩ := H
      go_wp2_with (first | ((with_reducible refine zG 21 ?_); refine zL 44 Tryd.func21 #[.string t140, .string t141] ?_; (with_reducible refine (nat_Cmp.calls kj5 t140 t141 t148 _ A19.out).mono ?_); rintro e w' ⟨rfl, ⟨nd, rfl⟩⟩; refine ⟨_, rfl, ?_⟩))
      go_ret3
      exact ⟨zR, zB⟩
     ·rw [if_neg c20] at H
      have c20b0 : decide (t148 < 0) = false := decide_eq_false c20
      clear c20
      obtain ⟨t149, A21, H⟩ := zH H
      obtain ⟨t152, A22, H⟩ := zH H
      by_cases c23 : (t152.length : Int) = 1
      ·rw [if_pos c23] at H
       have c23b0 : ((t152.length : Int) == 1) = true := beq_iff_eq.mpr c23
       have c23b1 : ((t152.length : Int) != 1) = false := bne_eq_false_iff_eq.mpr c23
       clear c23
       have H' := Aside0.mk H
       clear H
       go_wp2_with (first | ((with_reducible refine zG 21 ?_); refine zL 44 Tryd.func21 #[.string t140, .string t141] ?_; (with_reducible refine (nat_Cmp.calls kj5 t140 t141 t148 _ A19.out).mono ?_); rintro e w' ⟨rfl, ⟨nd, rfl⟩⟩; refine ⟨_, rfl, ?_⟩) | ((with_reducible refine zG 77 ?_); refine zL 48 Tryd.func77 #[.string t140] ?_; (with_reducible refine (nat_words.calls kj5 t140 t149 _ A21.out).mono ?_); rintro e w24 ⟨v150, rfl, ho0, hb⟩; refine ⟨_, rfl, ?_⟩; have HO151 := Aside0.mk (Kd.R_lower ho0 (below_size zB)); replace HB := zP hb; (try clear hb); (try clear ho0)) | ((with_reducible refine zG 77 ?_); refine zL 50 Tryd.func77 #[.string t141] ?_; (with_reducible refine (nat_words.calls kj5 t141 t152 _ A22.out).mono ?_); rintro e w25 ⟨v153, rfl, ho0, hb⟩; refine ⟨_, rfl, ?_⟩; have HO154 := Aside0.mk (Kd.R_lower (Kd.R_new' ho0 (Kd.R_lt (zO HO151))) (below_size zB)); replace HO151 := Aside0.mk (Kd.R_elder' (zO HO151) (Kd.R_base ho0) hb); replace HB := zP hb; (try clear hb); (try clear ho0); obtain ⟨Ao26, co26, eo26⟩ := Kd.R_slice HO154.out; subst eo26; obtain ⟨Ao27, co27, eo27⟩ := Kd.R_slice HO151.out; subst eo27))
       go_loopg [9, 10] kj5 (fun kq v9 v10 w' => ∃ (x7_2 : List Int) (x9_2 : Int) (x10_2 : Int), v9 = .int .u64 x9_2 ∧ v10 = .int .i64 x10_2 ∧ Aside0 (nat_Div.l0 kq x7_2 t152 x9_2 x10_2 = some (r1, r2, r3)) ∧ Aside0 (kq ≤ kj5) ∧ Aside0 (Kd.R (Kd.int .u32) 107 w' w.heap.size (fun k_ => some k_ ≠ ((.slice Ao26 t152.length co26) : Value).ownBlock) (.slice Ao27 t149.length co27) x7_2) ∧ Aside0 (Kd.R (Kd.int .u32) 107 w' w.heap.size (fun k_ => some k_ ≠ ((.slice Ao27 t149.length co27) : Value).ownBlock) (.slice Ao26 t152.length co26) t152) ∧ Aside0 (Below w.heap.size w w'))
       case atStart => exact ⟨(t149), (0), (wrap64 ((t149.length : Int) - 1)), zS, zS, H', ⟨Nat.le_refl _⟩, ⟨by (with_reducible repeat (first | apply Kd.R_alloc | apply Kd.R_drewN | apply Kd.R_drew)); exact Kd.R_mono HO151.out (fun _ hk => hk.2)⟩, ⟨by (with_reducible repeat (first | apply Kd.R_alloc | apply Kd.R_drewN | apply Kd.R_drew)); exact Kd.R_mono HO154.out (fun _ hk => hk.2)⟩, ⟨zB⟩⟩
       case round =>
        clear H'
        try clear c1
        try clear c2
        try clear p2
        try clear c5
        try clear c5b0
        try clear c5b1
        try clear p6
        try clear c7
        try clear c7b0
        try clear c7b1
        try clear c8
        try clear c11
        try clear c11b0
        try clear c11b1
        try clear c15
        try clear c15b0
        try clear c15b1
        try clear c20
        try clear c20b0
        try clear c21
        try clear c23
        try clear c23b0
        try clear c23b1
        try clear p2
        obtain ⟨x7_2, x9_2, x10_2, rfl, rfl, HA, HK2, HO_7, HO_8, HB⟩ := hrel
        have hl7_2 := (Kd.R_reads' HO_7.out).1
        rw [hl7_2] at HO_7
        (try simp only [hl7_2])
        (try simp only [hl7_2] at HO_8)
        cases gk with
        | zero => exact absurd HA.out (by simp [nat_Div.l0])
        | succ k2 =>
         have H := HA.out
         clear HA
         simp only [nat_Div.l0] at H
         by_cases c28 : x10_2 ≥ 0
         ·rw [if_pos c28] at H
          have c28b0 : decide (0 ≤ x10_2) = true := decide_eq_true c28
          clear c28
          obtain ⟨c29b0, H⟩ := zF H
          obtain ⟨c30b0, H⟩ := zF H
          (try (have c30b0_0 := c30b0; simp only [hl7_2] at c30b0_0))
          by_cases c31 : 0 < (t152.length : Int)
          ·rw [if_pos c31] at H
           have c31b0 : decide (0 < (t152.length : Int)) = true := decide_eq_true c31
           (try (have c31b0_0 := c31b0; simp only [hl7_2] at c31b0_0))
           have c31b1 : decide (0 < t152.length) = true := decide_eq_true (by omega)
           clear c31
           by_cases c32 : (IntKind.u64.wrap (rd t152 0)) = 0
           ·rw [if_pos c32] at H
            exact absurd H (by simp)
           ·rw [if_neg c32] at H
            have c32b0 : ((IntKind.u64.wrap (rd t152 0)) == 0) = false := beq_eq_false_iff_ne.mpr c32
            have c32b1 : ((IntKind.u64.wrap (rd t152 0)) != 0) = true := bne_iff_ne.mpr c32
            obtain ⟨y158, Ny158⟩ : ∃ y_ : List Int, Aside0 (y_ = (x7_2.set (x10_2 : Int).toNat ((IntKind.u64.wrap (Int.tdiv (Go.bits .or .u64 (IntKind.u64.wrap (x9_2 * 4294967296)) (IntKind.u64.wrap (rd x7_2 x10_2))) (IntKind.u64.wrap (rd t152 0)))) % 4294967296))) := ⟨_, ⟨rfl⟩⟩
            replace H : (nat_Div.l0 k2 y158 t152 (Int.tmod (Go.bits .or .u64 (IntKind.u64.wrap (x9_2 * 4294967296)) (IntKind.u64.wrap (rd x7_2 x10_2))) (IntKind.u64.wrap (rd t152 0))) (wrap64 (x10_2 - 1))) = some (r1, r2, r3) := zY Ny158 H
            have H' := Aside0.mk H
            clear H
            have p155 : 0 ≤ (x10_2 : Int) := zD
            have q155 : x10_2 < (x7_2.length : Int) := zD
            obtain ⟨ad155, e155, hx155_0⟩ := Kd.at_int (Kd.R_reads' HO_7.out).2.2 x10_2 p155 q155
            cases e155
            replace p155 := eq_true p155
            replace q155 := eq_true q155
            try go_wp2
            have n0_ := Aside0.mk (Kd.R_drew HO_7.out)
            have n1_ := Aside0.mk (Kd.R_drew HO_8.out)
            have n2_ := Aside0.mk (below_drew1 HB.out)
            clear HO_7
            clear HO_8
            clear HB
            have HO_7 := n0_
            have HO_8 := n1_
            have HB := n2_
            clear n0_ n1_ n2_
            have p156 : 0 ≤ (0 : Int) := (by omega)
            have q156 : 0 < (t152.length : Int) := zD
            obtain ⟨ad156, e156, hx156_0⟩ := Kd.at_int (Kd.R_reads' HO_8.out).2.2 0 p156 q156
            cases e156
            have qi156 : (0 < t152.length) = True := eq_true (by omega)
            (try rw [show ((0 : Int)).toNat = 0 from rfl] at hx156_0)
            (try rw [Addr.add_zero'] at hx156_0)
            replace p156 := eq_true p156
            replace q156 := eq_true q156
            have p157 : 0 ≤ (0 : Int) := (by omega)
            have q157 : 0 < (t152.length : Int) := zD
            obtain ⟨ad157, e157, hx157_0⟩ := Kd.at_int (Kd.R_reads' HO_8.out).2.2 0 p157 q157
            obtain rfl : ad156 = ad157 := (by injection e157)
            have qi157 : (0 < t152.length) = True := eq_true (by omega)
            (try rw [show ((0 : Int)).toNat = 0 from rfl] at hx157_0)
            (try rw [Addr.add_zero'] at hx157_0)
            replace p157 := eq_true p157
            replace q157 := eq_true q157
            have p33 : 0 ≤ (x10_2 : Int) := zD
            have q33 : (x10_2 : Int) < ((x7_2.length : Int) : Int) := zD
            obtain ⟨go33, co33, eo33, gb33, gl33, cl33, HG33⟩ := Kd.R_form HO_7.out (by omega)
            (first | cases eo33 | (injection eo33 with ea_ en_ ec_; (first | subst ea_ | (injection ea_ with ea_; subst ea_)); subst ec_; clear en_))
            have GB33 := Aside0.mk gb33
            have GG33 := Aside0.mk HG33
            clear gb33 gl33 HG33
            (first | simp only [add_plain] at hx155_0 | skip)
            obtain ⟨hx33_0, hf33_0⟩ := Kd.R_celln 0 HO_7.out (x10_2 : Int) p33 q33
            replace p33 := eq_true p33
            replace q33 := eq_true q33
            have HP35 := Kd.R_putn HO_7.out (x10_2 : Int) ((IntKind.u64.wrap (Int.tdiv (Go.bits .or .u64 (IntKind.u64.wrap (x9_2 * 4294967296)) (IntKind.u64.wrap (rd x7_2 x10_2))) (IntKind.u64.wrap (rd t152 0)))) % 4294967296)
            rw [← Ny158.out] at HP35
            have HQ35 := Aside0.mk HP35
            clear HP35
            refine start_ (n := 18) (S := fun w' => w'.cell? ad156 = some (.int .u32 (rd t152 0)) ∧ w'.cell? ad156 = some (.int .u32 (rd t152 0))) (ds := [16]) #[false, false, false, false, false, false, false, false, false, false, false, false, false, false, false, false, false, false] (by kernel_rfl) rfl rfl ⟨hx156_0, hx157_0⟩ (fun hHeld => ?_); refine with_tabW nat_Div.tab15 nat_Div.bits15 (fun HT_ HW_ => ?_)
            generalize wr.drew = w34 at HO_7 HO_8 HB GG33 HQ35 hf33_0 hx155_0 hx156_0 hx157_0 hx33_0 hHeld ⊢
            refine pure_ (i := 0) (N := some 69) (v := ?_) (a' := ?_) #[true, false, false, false, false, false, false, false, false, false, false, false, false, false, false, false, false, false] rfl rfl (any_of HT_.out (by kernel_rfl)) (fun _ _ _ h => h) (Or.inl ⟨by rfl, ?_⟩) ?_ ?_
            rotate_left
            ·intro w'
             go_simp
             with_reducible rfl
            rotate_left
            ·simp only [Act.put, List.setIfInBounds_toArray, List.set_cons_zero, List.set_cons_succ, i64_w, i32_w]
             rfl
            refine pure_ (i := 1) (N := some 70) (v := ?_) (a' := ?_) #[true, true, false, false, false, false, false, false, false, false, false, false, false, false, false, false, false, false] rfl rfl (any_of HT_.out (by kernel_rfl)) (fun _ _ _ h => h) (Or.inl ⟨by rfl, ?_⟩) ?_ ?_
            rotate_left
            ·intro w'
             go_simp
             with_reducible rfl
            rotate_left
            ·simp only [Act.put, List.setIfInBounds_toArray, List.set_cons_zero, List.set_cons_succ, i64_w, i32_w]
             rfl
            refine pure_ (i := 2) (N := some 71) (v := ?_) (a' := ?_) #[true, true, true, false, false, false, false, false, false, false, false, false, false, false, false, false, false, false] rfl rfl (any_of HT_.out (by kernel_rfl)) (fun _ _ _ h => h) (Or.inl ⟨by rfl, ?_⟩) ?_ ?_
            rotate_left
            ·intro w'
             go_simp
             with_reducible rfl
            rotate_left
            ·simp only [Act.put, List.setIfInBounds_toArray, List.set_cons_zero, List.set_cons_succ, i64_w, i32_w]
             rfl
            refine pure_ (i := 3) (N := some 72) (v := ?_) (a' := ?_) #[true, true, true, true, false, false, false, false, false, false, false, false, false, false, false, false, false, false] rfl rfl (any_of HT_.out (by kernel_rfl)) (fun _ _ _ h => h) (Or.inl ⟨by rfl, ?_⟩) ?_ ?_
            rotate_left
            ·intro w'
             go_simp
             with_reducible rfl
            rotate_left
            ·simp only [Act.put, List.setIfInBounds_toArray, List.set_cons_zero, List.set_cons_succ, i64_w, i32_w]
             rfl
            refine pure_ (i := 4) (N := some 73) (v := ?_) (a' := ?_) #[true, true, true, true, true, false, false, false, false, false, false, false, false, false, false, false, false, false] rfl rfl (any_of HT_.out (by kernel_rfl)) (fun _ _ _ h => h) (Or.inl ⟨by rfl, ?_⟩) ?_ ?_
            rotate_left
            ·intro w'
             go_simp
             with_reducible rfl
            rotate_left
            ·simp only [Act.put, List.setIfInBounds_toArray, List.set_cons_zero, List.set_cons_succ, i64_w, i32_w]
             rfl
            refine pure_ (i := 9) (N := some 78) (v := ?_) (a' := ?_) #[true, true, true, true, true, false, false, false, false, true, false, false, false, false, false, false, false, false] rfl rfl (any_of HT_.out (by kernel_rfl)) (fun _ _ _ h => h) (Or.inl ⟨by rfl, ?_⟩) ?_ ?_
            rotate_left
            ·intro w'
             go_simp
             with_reducible rfl
            rotate_left
            ·simp only [Act.put, List.setIfInBounds_toArray, List.set_cons_zero, List.set_cons_succ, i64_w, i32_w]
             rfl
            refine pure_ (i := 10) (N := some 79) (v := ?_) (a' := ?_) #[true, true, true, true, true, false, false, false, false, true, true, false, false, false, false, false, false, false] rfl rfl (any_of HT_.out (by kernel_rfl)) (fun _ _ _ h => h) (Or.inl ⟨by rfl, ?_⟩) ?_ ?_
            rotate_left
            ·intro w'
             go_simp
             with_reducible rfl
            rotate_left
            ·simp only [Act.put, List.setIfInBounds_toArray, List.set_cons_zero, List.set_cons_succ, i64_w, i32_w]
             rfl
            refine pure_ (i := 11) (N := some 80) (v := ?_) (a' := ?_) #[true, true, true, true, true, false, false, false, false, true, true, true, false, false, false, false, false, false] rfl rfl (any_of HT_.out (by kernel_rfl)) (fun _ _ _ h => h) (Or.inl ⟨by rfl, ?_⟩) ?_ ?_
            rotate_left
            ·intro w'
             go_simp
             with_reducible rfl
            rotate_left
            ·simp only [Act.put, List.setIfInBounds_toArray, List.set_cons_zero, List.set_cons_succ, i64_w, i32_w]
             rfl
            refine take_ (i := 5) (N := some 74) (v := ?_) (a' := ?_) #[true, true, true, true, true, true, false, false, false, true, true, true, false, false, false, false, false, false] rfl rfl (take_ofW HT_.out HW_.out (by kernel_rfl)) (fun _ _ _ h => h) (Or.inl ⟨by rfl, ?_⟩) hHeld ?_ ?_
            rotate_left
            ·rintro w' ⟨s0, s1⟩
             go_simp
             with_reducible rfl
            rotate_left
            ·simp only [Act.put, List.setIfInBounds_toArray, List.set_cons_zero, List.set_cons_succ, i64_w, i32_w]
             rfl
            refine pure_ (i := 6) (N := some 75) (v := ?_) (a' := ?_) #[true, true, true, true, true, true, true, false, false, true, true, true, false, false, false, false, false, false] rfl rfl (any_of HT_.out (by kernel_rfl)) (fun _ _ _ h => h) (Or.inl ⟨by rfl, ?_⟩) ?_ ?_
            rotate_left
            ·intro w'
             go_simp
             with_reducible rfl
            rotate_left
            ·simp only [Act.put, List.setIfInBounds_toArray, List.set_cons_zero, List.set_cons_succ, i64_w, i32_w]
             rfl
            refine pure_ (i := 7) (N := some 76) (v := ?_) (a' := ?_) #[true, true, true, true, true, true, true, true, false, true, true, true, false, false, false, false, false, false] rfl rfl (any_of HT_.out (by kernel_rfl)) (fun _ _ _ h => h) (Or.inl ⟨by rfl, ?_⟩) ?_ ?_
            rotate_left
            ·intro w'
             go_simp
             with_reducible rfl
            rotate_left
            ·simp only [Act.put, List.setIfInBounds_toArray, List.set_cons_zero, List.set_cons_succ, i64_w, i32_w]
             rfl
            refine pure_ (i := 8) (N := some 77) (v := ?_) (a' := ?_) #[true, true, true, true, true, true, true, true, true, true, true, true, false, false, false, false, false, false] rfl rfl (any_of HT_.out (by kernel_rfl)) (fun _ _ _ h => h) (Or.inl ⟨by rfl, ?_⟩) ?_ ?_
            rotate_left
            ·intro w'
             go_simp
             with_reducible rfl
            rotate_left
            ·simp only [Act.put, List.setIfInBounds_toArray, List.set_cons_zero, List.set_cons_succ, i64_w, i32_w]
             rfl
            refine take_ (i := 12) (N := some 81) (v := ?_) (a' := ?_) #[true, true, true, true, true, true, true, true, true, true, true, true, true, false, false, false, false, false] rfl rfl (take_ofW HT_.out HW_.out (by kernel_rfl)) (fun _ _ _ h => h) (Or.inl ⟨by rfl, ?_⟩) hHeld ?_ ?_
            rotate_left
            ·rintro w' ⟨s0, s1⟩
             go_simp
             with_reducible rfl
            rotate_left
            ·simp only [Act.put, List.setIfInBounds_toArray, List.set_cons_zero, List.set_cons_succ, i64_w, i32_w]
             rfl
            refine pure_ (i := 13) (N := some 82) (v := ?_) (a' := ?_) #[true, true, true, true, true, true, true, true, true, true, true, true, true, true, false, false, false, false] rfl rfl (any_of HT_.out (by kernel_rfl)) (fun _ _ _ h => h) (Or.inl ⟨by rfl, ?_⟩) ?_ ?_
            rotate_left
            ·intro w'
             go_simp
             with_reducible rfl
            rotate_left
            ·simp only [Act.put, List.setIfInBounds_toArray, List.set_cons_zero, List.set_cons_succ, i64_w, i32_w]
             rfl
            refine pure_ (i := 14) (N := some 83) (v := ?_) (a' := ?_) #[true, true, true, true, true, true, true, true, true, true, true, true, true, true, true, false, false, false] rfl rfl (any_of HT_.out (by kernel_rfl)) (fun _ _ _ h => h) (Or.inl ⟨by rfl, ?_⟩) ?_ ?_
            rotate_left
            ·intro w'
             go_simp
             with_reducible rfl
            rotate_left
            ·simp only [Act.put, List.setIfInBounds_toArray, List.set_cons_zero, List.set_cons_succ, i64_w, i32_w]
             rfl
            refine pure_ (i := 15) (N := some 84) (v := ?_) (a' := ?_) #[true, true, true, true, true, true, true, true, true, true, true, true, true, true, true, true, false, false] rfl rfl (any_of HT_.out (by kernel_rfl)) (fun _ _ _ h => h) (Or.inl ⟨by rfl, ?_⟩) ?_ ?_
            rotate_left
            ·intro w'
             go_simp
             with_reducible rfl
            rotate_left
            ·simp only [Act.put, List.setIfInBounds_toArray, List.set_cons_zero, List.set_cons_succ, i64_w, i32_w]
             rfl
            refine last_ (i := 16) (N := none) #[true, true, true, true, true, true, true, true, true, true, true, true, true, true, true, true, true, false] rfl rfl (one_of HT_.out (by kernel_rfl)) (by decide) (fun K hK => ?_)
            refine skip_ (w1 := ?_) (by rfl) rfl ?_ ?_
            rotate_left
            ·go_simp
             rfl
            refine hK.out _ _ ?_
            clear hK K
            refine pure_ (i := 17) (N := some 9) (v := ?_) (a' := ?_) #[true, true, true, true, true, true, true, true, true, true, true, true, true, true, true, true, true, true] rfl rfl (any_of HT_.out (by kernel_rfl)) (fun _ _ _ h => h) (Or.inl ⟨by rfl, ?_⟩) ?_ ?_
            rotate_left
            ·intro w'
             go_simp
             with_reducible rfl
            rotate_left
            ·simp only [Act.put, List.setIfInBounds_toArray, List.set_cons_zero, List.set_cons_succ, i64_w, i32_w]
             rfl
            refine done_ (done_of HT_.out (by kernel_rfl)) ?_
            try go_wp2
            (try simp only [← hl7_2])
            go_roundg k2
            case measure => have := HJ5.out; have := HK2.out; omega
            case rel => exact ⟨(y158), (Int.tmod (Go.bits .or .u64 (IntKind.u64.wrap (x9_2 * 4294967296)) (IntKind.u64.wrap (rd x7_2 x10_2))) (IntKind.u64.wrap (rd t152 0))), (wrap64 (x10_2 - 1)), zS, zS, H', ⟨by have := HJ5.out; have := HK2.out; omega⟩, ⟨by (try simp only [hl7_2]); (with_reducible repeat (first | apply Kd.R_alloc | apply Kd.R_drewN | apply Kd.R_drew)); exact HQ35.out⟩, ⟨by (try simp only [hl7_2]); (with_reducible repeat (first | apply Kd.R_alloc | apply Kd.R_drewN | apply Kd.R_drew)); exact Kd.R_mono (Kd.R_far (p := ⟨go33, (x10_2 : Int).toNat, none⟩) (Kd.R_mono HO_8.out (fun k_ hk => (⟨hk, fun e_ => hk (by rw [e_]; rfl)⟩ : _ ∧ k_ ≠ go33))) (fun _ hk => hk.2) (.int .u32 ((IntKind.u64.wrap (Int.tdiv (Go.bits .or .u64 (IntKind.u64.wrap (x9_2 * 4294967296)) (IntKind.u64.wrap (rd x7_2 x10_2))) (IntKind.u64.wrap (rd t152 0)))) % 4294967296))) (fun _ hk => hk.1)⟩, ⟨by repeat (first | (with_reducible first | exact HB.out | apply below_alloc | apply pw_below_drewN | apply below_drew1 | refine below_set ?_ GB33.out) | exact HB.out)⟩⟩
          ·rw [if_neg c31] at H
           exact absurd H (by simp)
         ·rw [if_neg c28] at H
          have c28b0 : decide (0 ≤ x10_2) = false := decide_eq_false c28
          clear c28
          obtain ⟨t159, A36, H⟩ := zH H
          obtain ⟨t160, A37, H⟩ := zH H
          simp only [Option.some.injEq, Prod.mk.injEq] at H
          obtain ⟨rfl, rfl, rfl⟩ := H
          go_wp2_with (first | ((with_reducible refine zG 78 ?_); refine zL 86 Tryd.func78 #[.slice Ao27 x7_2.length co27] ?_; (with_reducible refine (nat_text.calls k2 _ _ x7_2 t159 _ ?side1 ?side2 A36.out).mono ?_); (case side1 => exact zC HO_7); (case side2 => exact (Kd.R_reads' HO_7.out).2.1); rintro e w38 ⟨rfl, hb⟩; refine ⟨_, rfl, ?_⟩; replace HO_7 := Aside0.mk (Kd.R_below (zO HO_7) hb); replace HO_8 := Aside0.mk (Kd.R_below (zO HO_8) hb); replace HB := zP hb; (try clear hb)) | ((with_reducible refine zG 71 ?_); refine zL 88 Tryd.func71 #[.int .u64 x9_2] ?_; (with_reducible refine (nat_fromShort.calls x9_2 t160 _ A37.out).mono ?_); rintro e w39 ⟨rfl, hb⟩; refine ⟨_, rfl, ?_⟩; replace HO_7 := Aside0.mk (Kd.R_below (zO HO_7) hb); replace HO_8 := Aside0.mk (Kd.R_below (zO HO_8) hb); replace HB := zP hb; (try clear hb)))
          go_ret3
          exact ⟨zR, zB⟩
      ·rw [if_neg c23] at H
       have c23b0 : ((t152.length : Int) == 1) = false := beq_eq_false_iff_ne.mpr c23
       have c23b1 : ((t152.length : Int) != 1) = true := bne_iff_ne.mpr c23
       obtain ⟨⟨t161, t162⟩, A40, H⟩ := zH H
       obtain ⟨t167, A41, H⟩ := zH H
       obtain ⟨t168, A42, H⟩ := zH H
       simp only [Option.some.injEq, Prod.mk.injEq] at H
       obtain ⟨rfl, rfl, rfl⟩ := H
       go_wp2_with (first | ((with_reducible refine zG 21 ?_); refine zL 44 Tryd.func21 #[.string t140, .string t141] ?_; (with_reducible refine (nat_Cmp.calls kj5 t140 t141 t148 _ A19.out).mono ?_); rintro e w' ⟨rfl, ⟨nd, rfl⟩⟩; refine ⟨_, rfl, ?_⟩) | ((with_reducible refine zG 77 ?_); refine zL 48 Tryd.func77 #[.string t140] ?_; (with_reducible refine (nat_words.calls kj5 t140 t149 _ A21.out).mono ?_); rintro e w43 ⟨v150, rfl, ho0, hb⟩; refine ⟨_, rfl, ?_⟩; have HO151 := Aside0.mk (Kd.R_lower ho0 (below_size zB)); replace HB := zP hb; (try clear hb); (try clear ho0)) | ((with_reducible refine zG 77 ?_); refine zL 50 Tryd.func77 #[.string t141] ?_; (with_reducible refine (nat_words.calls kj5 t141 t152 _ A22.out).mono ?_); rintro e w44 ⟨v153, rfl, ho0, hb⟩; refine ⟨_, rfl, ?_⟩; have HO154 := Aside0.mk (Kd.R_lower (Kd.R_new' ho0 (Kd.R_lt (zO HO151))) (below_size zB)); replace HO151 := Aside0.mk (Kd.R_elder' (zO HO151) (Kd.R_base ho0) hb); replace HB := zP hb; (try clear hb); (try clear ho0); obtain ⟨Ao45, co45, eo45⟩ := Kd.R_slice HO154.out; subst eo45; obtain ⟨Ao46, co46, eo46⟩ := Kd.R_slice HO151.out; subst eo46) | ((with_reducible refine zG 82 ?_); refine zL 92 Tryd.func82 #[.slice Ao46 t149.length co46, .slice Ao45 t152.length co45] ?_; (with_reducible refine (nat_longq.calls kj5 _ _ t149 _ _ t152 t161 t162 _ ?side1 ?side2 ?side3 ?side4 A40.out).mono ?_); (case side1 => exact zC HO151); (case side2 => exact (Kd.R_reads' HO151.out).2.1); (case side3 => exact zC HO154); (case side4 => exact (Kd.R_reads' HO154.out).2.1); rintro e w47 ⟨v163, v165, rfl, ho0, ho1, hb⟩; refine ⟨_, rfl, ?_⟩; have HO164 := Aside0.mk (Kd.R_lower (Kd.R_new' (Kd.R_new' ho0 (Kd.R_lt (zO HO151))) (Kd.R_lt (zO HO154))) (below_size zB)); have HO166 := Aside0.mk (Kd.R_lower (Kd.R_new' (Kd.R_new' ho1 (Kd.R_lt (zO HO151))) (Kd.R_lt (zO HO154))) (below_size zB)); replace HO151 := Aside0.mk (Kd.R_mono (Kd.R_told (Kd.R_told (Kd.R_old (zO HO151) hb) (Kd.R_base ho0)) (Kd.R_base ho1)) (fun _ h_ => h_.1)); replace HO154 := Aside0.mk (Kd.R_mono (Kd.R_told (Kd.R_told (Kd.R_old (zO HO154) hb) (Kd.R_base ho0)) (Kd.R_base ho1)) (fun _ h_ => h_.1)); replace HB := zP hb; (try clear hb); (try clear ho0); (try clear ho1); obtain ⟨Ao48, co48, eo48⟩ := Kd.R_slice HO164.out; subst eo48) | ((with_reducible refine zG 78 ?_); refine zL 96 Tryd.func78 #[.slice Ao48 t161.length co48] ?_; (with_reducible refine (nat_text.calls kj5 _ _ t161 t167 _ ?side1 ?side2 A41.out).mono ?_); (case side1 => exact zC HO164); (case side2 => exact (Kd.R_reads' HO164.out).2.1); rintro e w49 ⟨rfl, hb⟩; refine ⟨_, rfl, ?_⟩; replace HO151 := Aside0.mk (Kd.R_below (zO HO151) hb); replace HO154 := Aside0.mk (Kd.R_below (zO HO154) hb); replace HO164 := Aside0.mk (Kd.R_below (zO HO164) hb); replace HO166 := Aside0.mk (Kd.R_below (zO HO166) hb); replace HB := zP hb; (try clear hb); obtain ⟨Ao50, co50, eo50⟩ := Kd.R_slice HO166.out; subst eo50) | ((with_reducible refine zG 78 ?_); refine zL 98 Tryd.func78 #[.slice Ao50 t162.length co50] ?_; (with_reducible refine (nat_text.calls kj5 _ _ t162 t168 _ ?side1 ?side2 A42.out).mono ?_); (case side1 => exact zC HO166); (case side2 => exact (Kd.R_reads' HO166.out).2.1); rintro e w51 ⟨rfl, hb⟩; refine ⟨_, rfl, ?_⟩; replace HO151 := Aside0.mk (Kd.R_below (zO HO151) hb); replace HO154 := Aside0.mk (Kd.R_below (zO HO154) hb); replace HO164 := Aside0.mk (Kd.R_below (zO HO164) hb); replace HO166 := Aside0.mk (Kd.R_below (zO HO166) hb); replace HB := zP hb; (try clear hb)))
       go_ret3
       exact ⟨zR, zB⟩
-- gantref1_bit
def gantref1_bit.f (a0 : ByteArray) (a1 : Int) : Option (Int) := (gantref1_digit.f a0 (wrap64 (Int.tdiv a1 8))).bind fun t200 => (if 0 ≤ (Int.tmod a1 8) then (some (Go.bits .and .i64 (shr .i64 t200 (Int.tmod a1 8)) 1)) else (none))
theorem gantref1_bit.calls (a0 : ByteArray) (a1 : Int) (r : Int) (w : World) (h : gantref1_bit.f a0 a1 = some r) :
  Calls Tryd.prog 83 #[.string a0, .int .i64 a1] w fun e w' => e = .returned (.int .i64 r) ∧ Drawn0 w w' := by
 unfold gantref1_bit.f at h
 have H := h
 clear h
 obtain ⟨t200, A3, H⟩ := zH H
 generalize hji4 : (Int.tmod a1 8) = ji4 at H
 (try rw [hji4] at A3)
 obtain ⟨c5b0, c5b1, H⟩ := zE H
 generalize hji6 : (shr .i64 t200 (ji4)) = ji6 at H
 (try rw [hji6] at A3)
 have hji6_ : (t200 / 2 ^ min (ji4).toNat 64) = ji6 := hji6
 have hji6z : (ji4) ≤ 64 → (t200 / 2 ^ (ji4).toNat) = ji6 := shr_small hji6
 obtain rfl := Option.some.inj H
 go_enter Tryd.func83, Tryd.ntmps83
 go_wp2_with (first | ((with_reducible refine zG 75 ?_); refine zL 8 Tryd.func75 #[.string a0, .int .i64 (wrap64 (Int.tdiv a1 8))] ?_; (with_reducible refine (gantref1_digit.calls a0 (wrap64 (Int.tdiv a1 8)) t200 _ A3.out).mono ?_); rintro e w' ⟨rfl, ⟨nd, rfl⟩⟩; refine ⟨_, rfl, ?_⟩))
 go_ret
 exact ⟨by first | rfl | (simp; done) | (simp only [← hji4, ← hji6] <;> (first | rfl | simp)) | (simp [*]; done), by repeat (first | exact Drawn0.refl _ | apply Drawn0.step)⟩
-- gantref1_Share
mutual
def gantref1_Share.l0 : Nat → ByteArray → ByteArray → ByteArray → ByteArray → Int → Option (ByteArray × ByteArray)
 | 0, _, _, _, _, _ => none
 | k + 1, x0, x1, x6, x7, x8 => if x8 ≥ 0 then ((gantref1_Plus.f k x6 x6).bind fun t201 => ((gantref1_Plus.f k x7 x7).bind fun t202 => ((gantref1_bit.f x0 x8).bind fun t203 => (if t203 = 1 then ((gantref1_Plus.f k t202 (⟨#[1]⟩ : ByteArray)).bind fun t204 => (gantref1_Share.j1 k x0 x1 t201 t204 x8)) else (gantref1_Share.j1 k x0 x1 t201 t202 x8))))) else (some (x6, x7))
def gantref1_Share.j1 : Nat → ByteArray → ByteArray → ByteArray → ByteArray → Int → Option (ByteArray × ByteArray)
 | 0, _, _, _, _, _ => none
 | k + 1, x0, x1, x6, x7, x8 => (gantref1_Compare.f k x7 x1).bind fun t205 => (if t205 ≥ 0 then ((gantref1_Less.f k x7 x1).bind fun t206 => ((gantref1_Plus.f k x6 (⟨#[1]⟩ : ByteArray)).bind fun t207 => (gantref1_Share.l0 k x0 x1 t207 t206 (wrap64 (x8 - 1))))) else (gantref1_Share.l0 k x0 x1 x6 x7 (wrap64 (x8 - 1))))
end
def gantref1_Share.f (k : Nat) (a0 : ByteArray) (a1 : ByteArray) : Option (ByteArray × ByteArray) := gantref1_Share.l0 k a0 a1 (⟨#[]⟩ : ByteArray) (⟨#[]⟩ : ByteArray) (wrap64 ((wrap64 (8 * (a0.size : Int))) - 1))
theorem gantref1_Share.mono_l : ∀ k, (∀ y0 y1 y2 y3 y4, LeO (gantref1_Share.l0 k y0 y1 y2 y3 y4) (gantref1_Share.l0 (k + 1) y0 y1 y2 y3 y4)) ∧ (∀ y0 y1 y2 y3 y4, LeO (gantref1_Share.j1 k y0 y1 y2 y3 y4) (gantref1_Share.j1 (k + 1) y0 y1 y2 y3 y4))
 | 0 => ⟨fun _ _ _ _ _ r h => by simp [gantref1_Share.l0] at h, fun _ _ _ _ _ r h => by simp [gantref1_Share.j1] at h⟩
 | k + 1 => by
  obtain ⟨ih0, ih1⟩ := gantref1_Share.mono_l k
  refine ⟨?_, ?_⟩
  ·intro y0 y1 y2 y3 y4
   unfold gantref1_Share.l0
   have m0 := @gantref1_Compare.mono
   have m1 := @gantref1_Less.mono
   have m2 := @gantref1_Plus.mono
   exact zM
  ·intro y0 y1 y2 y3 y4
   unfold gantref1_Share.j1
   have m0 := @gantref1_Compare.mono
   have m1 := @gantref1_Less.mono
   have m2 := @gantref1_Plus.mono
   exact zM
theorem gantref1_Share.mono : ∀ a0 a1 k, LeO (gantref1_Share.f k a0 a1) (gantref1_Share.f (k + 1) a0 a1) := by
 intro a0 a1 k
 obtain ⟨ih0, ih1⟩ := gantref1_Share.mono_l k
 unfold gantref1_Share.f
 have m0 := @gantref1_Compare.mono
 have m1 := @gantref1_Less.mono
 have m2 := @gantref1_Plus.mono
 exact zM
theorem gantref1_Share.calls (k : Nat) (a0 : ByteArray) (a1 : ByteArray) (r1 : ByteArray) (r2 : ByteArray) (w : World) (h : gantref1_Share.f k a0 a1 = some (r1, r2)) :
  Calls Tryd.prog 29 #[.string a0, .string a1] w fun e w' => e = .returned (.tuple #[.string r1, .string r2]) ∧ Below w.heap.size w w' := by
 have HB := Aside0.mk (Below.refl w.heap.size w)
 unfold gantref1_Share.f at h
 have H := h
 clear h
 have H' := Aside0.mk H
 clear H
 go_enter Tryd.func29, Tryd.ntmps29
 go_wp2
 go_loopg [6, 7, 8] k (fun kq v6 v7 v8 w' => ∃ (x6_1 : ByteArray) (x7_1 : ByteArray) (x8_1 : Int), v6 = .string x6_1 ∧ v7 = .string x7_1 ∧ v8 = .int .i64 x8_1 ∧ Aside0 (gantref1_Share.l0 kq a0 a1 x6_1 x7_1 x8_1 = some (r1, r2)) ∧ Aside0 (kq ≤ k) ∧ Aside0 (Below w.heap.size w w'))
 case atStart => exact ⟨((⟨#[]⟩ : ByteArray)), ((⟨#[]⟩ : ByteArray)), (wrap64 ((wrap64 (8 * (a0.size : Int))) - 1)), zS, zS, zS, H', ⟨Nat.le_refl _⟩, ⟨zB⟩⟩
 case round =>
  clear H'
  try clear c2
  try clear p2
  obtain ⟨x6_1, x7_1, x8_1, rfl, rfl, rfl, HA, HK1, HB⟩ := hrel
  cases gk with
  | zero => exact absurd HA.out (by simp [gantref1_Share.l0])
  | succ k1 =>
   have H := HA.out
   clear HA
   simp only [gantref1_Share.l0] at H
   by_cases c3 : x8_1 ≥ 0
   ·rw [if_pos c3] at H
    have c3b0 : decide (0 ≤ x8_1) = true := decide_eq_true c3
    clear c3
    obtain ⟨t201, A4, H⟩ := zH H
    obtain ⟨t202, A5, H⟩ := zH H
    obtain ⟨t203, A6, H⟩ := zH H
    have HC7 := Aside0.mk H
    clear H
    go_upto_if 26 with (first | ((with_reducible refine zG 22 ?_); refine zL 19 Tryd.func22 #[.string x6_1, .string x6_1] ?_; (with_reducible refine (gantref1_Plus.calls k1 x6_1 x6_1 t201 _ A4.out).mono ?_); rintro e w8 ⟨rfl, hb⟩; refine ⟨_, rfl, ?_⟩; replace HB := zP hb; (try clear hb)) | ((with_reducible refine zG 22 ?_); refine zL 22 Tryd.func22 #[.string x7_1, .string x7_1] ?_; (with_reducible refine (gantref1_Plus.calls k1 x7_1 x7_1 t202 _ A5.out).mono ?_); rintro e w9 ⟨rfl, hb⟩; refine ⟨_, rfl, ?_⟩; replace HB := zP hb; (try clear hb)) | ((with_reducible refine zG 83 ?_); refine zL 25 Tryd.func83 #[.string a0, .int .i64 x8_1] ?_; (with_reducible refine (gantref1_bit.calls a0 x8_1 t203 _ A6.out).mono ?_); rintro e w' ⟨rfl, ⟨nd, rfl⟩⟩; refine ⟨_, rfl, ?_⟩))
    (try simp only [Act.put, List.setIfInBounds_toArray, List.set_cons_zero, List.set_cons_succ])
    go_cut [7] (fun v7 wc => ∃ (kq : Nat) (x7_6 : ByteArray), v7 = .string x7_6 ∧ Aside0 (gantref1_Share.j1 kq a0 a1 t201 x7_6 x8_1 = some (r1, r2)) ∧ Aside0 (kq ≤ k1) ∧ Aside0 (Below w.heap.size w wc))
    case first =>
     have H := HC7.out
     clear HC7
     by_cases c10 : t203 = 1
     ·rw [if_pos c10] at H
      have c10b0 : (t203 == 1) = true := beq_iff_eq.mpr c10
      have c10b1 : (t203 != 1) = false := bne_eq_false_iff_eq.mpr c10
      clear c10
      (first | rw [c10b0] | rw [c10b1] | (simp only [i64_w, i32_w]; rw [c10b0]) | skip)
      obtain ⟨t204, A11, H⟩ := zH H
      have H' := Aside0.mk H
      clear H
      go_wp2_with (first | ((with_reducible refine zG 22 ?_); refine zL 28 Tryd.func22 #[.string t202, .string (⟨#[1]⟩ : ByteArray)] ?_; (with_reducible refine (gantref1_Plus.calls k1 t202 (⟨#[1]⟩ : ByteArray) t204 _ A11.out).mono ?_); rintro e w12 ⟨rfl, hb⟩; refine ⟨_, rfl, ?_⟩; replace HB := zP hb; (try clear hb)))
      go_meet
      case rel => exact ⟨_, (t204), zS, H', ⟨by have := HK1.out; first | omega | exact Nat.le_refl _⟩, ⟨zB⟩⟩
     ·rw [if_neg c10] at H
      have c10b0 : (t203 == 1) = false := beq_eq_false_iff_ne.mpr c10
      have c10b1 : (t203 != 1) = true := bne_iff_ne.mpr c10
      (first | rw [c10b0] | rw [c10b1] | (simp only [i64_w, i32_w]; rw [c10b0]) | skip)
      have H' := Aside0.mk H
      clear H
      go_wp2
      go_meet
      case rel => exact ⟨_, (t202), zS, H', ⟨by have := HK1.out; first | omega | exact Nat.le_refl _⟩, ⟨zB⟩⟩
    case rest =>
     clear HC7
     try clear c1
     try clear c2
     try clear p2
     try clear c3
     try clear c3b0
     try clear p6
     try clear c8
     try clear c10
     try clear c10b0
     try clear c10b1
     try clear p2
     obtain ⟨kq, x7_6, rfl, HA, HJ6, HB⟩ := hcut
     cases kq with
     | zero => exact absurd HA.out (by simp [gantref1_Share.j1])
     | succ kj6 =>
      have H := HA.out
      clear HA
      simp only [gantref1_Share.j1] at H
      obtain ⟨t205, A13, H⟩ := zH H
      by_cases c14 : t205 ≥ 0
      ·rw [if_pos c14] at H
       have c14b0 : decide (0 ≤ t205) = true := decide_eq_true c14
       clear c14
       obtain ⟨t206, A15, H⟩ := zH H
       obtain ⟨t207, A16, H⟩ := zH H
       have H' := Aside0.mk H
       clear H
       go_wp2_with (first | ((with_reducible refine zG 16 ?_); refine zL 31 Tryd.func16 #[.string x7_6, .string a1] ?_; (with_reducible refine (gantref1_Compare.calls kj6 x7_6 a1 t205 _ A13.out).mono ?_); rintro e w17 ⟨rfl, hb⟩; refine ⟨_, rfl, ?_⟩; replace HB := zP hb; (try clear hb)) | ((with_reducible refine zG 20 ?_); refine zL 35 Tryd.func20 #[.string x7_6, .string a1] ?_; (with_reducible refine (gantref1_Less.calls kj6 x7_6 a1 t206 _ A15.out).mono ?_); rintro e w18 ⟨rfl, hb⟩; refine ⟨_, rfl, ?_⟩; replace HB := zP hb; (try clear hb)) | ((with_reducible refine zG 22 ?_); refine zL 37 Tryd.func22 #[.string t201, .string (⟨#[1]⟩ : ByteArray)] ?_; (with_reducible refine (gantref1_Plus.calls kj6 t201 (⟨#[1]⟩ : ByteArray) t207 _ A16.out).mono ?_); rintro e w19 ⟨rfl, hb⟩; refine ⟨_, rfl, ?_⟩; replace HB := zP hb; (try clear hb)))
       go_roundg kj6
       case measure => have := HK1.out; have := HJ6.out; omega
       case rel => exact ⟨(t207), (t206), (wrap64 (x8_1 - 1)), zS, zS, zS, H', ⟨by have := HK1.out; have := HJ6.out; omega⟩, ⟨zB⟩⟩
      ·rw [if_neg c14] at H
       have c14b0 : decide (0 ≤ t205) = false := decide_eq_false c14
       clear c14
       have H' := Aside0.mk H
       clear H
       go_wp2_with (first | ((with_reducible refine zG 16 ?_); refine zL 31 Tryd.func16 #[.string x7_6, .string a1] ?_; (with_reducible refine (gantref1_Compare.calls kj6 x7_6 a1 t205 _ A13.out).mono ?_); rintro e w20 ⟨rfl, hb⟩; refine ⟨_, rfl, ?_⟩; replace HB := zP hb; (try clear hb)))
       go_roundg kj6
       case measure => have := HK1.out; have := HJ6.out; omega
       case rel => exact ⟨(t201), (x7_6), (wrap64 (x8_1 - 1)), zS, zS, zS, H', ⟨by have := HK1.out; have := HJ6.out; omega⟩, ⟨zB⟩⟩
   ·rw [if_neg c3] at H
    have c3b0 : decide (0 ≤ x8_1) = false := decide_eq_false c3
    clear c3
    simp only [Option.some.injEq, Prod.mk.injEq] at H
    obtain ⟨rfl, rfl⟩ := H
    go_wp2
    go_ret2
    exact ⟨zR, zB⟩
end Go.Proofs.YtgpbkoajifbcfaaDoor.C
