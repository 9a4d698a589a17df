import Derived.Test.YtikepohhmagdpaaDoorYSS
namespace Go.Proofs.YtikepohhmagdpaaDoor.G
open Go.Proofs.YtikepohhmagdpaaDoor.U Go.RowKit
set_option linter.unusedVariables false
theorem mn_l {a b : Rat} (h : a ≤ b) : mn a b = a := if_pos h
theorem mx_l {a b : Rat} (h : b ≤ a) : mx a b = a := if_pos h
theorem mn_r {a b : Rat} (h : b ≤ a) : mn a b = b := by
  unfold mn
  split
  · exact Rat.le_antisymm (by assumption) h
  · rfl
theorem mx_r {a b : Rat} (h : a ≤ b) : mx a b = b := by
  unfold mx
  split
  · exact Rat.le_antisymm h (by assumption)
  · rfl
theorem mn_le {a b c : Rat} (h : a ≤ c ∨ b ≤ c) : mn a b ≤ c := by unfold mn; grind
theorem le_mx {a b c : Rat} (h : c ≤ a ∨ c ≤ b) : c ≤ mx a b := by unfold mx; grind
theorem mx_le {a b c : Rat} (h : a ≤ c) (k : b ≤ c) : mx a b ≤ c := by unfold mx; split <;> assumption
theorem le_mn {a b c : Rat} (h : c ≤ a) (k : c ≤ b) : c ≤ mn a b := by unfold mn; split <;> assumption
theorem spanAdds_law (n1 : Bool) (a1 b1 : ByteArray) (n2 : Bool) (a2 b2 : ByteArray) (n3 : Bool) (a3 b3 : ByteArray) (n4 : Bool) (a4 b4 : ByteArray) (n5 : Bool) (a5 b5 : ByteArray) (n6 : Bool) (a6 b6 : ByteArray) (s1 : a1.size ≤ 1048576) (t1 : b1.size ≤ 1048576) (s2 : a2.size ≤ 1048576) (t2 : b2.size ≤ 1048576) (s3 : a3.size ≤ 1048576) (t3 : b3.size ≤ 1048576) (s4 : a4.size ≤ 1048576) (t4 : b4.size ≤ 1048576) (s5 : a5.size ≤ 1048576) (t5 : b5.size ≤ 1048576) (s6 : a6.size ≤ 1048576) (t6 : b6.size ≤ 1048576) : CSpec Tryd.prog 7 #[ag [rr n1 a1 b1, rr n2 a2 b2], ag [rr n3 a3 b3, rr n4 a4 b4], rv n5 a5 b5, rv n6 a6 b6] (.bool true) := by
  have h1 := IsR.raw n1 a1 b1 s1 t1 (by decide)
  have h2 := IsR.raw n2 a2 b2 s2 t2 (by decide)
  have h3 := IsR.raw n3 a3 b3 s3 t3 (by decide)
  have h4 := IsR.raw n4 a4 b4 s4 t4 (by decide)
  have h5 := IsR.raw n5 a5 b5 s5 t5 (by decide)
  have h6 := IsR.raw n6 a6 b6 s6 t6 (by decide)
  have i1 := IsS.raw h1 h2 (by decide) (by decide)
  have i3 := IsS.raw h3 h4 (by decide) (by decide)
  have hgs : gs n1 a1 b1 n2 a2 b2 = (gd n1 a1 b1 && gd n2 a2 b2 && decide (qv n1 a1 b1 ≤ qv n2 a2 b2)) := by
    unfold gs
    cases gd n1 a1 b1 <;> cases gd n2 a2 b2 <;> rfl
  have l1 := i1.le
  have l3 := i3.le
  generalize sl (gs n1 a1 b1 n2 a2 b2) (qv n1 a1 b1) = x at *
  generalize sl (gs n1 a1 b1 n2 a2 b2) (qv n2 a2 b2) = y at *
  generalize sl (gs n3 a3 b3 n4 a4 b4) (qv n3 a3 b3) = z at *
  generalize sl (gs n3 a3 b3 n4 a4 b4) (qv n4 a4 b4) = u at *
  generalize qv n5 a5 b5 = v at *
  generalize qv n6 a6 b6 = w at *
  have m1 : (decide (x ≤ z) && decide (z ≤ y)) = true → ((decide (x ≤ u) && decide (z ≤ y)) == true) = true := by
    intro h
    simp only [Bool.and_eq_true, decide_eq_true_eq] at h
    simp only [decide_eq_true (Rat.le_trans h.1 l3), decide_eq_true h.2]
    rfl
  have m2 : (decide (x ≤ z) && decide (z ≤ y)) = false → ((decide (x ≤ u) && decide (z ≤ y)) == (decide (z ≤ x) && decide (x ≤ u))) = true := by
    intro h
    rw [Bool.and_eq_false_iff, decide_eq_false_iff_not, decide_eq_false_iff_not] at h
    rw [beq_iff_eq]
    by_cases c : z ≤ x
    · rw [decide_eq_true c, decide_eq_true (Rat.le_trans c l1), Bool.and_true, Bool.true_and]
    · rw [decide_eq_false c, Bool.false_and]
      have : ¬ z ≤ y := by grind
      rw [decide_eq_false this, Bool.and_false]
  obtain ⟨c0, c1, c2, c3, c4, c5, c6, c7, c8, c9, c10, c11⟩ := spanAdds_w h1 h2 h3 h4 i1 (i1.sx.mono (by decide)) (i1.sy.mono (by decide)) l1 i3 (i3.sx.mono (by decide)) (i3.sy.mono (by decide)) l3 h5 h6 (Rat.add_zero v).symm
    (by rw [mn_l (show x + z ≤ x + u by grind), mn_l (show x + z ≤ y + z by grind), mn_l (show x + z ≤ y + u by grind)])
    (by rw [mx_r (mx_le (mx_le (show x + z ≤ y + u by grind) (show x + u ≤ y + u by grind)) (show y + z ≤ y + u by grind))])
    (by rw [mn_r (show x - u ≤ x - z by grind), mn_l (show x - u ≤ y - z by grind), mn_l (show x - u ≤ y - u by grind)])
    (by rw [mx_r (a := mx (x - z) (x - u)) (mx_le (show x - z ≤ y - z by grind) (show x - u ≤ y - z by grind)), mx_l (show y - u ≤ y - z by grind)])
    (by rw [mn_l l1, mn_l (show mn x z ≤ u from mn_le (.inr l3))])
    (by rw [mx_r l1]; unfold mx; grind)
    (by rw [beq_iff_eq])
  have hw : w = w + 0 := (Rat.add_zero w).symm
  have hg : gd n1 a1 b1 = true → gd n2 a2 b2 = true → (gs n1 a1 b1 n2 a2 b2 == decide (cmpR (qv n1 a1 b1) (qv n2 a2 b2) ≤ 0)) = true := by
    intro p q
    rw [hgs, p, q, beq_iff_eq, Bool.and_self, Bool.true_and]
    exact decide_eq_decide.2 cmpR_le.symm
  have hg2 : gd n1 a1 b1 = true → gd n2 a2 b2 = false → (gs n1 a1 b1 n2 a2 b2 == false) = true := by
    intro p q
    rw [hgs, p, q]
    rfl
  have hg3 : gd n1 a1 b1 = false → (gs n1 a1 b1 n2 a2 b2 == false) = true := by
    intro p
    rw [hgs, p]
    rfl
  by_cases hv : v ≤ w
  · have hk : decide ((0 : Int) < cmpR v w) = false := decide_eq_false (fun h => absurd (cmpR_gt.1 h) (Rat.not_lt.2 hv))
    cases p : gd n1 a1 b1 <;> cases q : gd n2 a2 b2 <;> cases r : (decide (x ≤ z) && decide (z ≤ y))
    · exact c5 hv hk hw p r (hg3 p) (m2 r)
    · exact c4 hv hk hw p r (hg3 p) (m1 r)
    · exact c5 hv hk hw p r (hg3 p) (m2 r)
    · exact c4 hv hk hw p r (hg3 p) (m1 r)
    · exact c3 hv hk hw p q r (hg2 p q) (m2 r)
    · exact c2 hv hk hw p q r (hg2 p q) (m1 r)
    · exact c1 hv hk hw p q r (hg p q) (m2 r)
    · exact c0 hv hk hw p q r (hg p q) (m1 r)
  · have hv := Rat.not_le.1 hv
    have hk : decide ((0 : Int) < cmpR v w) = true := decide_eq_true (cmpR_gt.2 hv)
    cases p : gd n1 a1 b1 <;> cases q : gd n2 a2 b2 <;> cases r : (decide (x ≤ z) && decide (z ≤ y))
    · exact c11 hv hk p r (hg3 p) (m2 r)
    · exact c10 hv hk p r (hg3 p) (m1 r)
    · exact c11 hv hk p r (hg3 p) (m2 r)
    · exact c10 hv hk p r (hg3 p) (m1 r)
    · exact c9 hv hk p q r (hg2 p q) (m2 r)
    · exact c8 hv hk p q r (hg2 p q) (m1 r)
    · exact c7 hv hk p q r (hg p q) (m2 r)
    · exact c6 hv hk p q r (hg p q) (m1 r)
end Go.Proofs.YtikepohhmagdpaaDoor.G
