import Derived.Test.YtikepohhmagdpaaDoorYPB
import Derived.Test.YtikepohhmagdpaaDoorYBA
import Derived.Test.YtikepohhmagdpaaDoorYPD
section
namespace Go.Proofs.YtikepohhmagdpaaDoor.G
open Go.Proofs.YtikepohhmagdpaaDoor.U Go.RowKit
set_option linter.unusedVariables false
set_option maxRecDepth 100000
theorem ssqz_k {n1 : Bool} {a1 b1 : ByteArray}{n2 : Bool} {a2 b2 : ByteArray}{x y : Rat} {K J1 : Nat} (h1' : IsS n1 a1 b1 n2 a2 b2 x y J1) (p1 : Sz x K) (p2 : Sz y K) (l1 : x ≤ y) (k1 : K ≤ 100000000) (hz : (decide (x ≤ 0) && decide (0 ≤ y)) = true) : CSpec Tryd.prog 71 #[ag [rr n1 a1 b1, rr n2 a2 b2]] (ag [rc 0, rc (mx (x * x) (y * y))]) := ssq1 h1' p1 p2 l1 k1 hz
theorem spanB1   (h7 : gs (decide (Rat.num ((↑(-1 : Int) : Rat) / (↑(2 : Int) : Rat)) < (0 : Int))) (M.B (Int.natAbs (Rat.num ((↑(-1 : Int) : Rat) / (↑(2 : Int) : Rat))))) (M.B (Rat.den ((↑(-1 : Int) : Rat) / (↑(2 : Int) : Rat)))) (decide (Rat.num ((↑(2 : Int) : Rat) / (↑(1 : Int) : Rat)) < (0 : Int))) (M.B (Int.natAbs (Rat.num ((↑(2 : Int) : Rat) / (↑(1 : Int) : Rat))))) (M.B (Rat.den ((↑(2 : Int) : Rat) / (↑(1 : Int) : Rat)))) = true) : CSpec Tryd.prog 52 #[] (.bool true) := by
  have s0 := (int_s (n := (-1 : Int)) (by decide +kernel))
  have s1 := (int_s (n := (2 : Int)) (by decide +kernel))
  have s2 := (div_s s0 s1)
  have s3 := (isR_s s2)
  have s4 := (int_s (n := (1 : Int)) (by decide +kernel))
  have s5 := (div_s s1 s4)
  have s6 := (isR_s s5)
  have s8 := (isS_s s2 s5 (by decide +kernel) (by decide +kernel))
  exact fn_ok Tryd.func52 (sc := [(1,0,.fix (Rv ((↑(-1 : Int) : Rat) / (↑(2 : Int) : Rat)))), (1,1,.fix (Rv ((↑(2 : Int) : Rat) / (↑(1 : Int) : Rat)))), (1,2,.fix (.tuple #[ag [rc ((↑(-1 : Int) : Rat) / (↑(2 : Int) : Rat)), rc ((↑(2 : Int) : Rat) / (↑(1 : Int) : Rat))], .int IntKind.i64 (0 : Int)])), (2,0,.fix (.bool true)), (2,7,.fix (.bool true)), (2,11,.fix (ag [rc (0 : Rat), rc (mx ((↑(-1 : Int) : Rat) / (↑(2 : Int) : Rat) * ((↑(-1 : Int) : Rat) / (↑(2 : Int) : Rat))) ((↑(2 : Int) : Rat) / (↑(1 : Int) : Rat) * ((↑(2 : Int) : Rat) / (↑(1 : Int) : Rat))))])), (2,12,.fix (Rv ((↑(0 : Int) : Rat) / (↑(1 : Int) : Rat)))), (2,13,.fix (Rv ((↑(4 : Int) : Rat) / (↑(1 : Int) : Rat))))]) (sb := []) (by kernel_rfl) (hC (num_k (n := (-1 : Int)) (m := (2 : Int)) (by decide +kernel) (by decide +kernel) (by decide +kernel) (by decide +kernel) (by decide +kernel)) (hC (num_k (n := (2 : Int)) (m := (1 : Int)) (by decide +kernel) (by decide +kernel) (by decide +kernel) (by decide +kernel) (by decide +kernel)) (hC (smakea_k s3 (by decide +kernel) s6 (by decide +kernel) (by decide +kernel)) (hC ratBegun_k (hC (cbool (sgood_k s3 (by decide +kernel) s6 (by decide +kernel)) h7) (hC (ssqz_k s8 s2 s5 (by decide +kernel) (by decide +kernel) (by decide +kernel)) (hC (num_k (n := (0 : Int)) (m := (1 : Int)) (by decide +kernel) (by decide +kernel) (by decide +kernel) (by decide +kernel) (by decide +kernel)) (hC (num_k (n := (4 : Int)) (m := (1 : Int)) (by decide +kernel) (by decide +kernel) (by decide +kernel) (by decide +kernel) (by decide +kernel)) hN))))))))
theorem gs_s {x y : Rat} (hle : x ≤ y) : gs (decide (x.num < 0)) (M.B x.num.natAbs) (M.B x.den) (decide (y.num < 0)) (M.B y.num.natAbs) (M.B y.den) = true := by
  unfold gs
  rw [gd_Rv, gd_Rv, qv_Rv, qv_Rv, decide_eq_true hle]
  rfl
theorem spanBegun_k : CSpec Tryd.prog 52 #[] (.bool true) := spanB1 (gs_s (by decide +kernel))
end Go.Proofs.YtikepohhmagdpaaDoor.G
end
section
namespace Go.Proofs.YtikepohhmagdpaaDoor.G
open Go.Proofs.YtikepohhmagdpaaDoor.U Go.RowKit
set_option linter.unusedVariables false
set_option maxRecDepth 100000
theorem sgn3 (x : Rat) : x.num.sign = -1 ∧ x < 0 ∨ x.num.sign = 0 ∧ x = 0 ∨ x.num.sign = 1 ∧ 0 < x := by
  rcases Int.lt_trichotomy x.num 0 with h | h | h
  · exact .inl ⟨Int.sign_eq_neg_one_of_neg h, num_neg.1 h⟩
  · exact .inr (.inl ⟨by rw [h]; rfl, Rat.num_eq_zero.1 h⟩)
  · exact .inr (.inr ⟨Int.sign_eq_one_of_pos h, num_pos.1 h⟩)
theorem sgnp {z u : Rat} (h : z ≤ u) : decide (IntKind.wrap IntKind.i64 (Int.sign (Rat.num z) * Int.sign (Rat.num u)) ≤ (0 : Int)) = (decide (z ≤ 0) && decide (0 ≤ u)) := by
  rw [← Bool.decide_and]
  refine decide_eq_decide.2 ?_
  rcases sgn3 z with ⟨e, p⟩ | ⟨e, p⟩ | ⟨e, p⟩ <;> rcases sgn3 u with ⟨f, q⟩ | ⟨f, q⟩ | ⟨f, q⟩ <;> rw [e, f] <;> simp (config := { decide := true }) only [] <;> first | (simp only [true_iff]; constructor <;> grind) | (simp only [false_iff]; grind)
theorem inv_le {z u : Rat} (h : z ≤ u) (hp : 0 < z * u) (hz : z ≠ 0) (hu : u ≠ 0) : (1 : Rat) / u ≤ (1 : Rat) / z := by
  refine Rat.le_of_mul_le_mul_left (c := z * u) ?_ hp
  have e1 : z * u * (1 / u) = z := by grind
  have e2 : z * u * (1 / z) = u := by grind
  rw [e1, e2]
  exact h
theorem mn4 (a b c d : Rat) : mn (mn (mn a b) c) d = mn (mn (mn b a) d) c := by unfold mn; grind
theorem mx4 (a b c d : Rat) : mx (mx (mx a b) c) d = mx (mx (mx b a) d) c := by unfold mx; grind
theorem sdiva_k {n1 : Bool} {a1 b1 : ByteArray}{n2 : Bool} {a2 b2 : ByteArray}{n3 : Bool} {a3 b3 : ByteArray}{n4 : Bool} {a4 b4 : ByteArray}{x y z u : Rat} {K L J1 J3 : Nat} (h1' : IsS n1 a1 b1 n2 a2 b2 x y J1) (p1 : Sz x K) (p2 : Sz y K) (l1 : x ≤ y) (k1 : K ≤ 20000000)(h3' : IsS n3 a3 b3 n4 a4 b4 z u J3) (p3 : Sz z L) (p4 : Sz u L) (l3 : z ≤ u) (k3 : L ≤ 20000000) (hz : (decide (z ≤ 0) && decide (0 ≤ u)) = true) : CSpec Tryd.prog 67 #[ag [rr n1 a1 b1, rr n2 a2 b2], ag [rr n3 a3 b3, rr n4 a4 b4]] (.tuple #[ag [[.bool false], [.string ⟨#[]⟩], [.string ⟨#[]⟩], [.bool false], [.string ⟨#[]⟩], [.string ⟨#[]⟩]], .int .i64 12]) :=
  sdiv1 h1' p1 p2 l1 k1 h3' p3 p4 l3 k3 (by rw [sgnp l3]; exact hz)
theorem same_sign {z u : Rat} (h : z ≤ u) (hz : (decide (z ≤ 0) && decide (0 ≤ u)) = false) : z ≠ 0 ∧ u ≠ 0 ∧ 0 < z * u := by
  rw [Bool.and_eq_false_iff, decide_eq_false_iff_not, decide_eq_false_iff_not] at hz
  refine ⟨by rcases hz with hz | hz <;> grind, by rcases hz with hz | hz <;> grind, ?_⟩
  rcases hz with hz | hz
  · exact Rat.mul_pos (by grind) (by grind)
  · have := Rat.mul_pos (a := -z) (b := -u) (by grind) (by grind)
    grind
theorem sdivb_k {n1 : Bool} {a1 b1 : ByteArray}{n2 : Bool} {a2 b2 : ByteArray}{n3 : Bool} {a3 b3 : ByteArray}{n4 : Bool} {a4 b4 : ByteArray}{x y z u : Rat} {K L J1 J3 : Nat} (h1' : IsS n1 a1 b1 n2 a2 b2 x y J1) (p1 : Sz x K) (p2 : Sz y K) (l1 : x ≤ y) (k1 : K ≤ 20000000)(h3' : IsS n3 a3 b3 n4 a4 b4 z u J3) (p3 : Sz z L) (p4 : Sz u L) (l3 : z ≤ u) (k3 : L ≤ 20000000) (hz : (decide (z ≤ 0) && decide (0 ≤ u)) = false) : CSpec Tryd.prog 67 #[ag [rr n1 a1 b1, rr n2 a2 b2], ag [rr n3 a3 b3, rr n4 a4 b4]] (.tuple #[ag [rc (mn (mn (mn (x / z) (x / u)) (y / z)) (y / u)), rc (mx (mx (mx (x / z) (x / u)) (y / z)) (y / u))], .int .i64 0]) := by
  obtain ⟨z0, u0, hp⟩ := same_sign l3 hz
  have := sdiv2 h1' p1 p2 l1 k1 h3' p3 p4 l3 k3 (by rw [sgnp l3]; exact hz) u0 z0 (inv_le l3 hp z0 u0)
  have e : ∀ a b : Rat, a * (1 / b) = a / b := fun a b => by grind
  simp only [e] at this
  rwa [mn4, mx4] at this
theorem ssqn_k {n1 : Bool} {a1 b1 : ByteArray}{n2 : Bool} {a2 b2 : ByteArray}{x y : Rat} {K J1 : Nat} (h1' : IsS n1 a1 b1 n2 a2 b2 x y J1) (p1 : Sz x K) (p2 : Sz y K) (l1 : x ≤ y) (k1 : K ≤ 100000000) (hz : (decide (x ≤ 0) && decide (0 ≤ y)) = false) : CSpec Tryd.prog 71 #[ag [rr n1 a1 b1, rr n2 a2 b2]] (ag [rc (mn (x * x) (y * y)), rc (mx (x * x) (y * y))]) := ssq2 h1' p1 p2 l1 k1 hz
noncomputable def spanMuls_w_sc (n1 : Bool) (a1 b1 : ByteArray) (n2 : Bool) (a2 b2 : ByteArray) (n3 : Bool) (a3 b3 : ByteArray) (n4 : Bool) (a4 b4 : ByteArray) (x y z u : Rat) (J1 J3 : Nat) (n : Int) : Script := [(1,0,.fix (.bool true)), (3,1,.fix (ag [rc x, rc y])), (3,3,.fix (ag [rc z, rc u])), (5,1,.fix (Rv (0 : Rat))), (10,4,.fix (Rv (x * x))), (10,9,.fix (Rv (y * y))), (10,11,.read (ag [rc (mn (x * x) (y * y)), rc (mx (x * x) (y * y))])), (11,1,.fix (Rv (0 : Rat))), (12,4,.fix (Rv (0 : Rat))), (12,6,.read (ag [rc (mn (mn (mn (x * x) (y * y)) (mx (x * x) (y * y))) (0 : Rat)), rc (mx (mx (mn (x * x) (y * y)) (mx (x * x) (y * y))) (0 : Rat))])), (13,2,.fix (ag [rc (mn (mn (mn (x * z) (x * u)) (y * z)) (y * u)), rc (mx (mx (mx (x * z) (x * u)) (y * z)) (y * u))])), (13,5,.fix (ag [rc (mn (mn (mn (x * z) (x * u)) (y * z)) (y * u)), rc (mx (mx (mx (x * z) (x * u)) (y * z)) (y * u))])), (13,6,.eqs), (13,11,.eqs), (13,16,.fix (ag [rc (dn x n), rc (-dn (-y) n)])), (13,20,.fix (Rv (dn x n))), (13,24,.fix (Rv (-dn (-y) n))), (13,26,.eqs), (8,6,.fix (ag [rc (mn (mn (mn (x / z) (x / u)) (y / z)) (y / u)), rc (mx (mx (mx (x / z) (x / u)) (y / z)) (y / u))])), (8,7,.eqs)]
theorem spanMuls_w {n1 : Bool} {a1 b1 : ByteArray}{n2 : Bool} {a2 b2 : ByteArray}{n3 : Bool} {a3 b3 : ByteArray}{n4 : Bool} {a4 b4 : ByteArray}{x y z u : Rat} {J1 J3 : Nat} {n : Int} (h1' : IsS n1 a1 b1 n2 a2 b2 x y J1) (p1 : Sz x 2000000) (p2 : Sz y 2000000) (l1 : x ≤ y) (h3' : IsS n3 a3 b3 n4 a4 b4 z u J3) (p3 : Sz z 2000000) (p4 : Sz u 2000000) (l3 : z ≤ u) (hn : n ≤ 9223372036854775807)  : (((decide (z ≤ (0 : Rat)) && decide ((0 : Rat) ≤ u)) = true) → ((decide (x ≤ (0 : Rat)) && decide ((0 : Rat) ≤ y)) = true) → ((0 : Rat) = (mn (mn (mn (x * x) (y * y)) (mx (x * x) (y * y))) (0 : Rat) : Rat)) → (mx (x * x) (y * y) = (mx (mx (mn (x * x) (y * y)) (mx (x * x) (y * y))) (0 : Rat) : Rat)) → CSpec Tryd.prog 8 #[(ag [rr n1 a1 b1, rr n2 a2 b2]), (ag [rr n3 a3 b3, rr n4 a4 b4]), (.int .i64 n)] (.bool true)) ∧ (((decide (z ≤ (0 : Rat)) && decide ((0 : Rat) ≤ u)) = true) → ((decide (x ≤ (0 : Rat)) && decide ((0 : Rat) ≤ y)) = false) → CSpec Tryd.prog 8 #[(ag [rr n1 a1 b1, rr n2 a2 b2]), (ag [rr n3 a3 b3, rr n4 a4 b4]), (.int .i64 n)] (.bool true)) ∧ (((decide (z ≤ (0 : Rat)) && decide ((0 : Rat) ≤ u)) = false) → (z ≠ (0 : Rat)) → (u ≠ (0 : Rat)) → ((decide (x ≤ (0 : Rat)) && decide ((0 : Rat) ≤ y)) = true) → ((0 : Rat) = (mn (mn (mn (x * x) (y * y)) (mx (x * x) (y * y))) (0 : Rat) : Rat)) → (mx (x * x) (y * y) = (mx (mx (mn (x * x) (y * y)) (mx (x * x) (y * y))) (0 : Rat) : Rat)) → CSpec Tryd.prog 8 #[(ag [rr n1 a1 b1, rr n2 a2 b2]), (ag [rr n3 a3 b3, rr n4 a4 b4]), (.int .i64 n)] (.bool true)) ∧ (((decide (z ≤ (0 : Rat)) && decide ((0 : Rat) ≤ u)) = false) → (z ≠ (0 : Rat)) → (u ≠ (0 : Rat)) → ((decide (x ≤ (0 : Rat)) && decide ((0 : Rat) ≤ y)) = false) → CSpec Tryd.prog 8 #[(ag [rr n1 a1 b1, rr n2 a2 b2]), (ag [rr n3 a3 b3, rr n4 a4 b4]), (.int .i64 n)] (.bool true)) := by
  have w0 := (isR_s p3)
  have w1 := (isR_s p4)
  have w2 := sz0_s
  have w3 := (isR_s w2)
  have w4 := (isR_s p1)
  have w5 := (isR_s p2)
  have w6 := (mul_s p1 p1)
  have w7 := (mul_s p2 p2)
  have w8 := (mn_s w6 w7)
  have w9 := (mx_s w6 w7)
  have e0 := fun (r : List Ob) (t : Holds Tryd.prog r) => (hC (smul_k h1' p1 p2 l1 (by decide +kernel) h3' p3 p4 l3 (by decide +kernel)) (hC (rendsMul_k h1' p1 p2 l1 (by decide +kernel) h3' p3 p4 l3 (by decide +kernel)) (hP (Eq.refl (ag [rc (mn (mn (mn (x * z) (x * u)) (y * z)) (y * u)), rc (mx (mx (mx (x * z) (x * u)) (y * z)) (y * u))])) t)))
  have e1 := fun (r : List Ob) (t : Holds Tryd.prog r) => (hC (sout_k h1' p1 p2 l1 (by decide +kernel) hn) (hC (down_k w4 (by decide +kernel) hn) (hC (up_k w5 (by decide +kernel) hn) (hP (Eq.refl (ag [rc (dn x n), rc (-dn (-y) n)])) t))))
  have e2 := fun (r : List Ob) (t : Holds Tryd.prog r) => (hC (mul_k w4 w4 (by decide +kernel)) (hC (mul_k w5 w5 (by decide +kernel)) (hF (rAround2_k w6 w7 (by decide +kernel)) (hC ri0_k t))))
  refine ⟨?_, ?_, ?_, ?_⟩
  · intro g0 g1 g2 g3
    exact fn_ok Tryd.func8 (sc := [(4,2,.fix (.tuple #[ag [[.bool false], [.string ({ data := #[] })], [.string ({ data := #[] })], [.bool false], [.string ({ data := #[] })], [.string ({ data := #[] })]], .int IntKind.i64 (12 : Int)])), (5,2,.fix (.bool true)), (11,2,.fix (.bool true)), (13,9,.fix (ag [rc (0 : Rat), rc (mx (x * x) (y * y))]))] ++ spanMuls_w_sc n1 a1 b1 n2 a2 b2 n3 a3 b3 n4 a4 b4 x y z u J1 J3 n) (sb := []) (by kernel_rfl) (hC spanBegun_k (hC (rpair_k h1') (hC (rpair_k h3') (hC (sdiva_k h1' p1 p2 l1 (by decide +kernel) h3' p3 p4 l3 (by decide +kernel) g0) (hC ri0_k (hC (cbool (rin_k w0 (by decide +kernel) w1 (by decide +kernel) w3 (by decide +kernel)) g0) (e2 _ (hC (cbool (rin_k w4 (by decide +kernel) w5 (by decide +kernel) w3 (by decide +kernel)) g1) (hC ri0_k (hF (rAround3_k w8 w9 w2 (by decide +kernel)) (e0 _ (hC (ssqz_k h1' p1 p2 l1 (by decide +kernel) g1) (hP (agc (lc (rcc g2) (lc (rcc g3) (Eq.refl [])))) (e1 _ hN))))))))))))))
  · intro g0 g4
    exact fn_ok Tryd.func8 (sc := [(4,2,.fix (.tuple #[ag [[.bool false], [.string ({ data := #[] })], [.string ({ data := #[] })], [.bool false], [.string ({ data := #[] })], [.string ({ data := #[] })]], .int IntKind.i64 (12 : Int)])), (5,2,.fix (.bool true)), (11,2,.fix (.bool false)), (13,9,.fix (ag [rc (mn (x * x) (y * y)), rc (mx (x * x) (y * y))]))] ++ spanMuls_w_sc n1 a1 b1 n2 a2 b2 n3 a3 b3 n4 a4 b4 x y z u J1 J3 n) (sb := []) (by kernel_rfl) (hC spanBegun_k (hC (rpair_k h1') (hC (rpair_k h3') (hC (sdiva_k h1' p1 p2 l1 (by decide +kernel) h3' p3 p4 l3 (by decide +kernel) g0) (hC ri0_k (hC (cbool (rin_k w0 (by decide +kernel) w1 (by decide +kernel) w3 (by decide +kernel)) g0) (e2 _ (hC (cbool (rin_k w4 (by decide +kernel) w5 (by decide +kernel) w3 (by decide +kernel)) g4) (e0 _ (hC (ssqn_k h1' p1 p2 l1 (by decide +kernel) g4) (hP (Eq.refl (ag [rc (mn (x * x) (y * y)), rc (mx (x * x) (y * y))])) (e1 _ hN))))))))))))
  · intro g5 g6 g7 g1 g2 g3
    exact fn_ok Tryd.func8 (sc := [(4,2,.fix (.tuple #[ag [rc (mn (mn (mn (x / z) (x / u)) (y / z)) (y / u)), rc (mx (mx (mx (x / z) (x / u)) (y / z)) (y / u))], .int IntKind.i64 (0 : Int)])), (5,2,.fix (.bool false)), (11,2,.fix (.bool true)), (13,9,.fix (ag [rc (0 : Rat), rc (mx (x * x) (y * y))]))] ++ spanMuls_w_sc n1 a1 b1 n2 a2 b2 n3 a3 b3 n4 a4 b4 x y z u J1 J3 n) (sb := []) (by kernel_rfl) (hC spanBegun_k (hC (rpair_k h1') (hC (rpair_k h3') (hC (sdivb_k h1' p1 p2 l1 (by decide +kernel) h3' p3 p4 l3 (by decide +kernel) g5) (hC ri0_k (hC (cbool (rin_k w0 (by decide +kernel) w1 (by decide +kernel) w3 (by decide +kernel)) g5) (hC (rendsDiv_k h1' p1 p2 l1 (by decide +kernel) h3' p3 p4 l3 (by decide +kernel) g6 g7) (hP (Eq.refl (ag [rc (mn (mn (mn (x / z) (x / u)) (y / z)) (y / u)), rc (mx (mx (mx (x / z) (x / u)) (y / z)) (y / u))])) (e2 _ (hC (cbool (rin_k w4 (by decide +kernel) w5 (by decide +kernel) w3 (by decide +kernel)) g1) (hC ri0_k (hF (rAround3_k w8 w9 w2 (by decide +kernel)) (e0 _ (hC (ssqz_k h1' p1 p2 l1 (by decide +kernel) g1) (hP (agc (lc (rcc g2) (lc (rcc g3) (Eq.refl [])))) (e1 _ hN))))))))))))))))
  · intro g5 g6 g7 g4
    exact fn_ok Tryd.func8 (sc := [(4,2,.fix (.tuple #[ag [rc (mn (mn (mn (x / z) (x / u)) (y / z)) (y / u)), rc (mx (mx (mx (x / z) (x / u)) (y / z)) (y / u))], .int IntKind.i64 (0 : Int)])), (5,2,.fix (.bool false)), (11,2,.fix (.bool false)), (13,9,.fix (ag [rc (mn (x * x) (y * y)), rc (mx (x * x) (y * y))]))] ++ spanMuls_w_sc n1 a1 b1 n2 a2 b2 n3 a3 b3 n4 a4 b4 x y z u J1 J3 n) (sb := []) (by kernel_rfl) (hC spanBegun_k (hC (rpair_k h1') (hC (rpair_k h3') (hC (sdivb_k h1' p1 p2 l1 (by decide +kernel) h3' p3 p4 l3 (by decide +kernel) g5) (hC ri0_k (hC (cbool (rin_k w0 (by decide +kernel) w1 (by decide +kernel) w3 (by decide +kernel)) g5) (hC (rendsDiv_k h1' p1 p2 l1 (by decide +kernel) h3' p3 p4 l3 (by decide +kernel) g6 g7) (hP (Eq.refl (ag [rc (mn (mn (mn (x / z) (x / u)) (y / z)) (y / u)), rc (mx (mx (mx (x / z) (x / u)) (y / z)) (y / u))])) (e2 _ (hC (cbool (rin_k w4 (by decide +kernel) w5 (by decide +kernel) w3 (by decide +kernel)) g4) (e0 _ (hC (ssqn_k h1' p1 p2 l1 (by decide +kernel) g4) (hP (Eq.refl (ag [rc (mn (x * x) (y * y)), rc (mx (x * x) (y * y))])) (e1 _ hN))))))))))))))
end Go.Proofs.YtikepohhmagdpaaDoor.G
end
section
namespace Go.Proofs.YtikepohhmagdpaaDoor.G
open Go.Proofs.YtikepohhmagdpaaDoor.U Go.RowKit
set_option linter.unusedVariables false
theorem sq_0 (x : Rat) : 0 ≤ x * x := by
  rcases Rat.le_total (a := 0) (b := x) with h | h
  · exact Rat.mul_nonneg h h
  · have := Rat.mul_nonneg (a := -x) (b := -x) (by grind) (by grind)
    grind
theorem sqm {a b : Rat} (ha : 0 ≤ a) (hb : 0 ≤ b) : 0 = mn (mn (mn a b) (mx a b)) 0 := by unfold mn mx; grind
theorem sqx {a b : Rat} (ha : 0 ≤ a) (hb : 0 ≤ b) : mx a b = mx (mx (mn a b) (mx a b)) 0 := by unfold mn mx; grind
theorem spanMuls_law (n1 : Bool) (a1 b1 : ByteArray) (n2 : Bool) (a2 b2 : ByteArray) (n3 : Bool) (a3 b3 : ByteArray) (n4 : Bool) (a4 b4 : ByteArray) (n : Int) (s1 : a1.size ≤ 1048576) (t1 : b1.size ≤ 1048576) (s2 : a2.size ≤ 1048576) (t2 : b2.size ≤ 1048576) (s3 : a3.size ≤ 1048576) (t3 : b3.size ≤ 1048576) (s4 : a4.size ≤ 1048576) (t4 : b4.size ≤ 1048576) (hn : (-9223372036854775808 : Int) ≤ n ∧ n ≤ 9223372036854775807) : CSpec Tryd.prog 8 #[ag [rr n1 a1 b1, rr n2 a2 b2], ag [rr n3 a3 b3, rr n4 a4 b4], .int .i64 n] (.bool true) := by
  have i1 := IsS.raw (IsR.raw n1 a1 b1 s1 t1 (by decide)) (IsR.raw n2 a2 b2 s2 t2 (by decide)) (by decide) (by decide)
  have i3 := IsS.raw (IsR.raw n3 a3 b3 s3 t3 (by decide)) (IsR.raw n4 a4 b4 s4 t4 (by decide)) (by decide) (by decide)
  have l1 := i1.le
  have l3 := i3.le
  generalize sl (gs n1 a1 b1 n2 a2 b2) (qv n1 a1 b1) = x at *
  generalize sl (gs n1 a1 b1 n2 a2 b2) (qv n2 a2 b2) = y at *
  generalize sl (gs n3 a3 b3 n4 a4 b4) (qv n3 a3 b3) = z at *
  generalize sl (gs n3 a3 b3 n4 a4 b4) (qv n4 a4 b4) = u at *
  obtain ⟨c0, c1, c2, c3⟩ := spanMuls_w i1 (i1.sx.mono (by decide)) (i1.sy.mono (by decide)) l1 i3 (i3.sx.mono (by decide)) (i3.sy.mono (by decide)) l3 hn.2
  have hx := sq_0 x
  have hy := sq_0 y
  have m1 := sqm hx hy
  have m2 := sqx hx hy
  cases p : (decide (z ≤ (0 : Rat)) && decide ((0 : Rat) ≤ u)) <;> cases q : (decide (x ≤ (0 : Rat)) && decide ((0 : Rat) ≤ y))
  · obtain ⟨z0, u0, _⟩ := same_sign l3 p
    exact c3 p z0 u0 q
  · obtain ⟨z0, u0, _⟩ := same_sign l3 p
    exact c2 p z0 u0 q m1 m2
  · exact c1 p q
  · exact c0 p q m1 m2
end Go.Proofs.YtikepohhmagdpaaDoor.G
end
