import Derived.Test.YtikepohhmagdpaaDoorYPA
import Derived.Test.YtikepohhmagdpaaDoorYLA
namespace Go.Proofs.YtikepohhmagdpaaDoor.G
open Go.Proofs.YtikepohhmagdpaaDoor.U Go.RowKit
set_option linter.unusedVariables false
set_option maxRecDepth 100000
structure IsS (n1 : Bool) (a1 b1 : ByteArray) (n2 : Bool) (a2 b2 : ByteArray) (x y : Rat) (K : Nat) : Prop where
  fit : CSpec Tryd.prog 133 #[ag [rr n1 a1 b1, rr n2 a2 b2]] (ag [rc x, rc y])
  pair : CSpec Tryd.prog 53 #[ag [rr n1 a1 b1, rr n2 a2 b2]] (ag [rc x, rc y])
  le : x ≤ y
  sx : Sz x K
  sy : Sz y K
def sl (g : Bool) (x : Rat) : Rat := if g then x else 0
theorem rr_can {n : Bool} {a b : ByteArray} {x : Rat} (h : gd n a b = true) (e : qv n a b = x) : rr n a b = rc x := by
  have := gd_can h
  rw [e] at this
  injection this with h1
  injection h1 with h2
theorem dif_le {x y : Rat} : 0 ≤ (y - x).num.sign ↔ x ≤ y := by
  have h := sign_lt (x := y - x)
  have h2 : y - x < 0 ↔ y < x := by constructor <;> intro h <;> grind
  rw [← Rat.not_lt, ← h2, ← h]
  omega
theorem IsS.raw {n1 n2 : Bool} {a1 b1 a2 b2 : ByteArray} {x y : Rat} {K : Nat} (h1 : IsR n1 a1 b1 x K) (h2 : IsR n2 a2 b2 y K) (hK : K ≤ 2000000000) (k1 : 1 ≤ K) : IsS n1 a1 b1 n2 a2 b2 (sl (gs n1 a1 b1 n2 a2 b2) x) (sl (gs n1 a1 b1 n2 a2 b2) y) K := by
  have e1 := h1.eq
  have e2 := h2.eq
  cases hg : gs n1 a1 b1 n2 a2 b2 with
  | true =>
    have hg' := hg
    unfold gs at hg'
    rw [e1, e2, Bool.and_eq_true, Bool.and_eq_true] at hg'
    obtain ⟨g1, g2, g3⟩ := hg'
    have hle := of_decide_eq_true g3
    have c1 := rr_can g1 e1
    have c2 := rr_can g2 e2
    refine ⟨?_, ?_, hle, h1.sz, h2.sz⟩
    · have := sf1 h1 hK h2 hK hg
      show CSpec _ _ _ (ag [rc x, rc y])
      rw [← c1, ← c2]
      exact this
    · have := pr1 h1 hK h2 hK g1 g2 (decide_eq_true (dif_le.2 hle))
      show CSpec _ _ _ (ag [rc x, rc y])
      rw [← c1, ← c2]
      exact this
  | false =>
    have z : Sz 0 K := sz0_s.mono k1
    refine ⟨sf2 h1 hK h2 hK hg, ?_, Rat.le_refl, z, z⟩
    unfold gs at hg
    rw [e1, e2] at hg
    cases g1 : gd n1 a1 b1 with
    | false => exact pr4 h1 hK h2 hK g1
    | true => cases g2 : gd n2 a2 b2 with
      | false => exact pr3 h1 hK h2 hK g1 g2
      | true =>
        rw [g1, g2] at hg
        have hle : ¬ x ≤ y := by simpa using hg
        exact pr2 h1 hK h2 hK g1 g2 (decide_eq_false (fun h => hle (dif_le.1 h)))
theorem isS_s {x y : Rat} {K L : Nat} (h1 : Sz x K) (h2 : Sz y L) (hle : x ≤ y) (hK : K + L ≤ 2000000000) : IsS (decide (x.num < 0)) (M.B x.num.natAbs) (M.B x.den) (decide (y.num < 0)) (M.B y.num.natAbs) (M.B y.den) x y (K + L + 1) := by
  have i1 : IsR (decide (x.num < 0)) (M.B x.num.natAbs) (M.B x.den) x (K + L) := isR_s (h1.mono (by omega))
  have i2 : IsR (decide (y.num < 0)) (M.B y.num.natAbs) (M.B y.den) y (K + L) := isR_s (h2.mono (by omega))
  have hg : gs (decide (x.num < 0)) (M.B x.num.natAbs) (M.B x.den) (decide (y.num < 0)) (M.B y.num.natAbs) (M.B y.den) = true := by
    unfold gs
    rw [gd_Rv, gd_Rv, qv_Rv, qv_Rv, decide_eq_true hle]
    rfl
  exact ⟨sf1 i1 hK i2 hK hg, pr1 i1 hK i2 hK gd_Rv gd_Rv (decide_eq_true (dif_le.2 hle)), hle, h1.mono (by omega), h2.mono (by omega)⟩
theorem sfit_k {n1 n2 : Bool} {a1 b1 a2 b2 : ByteArray} {x y : Rat} {K : Nat} (h : IsS n1 a1 b1 n2 a2 b2 x y K) : CSpec Tryd.prog 133 #[ag [rr n1 a1 b1, rr n2 a2 b2]] (ag [rc x, rc y]) := h.fit
theorem rpair_k {n1 n2 : Bool} {a1 b1 a2 b2 : ByteArray} {x y : Rat} {K : Nat} (h : IsS n1 a1 b1 n2 a2 b2 x y K) : CSpec Tryd.prog 53 #[ag [rr n1 a1 b1, rr n2 a2 b2]] (ag [rc x, rc y]) := h.pair
theorem sadd_k {n1 : Bool} {a1 b1 : ByteArray}{n2 : Bool} {a2 b2 : ByteArray}{n3 : Bool} {a3 b3 : ByteArray}{n4 : Bool} {a4 b4 : ByteArray}{x y z u : Rat} {K L J1 J3 : Nat} (h1' : IsS n1 a1 b1 n2 a2 b2 x y J1) (p1 : Sz x K) (p2 : Sz y K) (l1 : x ≤ y) (k1 : K ≤ 100000000)(h3' : IsS n3 a3 b3 n4 a4 b4 z u J3) (p3 : Sz z L) (p4 : Sz u L) (l3 : z ≤ u) (k3 : L ≤ 100000000)  : CSpec Tryd.prog 60 #[(ag [rr n1 a1 b1, rr n2 a2 b2]), (ag [rr n3 a3 b3, rr n4 a4 b4])] (ag [rc (x + z), rc (y + u)]) := by
  have s0 := (isR_s p1)
  have s1 := (isR_s p3)
  have s2 := (isR_s p2)
  have s3 := (isR_s p4)
  exact fn_ok Tryd.func60 (sc := [(1,1,.fix (ag [rc x, rc y])), (1,3,.fix (ag [rc z, rc u])), (2,4,.fix (Rv (x + z))), (2,9,.fix (Rv (y + u)))]) (sb := []) (by kernel_rfl) (hC (sfit_k h1') (hC (sfit_k h3') (hC (add_k s0 s1 (by omega)) (hC (add_k s2 s3 (by omega)) hN))))
theorem ssub_k {n1 : Bool} {a1 b1 : ByteArray}{n2 : Bool} {a2 b2 : ByteArray}{n3 : Bool} {a3 b3 : ByteArray}{n4 : Bool} {a4 b4 : ByteArray}{x y z u : Rat} {K L J1 J3 : Nat} (h1' : IsS n1 a1 b1 n2 a2 b2 x y J1) (p1 : Sz x K) (p2 : Sz y K) (l1 : x ≤ y) (k1 : K ≤ 100000000)(h3' : IsS n3 a3 b3 n4 a4 b4 z u J3) (p3 : Sz z L) (p4 : Sz u L) (l3 : z ≤ u) (k3 : L ≤ 100000000)  : CSpec Tryd.prog 62 #[(ag [rr n1 a1 b1, rr n2 a2 b2]), (ag [rr n3 a3 b3, rr n4 a4 b4])] (ag [rc (x - u), rc (y - z)]) := by
  have s0 := (isR_s p1)
  have s1 := (isR_s p4)
  have s2 := (isR_s p2)
  have s3 := (isR_s p3)
  exact fn_ok Tryd.func62 (sc := [(1,1,.fix (ag [rc x, rc y])), (1,3,.fix (ag [rc z, rc u])), (2,4,.fix (Rv (x - u))), (2,9,.fix (Rv (y - z)))]) (sb := []) (by kernel_rfl) (hC (sfit_k h1') (hC (sfit_k h3') (hC (sub_k s0 s1 (by omega)) (hC (sub_k s2 s3 (by omega)) hN))))
theorem sjoin_k {n1 : Bool} {a1 b1 : ByteArray}{n2 : Bool} {a2 b2 : ByteArray}{n3 : Bool} {a3 b3 : ByteArray}{n4 : Bool} {a4 b4 : ByteArray}{x y z u : Rat} {K L J1 J3 : Nat} (h1' : IsS n1 a1 b1 n2 a2 b2 x y J1) (p1 : Sz x K) (p2 : Sz y K) (l1 : x ≤ y) (k1 : K ≤ 100000000)(h3' : IsS n3 a3 b3 n4 a4 b4 z u J3) (p3 : Sz z L) (p4 : Sz u L) (l3 : z ≤ u) (k3 : L ≤ 100000000)  : CSpec Tryd.prog 64 #[(ag [rr n1 a1 b1, rr n2 a2 b2]), (ag [rr n3 a3 b3, rr n4 a4 b4])] (ag [rc (mn x z), rc (mx y u)]) := by
  have s0 := (isR_s p1)
  have s1 := (isR_s p3)
  have s2 := (isR_s p2)
  have s3 := (isR_s p4)
  exact fn_ok Tryd.func64 (sc := [(1,1,.fix (ag [rc x, rc y])), (1,3,.fix (ag [rc z, rc u])), (2,4,.fix (Rv (mn x z))), (2,9,.fix (Rv (mx y u)))]) (sb := []) (by kernel_rfl) (hC (sfit_k h1') (hC (sfit_k h3') (hC (min_k s0 s1 (by omega)) (hC (max_k s2 s3 (by omega)) hN))))
theorem shas1 {n1 : Bool} {a1 b1 : ByteArray}{n2 : Bool} {a2 b2 : ByteArray}{n3 : Bool} {a3 b3 : ByteArray}{x y z : Rat} {K L J1 : Nat} (h1' : IsS n1 a1 b1 n2 a2 b2 x y J1) (p1 : Sz x K) (p2 : Sz y K) (l1 : x ≤ y) (k1 : K ≤ 100000000)(h3' : IsR n3 a3 b3 z L) (k3 : L ≤ 100000000) (h1 : decide (cmpR x z ≤ (0 : Int)) = true) : CSpec Tryd.prog 65 #[(ag [rr n1 a1 b1, rr n2 a2 b2]), (rv n3 a3 b3)] (.bool (decide (cmpR z y ≤ (0 : Int)))) := by
  have s0 := (isR_s p1)
  have s2 := (isR_s p2)
  exact fn_ok Tryd.func65 (sc := [(1,1,.fix (ag [rc x, rc y])), (2,3,.fix (.int IntKind.i64 (cmpR x z))), (2,4,.is (.c (.bool true))), (2,9,.fix (.int IntKind.i64 (cmpR z y)))]) (sb := []) (by kernel_rfl) (hC (sfit_k h1') (hC (cmp_k s0 h3' (by omega)) (hP (isB h1) (hC (cmp_k h3' s2 (by omega)) hN))))
theorem shas2 {n1 : Bool} {a1 b1 : ByteArray}{n2 : Bool} {a2 b2 : ByteArray}{n3 : Bool} {a3 b3 : ByteArray}{x y z : Rat} {K L J1 : Nat} (h1' : IsS n1 a1 b1 n2 a2 b2 x y J1) (p1 : Sz x K) (p2 : Sz y K) (l1 : x ≤ y) (k1 : K ≤ 100000000)(h3' : IsR n3 a3 b3 z L) (k3 : L ≤ 100000000) (h1 : decide (cmpR x z ≤ (0 : Int)) = false) : CSpec Tryd.prog 65 #[(ag [rr n1 a1 b1, rr n2 a2 b2]), (rv n3 a3 b3)] (.bool false) := by
  have s0 := (isR_s p1)
  exact fn_ok Tryd.func65 (sc := [(1,1,.fix (ag [rc x, rc y])), (2,3,.fix (.int IntKind.i64 (cmpR x z))), (2,4,.is (.c (.bool false)))]) (sb := []) (by kernel_rfl) (hC (sfit_k h1') (hC (cmp_k s0 h3' (by omega)) (hP (isB h1) hN)))
theorem smeet1 {n1 : Bool} {a1 b1 : ByteArray}{n2 : Bool} {a2 b2 : ByteArray}{n3 : Bool} {a3 b3 : ByteArray}{n4 : Bool} {a4 b4 : ByteArray}{x y z u : Rat} {K L J1 J3 : Nat} (h1' : IsS n1 a1 b1 n2 a2 b2 x y J1) (p1 : Sz x K) (p2 : Sz y K) (l1 : x ≤ y) (k1 : K ≤ 100000000)(h3' : IsS n3 a3 b3 n4 a4 b4 z u J3) (p3 : Sz z L) (p4 : Sz u L) (l3 : z ≤ u) (k3 : L ≤ 100000000) (h2 : decide (cmpR x u ≤ (0 : Int)) = true) : CSpec Tryd.prog 66 #[(ag [rr n1 a1 b1, rr n2 a2 b2]), (ag [rr n3 a3 b3, rr n4 a4 b4])] (.bool (decide (cmpR z y ≤ (0 : Int)))) := by
  have s0 := (isR_s p1)
  have s1 := (isR_s p4)
  have s3 := (isR_s p3)
  have s4 := (isR_s p2)
  exact fn_ok Tryd.func66 (sc := [(1,1,.fix (ag [rc x, rc y])), (1,3,.fix (ag [rc z, rc u])), (2,4,.fix (.int IntKind.i64 (cmpR x u))), (2,5,.is (.c (.bool true))), (2,11,.fix (.int IntKind.i64 (cmpR z y)))]) (sb := []) (by kernel_rfl) (hC (sfit_k h1') (hC (sfit_k h3') (hC (cmp_k s0 s1 (by omega)) (hP (isB h2) (hC (cmp_k s3 s4 (by omega)) hN)))))
theorem smeet2 {n1 : Bool} {a1 b1 : ByteArray}{n2 : Bool} {a2 b2 : ByteArray}{n3 : Bool} {a3 b3 : ByteArray}{n4 : Bool} {a4 b4 : ByteArray}{x y z u : Rat} {K L J1 J3 : Nat} (h1' : IsS n1 a1 b1 n2 a2 b2 x y J1) (p1 : Sz x K) (p2 : Sz y K) (l1 : x ≤ y) (k1 : K ≤ 100000000)(h3' : IsS n3 a3 b3 n4 a4 b4 z u J3) (p3 : Sz z L) (p4 : Sz u L) (l3 : z ≤ u) (k3 : L ≤ 100000000) (h2 : decide (cmpR x u ≤ (0 : Int)) = false) : CSpec Tryd.prog 66 #[(ag [rr n1 a1 b1, rr n2 a2 b2]), (ag [rr n3 a3 b3, rr n4 a4 b4])] (.bool false) := by
  have s0 := (isR_s p1)
  have s1 := (isR_s p4)
  exact fn_ok Tryd.func66 (sc := [(1,1,.fix (ag [rc x, rc y])), (1,3,.fix (ag [rc z, rc u])), (2,4,.fix (.int IntKind.i64 (cmpR x u))), (2,5,.is (.c (.bool false)))]) (sb := []) (by kernel_rfl) (hC (sfit_k h1') (hC (sfit_k h3') (hC (cmp_k s0 s1 (by omega)) (hP (isB h2) hN))))
theorem smake1 {n1 : Bool} {a1 b1 : ByteArray}{n2 : Bool} {a2 b2 : ByteArray}{x y : Rat} {K L : Nat} (h1' : IsR n1 a1 b1 x K) (k1 : K ≤ 100000000)(h2' : IsR n2 a2 b2 y L) (k2 : L ≤ 100000000) (h0 : decide ((0 : Int) < cmpR x y) = true) : CSpec Tryd.prog 54 #[(rv n1 a1 b1), (rv n2 a2 b2)] (.tuple #[ag [[.bool false], [.string ({ data := #[] })], [.string ({ data := #[] })], [.bool false], [.string ({ data := #[] })], [.string ({ data := #[] })]], .int IntKind.i64 (9 : Int)]) := by
  exact fn_ok Tryd.func54 (sc := [(1,2,.fix (.int IntKind.i64 (cmpR x y))), (1,3,.is (.c (.bool true)))]) (sb := []) (by kernel_rfl) (hC (cmp_k h1' h2' (by omega)) (hP (isB h0) hN))
theorem smake2 {n1 : Bool} {a1 b1 : ByteArray}{n2 : Bool} {a2 b2 : ByteArray}{x y : Rat} {K L : Nat} (h1' : IsR n1 a1 b1 x K) (k1 : K ≤ 100000000)(h2' : IsR n2 a2 b2 y L) (k2 : L ≤ 100000000) (h0 : decide ((0 : Int) < cmpR x y) = false) : CSpec Tryd.prog 54 #[(rv n1 a1 b1), (rv n2 a2 b2)] (.tuple #[ag [rc x, rc y], .int IntKind.i64 (0 : Int)]) := by
  exact fn_ok Tryd.func54 (sc := [(1,2,.fix (.int IntKind.i64 (cmpR x y))), (1,3,.is (.c (.bool false))), (3,2,.fix (Rv x)), (3,5,.fix (Rv y))]) (sb := []) (by kernel_rfl) (hC (cmp_k h1' h2' (by omega)) (hP (isB h0) (hC (mi_self_k h1' (by omega)) (hC (mi_self_k h2' (by omega)) hN))))
theorem rin1 {n1 : Bool} {a1 b1 : ByteArray}{n2 : Bool} {a2 b2 : ByteArray}{n3 : Bool} {a3 b3 : ByteArray}{x y z : Rat} {K L M : Nat} (h1' : IsR n1 a1 b1 x K) (k1 : K ≤ 100000000)(h2' : IsR n2 a2 b2 y L) (k2 : L ≤ 100000000)(h3' : IsR n3 a3 b3 z M) (k3 : M ≤ 100000000) (h0 : decide ((0 : Int) ≤ cmpR z x) = true) : CSpec Tryd.prog 56 #[(ag [rr n1 a1 b1, rr n2 a2 b2]), (rv n3 a3 b3)] (.bool (decide (cmpR z y ≤ (0 : Int)))) := by
  exact fn_ok Tryd.func56 (sc := [(1,3,.fix (.int IntKind.i64 (cmpR z x))), (1,4,.is (.c (.bool true))), (1,9,.fix (.int IntKind.i64 (cmpR z y)))]) (sb := []) (by kernel_rfl) (hC (cmp_k h3' h1' (by omega)) (hP (isB h0) (hC (cmp_k h3' h2' (by omega)) hN)))
theorem rin2 {n1 : Bool} {a1 b1 : ByteArray}{n2 : Bool} {a2 b2 : ByteArray}{n3 : Bool} {a3 b3 : ByteArray}{x y z : Rat} {K L M : Nat} (h1' : IsR n1 a1 b1 x K) (k1 : K ≤ 100000000)(h2' : IsR n2 a2 b2 y L) (k2 : L ≤ 100000000)(h3' : IsR n3 a3 b3 z M) (k3 : M ≤ 100000000) (h0 : decide ((0 : Int) ≤ cmpR z x) = false) : CSpec Tryd.prog 56 #[(ag [rr n1 a1 b1, rr n2 a2 b2]), (rv n3 a3 b3)] (.bool false) := by
  exact fn_ok Tryd.func56 (sc := [(1,3,.fix (.int IntKind.i64 (cmpR z x))), (1,4,.is (.c (.bool false)))]) (sb := []) (by kernel_rfl) (hC (cmp_k h3' h1' (by omega)) (hP (isB h0) hN))
theorem shas_k {n1 : Bool} {a1 b1 : ByteArray}{n2 : Bool} {a2 b2 : ByteArray}{n3 : Bool} {a3 b3 : ByteArray}{x y z : Rat} {K L J1 : Nat} (h1' : IsS n1 a1 b1 n2 a2 b2 x y J1) (p1 : Sz x K) (p2 : Sz y K) (l1 : x ≤ y) (k1 : K ≤ 100000000)(h3' : IsR n3 a3 b3 z L) (k3 : L ≤ 100000000) : CSpec Tryd.prog 65 #[ag [rr n1 a1 b1, rr n2 a2 b2], rv n3 a3 b3] (.bool (decide (x ≤ z) && decide (z ≤ y))) := by
  by_cases h : x ≤ z
  · have := shas1 h1' p1 p2 l1 k1 h3' k3 (decide_eq_true (cmpR_le.2 h))
    simpa only [cmpR_le, h, decide_true, Bool.true_and] using this
  · have := shas2 h1' p1 p2 l1 k1 h3' k3 (decide_eq_false (fun hh => h (cmpR_le.1 hh)))
    simpa only [h, decide_false, Bool.false_and] using this
theorem smeet_k {n1 : Bool} {a1 b1 : ByteArray}{n2 : Bool} {a2 b2 : ByteArray}{n3 : Bool} {a3 b3 : ByteArray}{n4 : Bool} {a4 b4 : ByteArray}{x y z u : Rat} {K L J1 J3 : Nat} (h1' : IsS n1 a1 b1 n2 a2 b2 x y J1) (p1 : Sz x K) (p2 : Sz y K) (l1 : x ≤ y) (k1 : K ≤ 100000000)(h3' : IsS n3 a3 b3 n4 a4 b4 z u J3) (p3 : Sz z L) (p4 : Sz u L) (l3 : z ≤ u) (k3 : L ≤ 100000000) : CSpec Tryd.prog 66 #[ag [rr n1 a1 b1, rr n2 a2 b2], ag [rr n3 a3 b3, rr n4 a4 b4]] (.bool (decide (x ≤ u) && decide (z ≤ y))) := by
  by_cases h : x ≤ u
  · have := smeet1 h1' p1 p2 l1 k1 h3' p3 p4 l3 k3 (decide_eq_true (cmpR_le.2 h))
    simpa only [cmpR_le, h, decide_true, Bool.true_and] using this
  · have := smeet2 h1' p1 p2 l1 k1 h3' p3 p4 l3 k3 (decide_eq_false (fun hh => h (cmpR_le.1 hh)))
    simpa only [h, decide_false, Bool.false_and] using this
theorem rin_k {n1 : Bool} {a1 b1 : ByteArray}{n2 : Bool} {a2 b2 : ByteArray}{n3 : Bool} {a3 b3 : ByteArray}{x y z : Rat} {K L M : Nat} (h1' : IsR n1 a1 b1 x K) (k1 : K ≤ 100000000)(h2' : IsR n2 a2 b2 y L) (k2 : L ≤ 100000000)(h3' : IsR n3 a3 b3 z M) (k3 : M ≤ 100000000) : CSpec Tryd.prog 56 #[ag [rr n1 a1 b1, rr n2 a2 b2], rv n3 a3 b3] (.bool (decide (x ≤ z) && decide (z ≤ y))) := by
  by_cases h : x ≤ z
  · have := rin1 h1' k1 h2' k2 h3' k3 (decide_eq_true (cmpR_ge.2 h))
    simpa only [cmpR_le, h, decide_true, Bool.true_and] using this
  · have := rin2 h1' k1 h2' k2 h3' k3 (decide_eq_false (fun hh => h (cmpR_ge.1 hh)))
    simpa only [h, decide_false, Bool.false_and] using this
theorem smakea_k {n1 : Bool} {a1 b1 : ByteArray}{n2 : Bool} {a2 b2 : ByteArray}{x y : Rat} {K L : Nat} (h1' : IsR n1 a1 b1 x K) (k1 : K ≤ 100000000)(h2' : IsR n2 a2 b2 y L) (k2 : L ≤ 100000000) (h : x ≤ y) : CSpec Tryd.prog 54 #[rv n1 a1 b1, rv n2 a2 b2] (.tuple #[ag [rc x, rc y], .int .i64 0]) :=
  smake2 h1' k1 h2' k2 (decide_eq_false (fun hh => absurd (cmpR_gt.1 hh) (Rat.not_lt.2 h)))
theorem smakeb_k {n1 : Bool} {a1 b1 : ByteArray}{n2 : Bool} {a2 b2 : ByteArray}{x y : Rat} {K L : Nat} (h1' : IsR n1 a1 b1 x K) (k1 : K ≤ 100000000)(h2' : IsR n2 a2 b2 y L) (k2 : L ≤ 100000000) (h : y < x) : CSpec Tryd.prog 54 #[rv n1 a1 b1, rv n2 a2 b2] (.tuple #[.agg #[.bool false, .string ⟨#[]⟩, .string ⟨#[]⟩, .bool false, .string ⟨#[]⟩, .string ⟨#[]⟩], .int .i64 9]) :=
  smake1 h1' k1 h2' k2 (decide_eq_true (cmpR_gt.2 h))
theorem rendsAdd_k {n1 : Bool} {a1 b1 : ByteArray}{n2 : Bool} {a2 b2 : ByteArray}{n3 : Bool} {a3 b3 : ByteArray}{n4 : Bool} {a4 b4 : ByteArray}{x y z u : Rat} {K L J1 J3 : Nat} (h1' : IsS n1 a1 b1 n2 a2 b2 x y J1) (p1 : Sz x K) (p2 : Sz y K) (l1 : x ≤ y) (k1 : K ≤ 100000000)(h3' : IsS n3 a3 b3 n4 a4 b4 z u J3) (p3 : Sz z L) (p4 : Sz u L) (l3 : z ≤ u) (k3 : L ≤ 100000000)  : CSpec Tryd.prog 61 #[(ag [rr n1 a1 b1, rr n2 a2 b2]), (ag [rr n3 a3 b3, rr n4 a4 b4]), (.func (.func 22) #[] #[])] (ag [rc (mn (mn (mn (x + z) (x + u)) (y + z)) (y + u)), rc (mx (mx (mx (x + z) (x + u)) (y + z)) (y + u))]) := by
  have s0 := (isR_s p1)
  have s1 := (isR_s p3)
  have s2 := (isR_s p4)
  have s3 := (isR_s p2)
  have s4 := (add_s p1 p3)
  have s5 := (add_s p1 p4)
  have s6 := (add_s p2 p3)
  have s7 := (add_s p2 p4)
  exact fn_ok Tryd.func61 (sc := [(1,1,.fix (ag [rc x, rc y])), (1,3,.fix (ag [rc z, rc u])), (2,5,.fix (Rv (x + z))), (2,11,.fix (Rv (x + u))), (2,17,.fix (Rv (y + z))), (2,23,.fix (Rv (y + u))), (2,25,.read (ag [rc (mn (mn (mn (x + z) (x + u)) (y + z)) (y + u)), rc (mx (mx (mx (x + z) (x + u)) (y + z)) (y + u))]))]) (sb := []) (by kernel_rfl) (hC (rpair_k h1') (hC (rpair_k h3') (hC (add_k s0 s1 (by omega)) (hC (add_k s0 s2 (by omega)) (hC (add_k s3 s1 (by omega)) (hC (add_k s3 s2 (by omega)) (hF (rAround4_k s4 s5 s6 s7 (by omega)) hN)))))))
theorem rendsSub_k {n1 : Bool} {a1 b1 : ByteArray}{n2 : Bool} {a2 b2 : ByteArray}{n3 : Bool} {a3 b3 : ByteArray}{n4 : Bool} {a4 b4 : ByteArray}{x y z u : Rat} {K L J1 J3 : Nat} (h1' : IsS n1 a1 b1 n2 a2 b2 x y J1) (p1 : Sz x K) (p2 : Sz y K) (l1 : x ≤ y) (k1 : K ≤ 100000000)(h3' : IsS n3 a3 b3 n4 a4 b4 z u J3) (p3 : Sz z L) (p4 : Sz u L) (l3 : z ≤ u) (k3 : L ≤ 100000000)  : CSpec Tryd.prog 61 #[(ag [rr n1 a1 b1, rr n2 a2 b2]), (ag [rr n3 a3 b3, rr n4 a4 b4]), (.func (.func 63) #[] #[])] (ag [rc (mn (mn (mn (x - z) (x - u)) (y - z)) (y - u)), rc (mx (mx (mx (x - z) (x - u)) (y - z)) (y - u))]) := by
  have s0 := (isR_s p1)
  have s1 := (isR_s p3)
  have s2 := (isR_s p4)
  have s3 := (isR_s p2)
  have s4 := (sub_s p1 p3)
  have s5 := (sub_s p1 p4)
  have s6 := (sub_s p2 p3)
  have s7 := (sub_s p2 p4)
  exact fn_ok Tryd.func61 (sc := [(1,1,.fix (ag [rc x, rc y])), (1,3,.fix (ag [rc z, rc u])), (2,5,.fix (Rv (x - z))), (2,11,.fix (Rv (x - u))), (2,17,.fix (Rv (y - z))), (2,23,.fix (Rv (y - u))), (2,25,.read (ag [rc (mn (mn (mn (x - z) (x - u)) (y - z)) (y - u)), rc (mx (mx (mx (x - z) (x - u)) (y - z)) (y - u))]))]) (sb := []) (by kernel_rfl) (hC (rpair_k h1') (hC (rpair_k h3') (hC (sub_k s0 s1 (by omega)) (hC (sub_k s0 s2 (by omega)) (hC (sub_k s3 s1 (by omega)) (hC (sub_k s3 s2 (by omega)) (hF (rAround4_k s4 s5 s6 s7 (by omega)) hN)))))))
theorem ssq1 {n1 : Bool} {a1 b1 : ByteArray}{n2 : Bool} {a2 b2 : ByteArray}{x y : Rat} {K J1 : Nat} (h1' : IsS n1 a1 b1 n2 a2 b2 x y J1) (p1 : Sz x K) (p2 : Sz y K) (l1 : x ≤ y) (k1 : K ≤ 100000000) (h7 : (decide (x ≤ (0 : Rat)) && decide ((0 : Rat) ≤ y)) = true) : CSpec Tryd.prog 71 #[(ag [rr n1 a1 b1, rr n2 a2 b2])] (ag [rc (0 : Rat), rc (mx (x * x) (y * y))]) := by
  have s0 := (isR_s p1)
  have s1 := (isR_s p2)
  have s2 := (mul_s p1 p1)
  have s3 := (mul_s p2 p2)
  have s4 := (isS_s p1 p2 l1 (by omega))
  have s5 := sz0_s
  have s6 := (isR_s s5)
  exact fn_ok Tryd.func71 (sc := [(1,1,.fix (ag [rc x, rc y])), (2,4,.fix (Rv (x * x))), (2,9,.fix (Rv (y * y))), (2,11,.read (ag [rc (mn (x * x) (y * y)), rc (mx (x * x) (y * y))])), (3,1,.fix (Rv (0 : Rat))), (3,2,.fix (.bool true)), (4,0,.fix (Rv (0 : Rat)))]) (sb := []) (by kernel_rfl) (hC (sfit_k h1') (hC (mul_k s0 s0 (by omega)) (hC (mul_k s1 s1 (by omega)) (hF (around2_k s2 s3 (by omega)) (hC of0_k (hC (cbool (shas_k s4 p1 p2 l1 k1 s6 (by decide +kernel)) h7) (hC of0_k hN)))))))
end Go.Proofs.YtikepohhmagdpaaDoor.G
