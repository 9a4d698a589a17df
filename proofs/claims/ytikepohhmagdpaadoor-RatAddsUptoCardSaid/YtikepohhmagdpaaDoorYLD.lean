import Derived.Test.YtikepohhmagdpaaDoorYKA
import Derived.Test.YtikepohhmagdpaaDoorYRC
import Derived.Test.YtikepohhmagdpaaDoorYBA
section
namespace Go.Proofs.YtikepohhmagdpaaDoor.G
open Go.Proofs.YtikepohhmagdpaaDoor.U Go.RowKit
set_option linter.unusedVariables false
set_option maxRecDepth 100000
def SzN (m K : Nat) : Prop := m < 256 ^ K
end Go.Proofs.YtikepohhmagdpaaDoor.G
end
section
namespace Go.Proofs.YtikepohhmagdpaaDoor.G
open Go.Proofs.YtikepohhmagdpaaDoor.U Go.RowKit Go.Proofs.YtikepohhmagdpaaDoor.A Go.Proofs.YtikepohhmagdpaaDoor.B Go.Proofs.YtikepohhmagdpaaDoor.C Go.Proofs.YtikepohhmagdpaaDoor.R Go.Proofs.YtikepohhmagdpaaDoor.H
set_option linter.unusedVariables false
set_option maxRecDepth 100000
theorem rbarer_k {a : ByteArray} : CSpec Tryd.prog 142 #[.string a] (.string (M.B (M.V a))) := fun w _ => (gantref1_Bare.calls a _ w (SB.bare_spec a)).mono fun e w' h => ⟨h.1, h.2.below⟩
theorem rcommonr_k {a b : ByteArray} (ha : a.size ≤ 2000000000) (hb : b.size ≤ 2000000000) : CSpec Tryd.prog 109 #[.string a, .string b] (.string (M.B (Nat.gcd (M.V a) (M.V b)))) := fun w _ => by
  obtain ⟨k, hk⟩ := ev_some (SB.common_spec a b (by omega) (by omega))
  exact gantref1_Common.calls k a b _ w hk
section
variable {k l K L : Nat}
theorem addn_s (h1 : SzN k K) (h2 : SzN l L) : SzN (k + l) (K + L + 1) := by
  unfold SzN at *
  have e1 := Nat.pow_le_pow_right (n := 256) (by decide) (show K ≤ K + L by omega)
  have e2 := Nat.pow_le_pow_right (n := 256) (by decide) (show L ≤ K + L by omega)
  have hp : 256 ^ (K + L + 1) = 256 ^ (K + L) * 256 := Nat.pow_succ ..
  omega
theorem muln_s (h1 : SzN k K) (h2 : SzN l L) : SzN (k * l) (K + L) := mul_lt h1 h2
theorem num_s {x : Rat} (h : Sz x K) : SzN x.num.natAbs K := h.1
theorem den_s {x : Rat} (h : Sz x K) : SzN x.den K := h.2
theorem SzN.size (h : SzN k K) : (M.B k).size ≤ K := M.size_B_le h
theorem rbare_k : CSpec Tryd.prog 142 #[.string (M.B k)] (.string (M.B k)) := by
  have := rbarer_k (a := M.B k)
  rwa [M.V_B] at this
theorem rcommon_k (h1 : SzN k K) (h2 : SzN l L) (hs : K + L ≤ 2000000000) : CSpec Tryd.prog 109 #[.string (M.B k), .string (M.B l)] (.string (M.B (Nat.gcd k l))) := by
  have := rcommonr_k (a := M.B k) (b := M.B l) (by have := h1.size; omega) (by have := h2.size; omega)
  rwa [M.V_B, M.V_B] at this
theorem rplus_k (h1 : SzN k K) (h2 : SzN l L) (hs : K + L ≤ 17179869184) : CSpec Tryd.prog 145 #[.string (M.B k), .string (M.B l)] (.string (M.B (k + l))) := fun w _ => by
  obtain ⟨i, hi⟩ := ev_some (SB.plus_spec (M.B k) (M.B l) (by have := h1.size; omega) (by have := h2.size; omega))
  rw [M.V_B, M.V_B] at hi
  exact gantref1_Plus.calls i _ _ _ w hi
theorem rless_k (h1 : SzN k K) (h2 : SzN l L) (hs : K + L ≤ 17179869184) (h : l ≤ k) : CSpec Tryd.prog 151 #[.string (M.B k), .string (M.B l)] (.string (M.B (k - l))) := fun w _ => by
  obtain ⟨i, hi⟩ := ev_some (SB.less_spec (M.B k) (M.B l) (by have := h1.size; omega) (by have := h2.size; omega) (by rw [M.V_B, M.V_B]; exact h))
  rw [M.V_B, M.V_B] at hi
  exact gantref1_Less.calls i _ _ _ w hi
theorem rtimes_k (h1 : SzN k K) (h2 : SzN l L) (hs : K + L ≤ 17179869184) : CSpec Tryd.prog 143 #[.string (M.B k), .string (M.B l)] (.string (M.B (k * l))) := fun w _ => by
  obtain ⟨i, hi⟩ := ev_some (SB.times_spec (M.B k) (M.B l) (by have := h1.size; omega) (by have := h2.size; omega))
  rw [M.V_B, M.V_B] at hi
  exact gantref1_Times.calls i _ _ _ w hi
theorem rcomp_k (h1 : SzN k K) (h2 : SzN l L) (hs : K + L ≤ 17179869184) : CSpec Tryd.prog 97 #[.string (M.B k), .string (M.B l)] (.int .i64 (SB.cmpN k l)) := fun w _ => by
  obtain ⟨i, hi⟩ := ev_some (SB.compare_spec (M.B k) (M.B l) (by have := h1.size; omega) (by have := h2.size; omega))
  rw [M.V_B, M.V_B] at hi
  exact gantref1_Compare.calls i _ _ _ w hi
theorem rshare_k (h1 : SzN k K) (h2 : SzN l L) (hs : K + L ≤ 17179869184) (h0 : l ≠ 0) : CSpec Tryd.prog 148 #[.string (M.B k), .string (M.B l)] (.tuple #[.string (M.B (k / l)), .string (M.B (k % l))]) := fun w _ => by
  obtain ⟨i, hi⟩ := ev_some (SB.share_spec (M.B k) (M.B l) (by have := h1.size; omega) (by have := h2.size; omega) (by rw [M.V_B]; exact h0))
  rw [M.V_B, M.V_B] at hi
  exact gantref1_Share.calls i _ _ _ _ w hi
end
end Go.Proofs.YtikepohhmagdpaaDoor.G
end
section
namespace Go.Proofs.YtikepohhmagdpaaDoor.G
open Go.Proofs.YtikepohhmagdpaaDoor.U Go.RowKit
set_option linter.unusedVariables false
set_option maxRecDepth 100000
theorem fine1 {n : Bool} {a b : ByteArray} {K : Nat} (ha : a.size ≤ K) (hb : b.size ≤ K) (k1 : K ≤ 1000000000) (h0 : (!ByteArray.toList (M.B (M.V a)) == ByteArray.toList a) = true) : CSpec Tryd.prog 100 #[(rv n a b)] (.bool false) := by
  exact fn_ok Tryd.func100 (sc := [(1,2,.fix (.string (M.B (M.V a)))), (1,5,.is (.c (.bool true)))]) (sb := []) (by kernel_rfl) (hC (rbarer_k (a := a)) (hP (isB h0) hN))
theorem fine2 {n : Bool} {a b : ByteArray} {K : Nat} (ha : a.size ≤ K) (hb : b.size ≤ K) (k1 : K ≤ 1000000000) (h0 : (!ByteArray.toList (M.B (M.V a)) == ByteArray.toList a) = false) (h1 : (!ByteArray.toList (M.B (M.V b)) == ByteArray.toList b) = true) : CSpec Tryd.prog 100 #[(rv n a b)] (.bool false) := by
  exact fn_ok Tryd.func100 (sc := [(1,2,.fix (.string (M.B (M.V a)))), (1,5,.is (.c (.bool false))), (1,9,.fix (.string (M.B (M.V b)))), (1,12,.is (.c (.bool true)))]) (sb := []) (by kernel_rfl) (hC (rbarer_k (a := a)) (hP (isB h0) (hC (rbarer_k (a := b)) (hP (isB h1) hN))))
theorem fine3 {n : Bool} {a b : ByteArray} {K : Nat} (ha : a.size ≤ K) (hb : b.size ≤ K) (k1 : K ≤ 1000000000) (h0 : (!ByteArray.toList (M.B (M.V a)) == ByteArray.toList a) = false) (h1 : (!ByteArray.toList (M.B (M.V b)) == ByteArray.toList b) = false) (h2 : (ByteArray.toList b == ByteArray.toList { data := #[] }) = true) : CSpec Tryd.prog 100 #[(rv n a b)] (.bool false) := by
  exact fn_ok Tryd.func100 (sc := [(1,2,.fix (.string (M.B (M.V a)))), (1,5,.is (.c (.bool false))), (1,9,.fix (.string (M.B (M.V b)))), (1,12,.is (.c (.bool false))), (1,17,.is (.c (.bool true)))]) (sb := []) (by kernel_rfl) (hC (rbarer_k (a := a)) (hP (isB h0) (hC (rbarer_k (a := b)) (hP (isB h1) (hP (isB h2) hN)))))
theorem fine4 {n : Bool} {a b : ByteArray} {K : Nat} (ha : a.size ≤ K) (hb : b.size ≤ K) (k1 : K ≤ 1000000000) (h0 : (!ByteArray.toList (M.B (M.V a)) == ByteArray.toList a) = false) (h1 : (!ByteArray.toList (M.B (M.V b)) == ByteArray.toList b) = false) (h2 : (ByteArray.toList b == ByteArray.toList { data := #[] }) = false) (h3 : (ByteArray.toList a == ByteArray.toList { data := #[] }) = true) (h4 : n = true) : CSpec Tryd.prog 100 #[(rv n a b)] (.bool false) := by
  exact fn_ok Tryd.func100 (sc := [(1,2,.fix (.string (M.B (M.V a)))), (1,5,.is (.c (.bool false))), (1,9,.fix (.string (M.B (M.V b)))), (1,12,.is (.c (.bool false))), (1,17,.is (.c (.bool false))), (3,2,.is (.c (.bool true))), (4,1,.is (.c (.bool true)))]) (sb := []) (by kernel_rfl) (hC (rbarer_k (a := a)) (hP (isB h0) (hC (rbarer_k (a := b)) (hP (isB h1) (hP (isB h2) (hP (isB h3) (hP (isB h4) hN)))))))
theorem fine5 {n : Bool} {a b : ByteArray} {K : Nat} (ha : a.size ≤ K) (hb : b.size ≤ K) (k1 : K ≤ 1000000000) (h0 : (!ByteArray.toList (M.B (M.V a)) == ByteArray.toList a) = false) (h1 : (!ByteArray.toList (M.B (M.V b)) == ByteArray.toList b) = false) (h2 : (ByteArray.toList b == ByteArray.toList { data := #[] }) = false) (h3 : (ByteArray.toList a == ByteArray.toList { data := #[] }) = true) (h4 : n = false) : CSpec Tryd.prog 100 #[(rv n a b)] (.bool (ByteArray.toList b == ByteArray.toList { data := #[(1 : UInt8)] })) := by
  exact fn_ok Tryd.func100 (sc := [(1,2,.fix (.string (M.B (M.V a)))), (1,5,.is (.c (.bool false))), (1,9,.fix (.string (M.B (M.V b)))), (1,12,.is (.c (.bool false))), (1,17,.is (.c (.bool false))), (3,2,.is (.c (.bool true))), (4,1,.is (.c (.bool false)))]) (sb := []) (by kernel_rfl) (hC (rbarer_k (a := a)) (hP (isB h0) (hC (rbarer_k (a := b)) (hP (isB h1) (hP (isB h2) (hP (isB h3) (hP (isB h4) hN)))))))
theorem fine6 {n : Bool} {a b : ByteArray} {K : Nat} (ha : a.size ≤ K) (hb : b.size ≤ K) (k1 : K ≤ 1000000000) (h0 : (!ByteArray.toList (M.B (M.V a)) == ByteArray.toList a) = false) (h1 : (!ByteArray.toList (M.B (M.V b)) == ByteArray.toList b) = false) (h2 : (ByteArray.toList b == ByteArray.toList { data := #[] }) = false) (h3 : (ByteArray.toList a == ByteArray.toList { data := #[] }) = false) : CSpec Tryd.prog 100 #[(rv n a b)] (.bool (ByteArray.toList (M.B (Nat.gcd (M.V a) (M.V b))) == ByteArray.toList { data := #[(1 : UInt8)] })) := by
  exact fn_ok Tryd.func100 (sc := [(1,2,.fix (.string (M.B (M.V a)))), (1,5,.is (.c (.bool false))), (1,9,.fix (.string (M.B (M.V b)))), (1,12,.is (.c (.bool false))), (1,17,.is (.c (.bool false))), (3,2,.is (.c (.bool false))), (5,4,.fix (.string (M.B (Nat.gcd (M.V a) (M.V b)))))]) (sb := []) (by kernel_rfl) (hC (rbarer_k (a := a)) (hP (isB h0) (hC (rbarer_k (a := b)) (hP (isB h1) (hP (isB h2) (hP (isB h3) (hC (rcommonr_k (a := a) (b := b) (by omega) (by omega)) hN)))))))
def NZ (d : Nat) : Prop := d ≠ 0
theorem nzden_s {x : Rat} : NZ x.den := x.den_nz
theorem nzmul_s {d e : Nat} (h : NZ d) (g : NZ e) : NZ (d * e) := Nat.mul_ne_zero h g
def qaS (s : Bool) (x : Nat) (t : Bool) (y : Nat) : Bool := if s = t then s else if y ≤ x then s else t
def qaN (s : Bool) (x : Nat) (t : Bool) (y : Nat) : Nat := if s = t then x + y else if y ≤ x then x - y else y - x
theorem qa_sgn (s : Bool) (x : Nat) (t : Bool) (y : Nat) : sgn (qaS s x t y) (qaN s x t y) = sgn s x + sgn t y := by
  unfold qaS qaN sgn
  by_cases h : y ≤ x <;> cases s <;> cases t <;> simp [h] <;> omega
theorem qan_s {s t : Bool} {x y K L : Nat} (h1 : SzN x K) (h2 : SzN y L) : SzN (qaN s x t y) (K + L + 1) := by
  have := addn_s h1 h2
  unfold SzN qaN at *
  (repeat' split) <;> omega
theorem sgn_mulr (s : Bool) (k e : Nat) : sgn s (k * e) = sgn s k * (e : Int) := by cases s <;> simp [sgn, Int.neg_mul]
theorem sgn_not (s : Bool) (k : Nat) : sgn (!s) k = -sgn s k := by cases s <;> simp [sgn]
theorem str_eq (a b : ByteArray) : (a.toList == b.toList) = decide (a = b) := by
  have := str_neq a b
  by_cases h : a = b
  · subst h; simp
  rw [decide_eq_true h] at this
  rw [decide_eq_false h]
  simpa using this
theorem cmpN_ge {a b : Nat} : decide (SB.cmpN a b ≥ 0) = decide (b ≤ a) := decide_eq_decide.2 SB.cmpN_nn
open Classical in
theorem fine_k {n : Bool} {a b : ByteArray} {x : Rat} {K : Nat} (h : IsR n a b x K) (k1 : K ≤ 1000000000) : CSpec Tryd.prog 100 #[rv n a b] (.bool (gd n a b)) := by
  have ha := h.sa
  have hb := h.sb
  unfold gd
  by_cases la : M.B (M.V a) = a
  case neg => rw [decide_eq_false (fun h => la h.la)]; exact fine1 ha hb k1 (by rw [str_neq]; exact decide_eq_true la)
  have g0 : (!(M.B (M.V a)).toList == a.toList) = false := by rw [str_neq]; exact decide_eq_false (fun h => h la)
  by_cases lb : M.B (M.V b) = b
  case neg => rw [decide_eq_false (fun h => lb h.lb)]; exact fine2 ha hb k1 g0 (by rw [str_neq]; exact decide_eq_true lb)
  have g1 : (!(M.B (M.V b)).toList == b.toList) = false := by rw [str_neq]; exact decide_eq_false (fun h => h lb)
  by_cases b0 : b = ⟨#[]⟩
  · rw [decide_eq_false (fun h => h.nz (by rw [b0]; rfl))]
    exact fine3 ha hb k1 g0 g1 (by rw [str_eq]; exact decide_eq_true b0)
  have g2 : (b.toList == ByteArray.toList ⟨#[]⟩) = false := by rw [str_eq]; exact decide_eq_false b0
  have nz : M.V b ≠ 0 := fun h => b0 (nil_of lb h)
  by_cases a0 : a = ⟨#[]⟩
  · have va : M.V a = 0 := by rw [a0]; rfl
    have g3 : (a.toList == ByteArray.toList ⟨#[]⟩) = true := by rw [str_eq]; exact decide_eq_true a0
    cases n with
    | true =>
      rw [decide_eq_false (fun h => by have := h.sg va; cases this)]
      exact fine4 ha hb k1 g0 g1 g2 g3 rfl
    | false =>
      refine cbool (fine5 ha hb k1 g0 g1 g2 g3 rfl) ?_
      rw [str_eq]
      refine decide_eq_decide.2 ⟨fun h1 => ⟨nz, la, lb, by rw [va, h1]; rfl, fun _ => rfl⟩, fun h => ?_⟩
      have := h.red
      rw [va, Nat.gcd_zero_left] at this
      exact (one_of lb).2 this
  have g3 : (a.toList == ByteArray.toList ⟨#[]⟩) = false := by rw [str_eq]; exact decide_eq_false a0
  refine cbool (fine6 ha hb k1 g0 g1 g2 g3) ?_
  rw [str_eq]
  refine decide_eq_decide.2 ⟨fun h1 => ⟨nz, la, lb, B_is_one.1 h1, fun h => (a0 (nil_of la h)).elim⟩, fun h => B_is_one.2 h.red⟩
theorem qof1 {n : Bool} {a b : ByteArray} {x : Rat} {K : Nat} (h : IsR n a b x K) (k1 : K ≤ 1000000000) (h0 : gd n a b = true) : CSpec Tryd.prog 87 #[(rv n a b)] (rv n a b) := by
  exact fn_ok Tryd.func87 (sc := [(1,1,.fix (.bool true))]) (sb := []) (by kernel_rfl) (hC (cbool (fine_k h k1) h0) hN)
theorem qof2 {n : Bool} {a b : ByteArray} {x : Rat} {K : Nat} (h : IsR n a b x K) (k1 : K ≤ 1000000000) (h0 : gd n a b = false) : CSpec Tryd.prog 87 #[(rv n a b)] (ag [[.bool false], [.string ({ data := #[] })], [.string ({ data := #[(1 : UInt8)] })]]) := by
  exact fn_ok Tryd.func87 (sc := [(1,1,.fix (.bool false))]) (sb := []) (by kernel_rfl) (hC (cbool (fine_k h k1) h0) hN)
theorem qneg_k {s : Bool} {k d K D : Nat} (h1' : SzN k K) (h2' : SzN d D) (k1 : K + D ≤ 2000000000)  : CSpec Tryd.prog 99 #[(rv s (M.B k) (M.B d))] (ag [[.bool (!s)], [.string (M.B k)], [.string (M.B d)]]) := by
  exact fn_ok Tryd.func99 (sc := []) (sb := []) (by kernel_rfl) hN
theorem qadd1 {s t : Bool} {k d l e K L D E : Nat} (h1' : SzN k K) (h2' : SzN d D) (h3' : SzN l L) (h4' : SzN e E) (k1 : K + D + L + E ≤ 2000000000) (h0 : (s == t) = true) : CSpec Tryd.prog 106 #[(rv s (M.B k) (M.B d)), (rv t (M.B l) (M.B e))] (ag [[.bool s], [.string (M.B (k * e + l * d))], [.string (M.B (d * e))]]) := by
  have s1 := (muln_s h1' h4')
  have s2 := (muln_s h3' h2')
  exact fn_ok Tryd.func106 (sc := [(1,4,.fix (.string (M.B (k * e)))), (1,9,.fix (.string (M.B (l * d)))), (1,14,.fix (.string (M.B (d * e)))), (2,4,.is (.c (.bool true))), (3,4,.fix (.string (M.B (k * e + l * d))))]) (sb := []) (by kernel_rfl) (hC (rtimes_k h1' h4' (by omega)) (hC (rtimes_k h3' h2' (by omega)) (hC (rtimes_k h2' h4' (by omega)) (hP (isB h0) (hC (rplus_k s1 s2 (by omega)) hN)))))
theorem qadd2 {s t : Bool} {k d l e K L D E : Nat} (h1' : SzN k K) (h2' : SzN d D) (h3' : SzN l L) (h4' : SzN e E) (k1 : K + D + L + E ≤ 2000000000) (hl : l * d ≤ k * e) (h0 : (s == t) = false) (h3 : decide ((0 : Int) ≤ SB.cmpN (k * e) (l * d)) = true) : CSpec Tryd.prog 106 #[(rv s (M.B k) (M.B d)), (rv t (M.B l) (M.B e))] (ag [[.bool s], [.string (M.B (k * e - l * d))], [.string (M.B (d * e))]]) := by
  have s1 := (muln_s h1' h4')
  have s2 := (muln_s h3' h2')
  exact fn_ok Tryd.func106 (sc := [(1,4,.fix (.string (M.B (k * e)))), (1,9,.fix (.string (M.B (l * d)))), (1,14,.fix (.string (M.B (d * e)))), (2,4,.is (.c (.bool false))), (4,2,.fix (.int IntKind.i64 (SB.cmpN (k * e) (l * d)))), (4,3,.is (.c (.bool true))), (5,4,.fix (.string (M.B (k * e - l * d))))]) (sb := []) (by kernel_rfl) (hC (rtimes_k h1' h4' (by omega)) (hC (rtimes_k h3' h2' (by omega)) (hC (rtimes_k h2' h4' (by omega)) (hP (isB h0) (hC (rcomp_k s1 s2 (by omega)) (hP (isB h3) (hC (rless_k s1 s2 (by omega) hl) hN)))))))
theorem qadd3 {s t : Bool} {k d l e K L D E : Nat} (h1' : SzN k K) (h2' : SzN d D) (h3' : SzN l L) (h4' : SzN e E) (k1 : K + D + L + E ≤ 2000000000) (hl : k * e ≤ l * d) (h0 : (s == t) = false) (h3 : decide ((0 : Int) ≤ SB.cmpN (k * e) (l * d)) = false) : CSpec Tryd.prog 106 #[(rv s (M.B k) (M.B d)), (rv t (M.B l) (M.B e))] (ag [[.bool t], [.string (M.B (l * d - k * e))], [.string (M.B (d * e))]]) := by
  have s1 := (muln_s h1' h4')
  have s2 := (muln_s h3' h2')
  exact fn_ok Tryd.func106 (sc := [(1,4,.fix (.string (M.B (k * e)))), (1,9,.fix (.string (M.B (l * d)))), (1,14,.fix (.string (M.B (d * e)))), (2,4,.is (.c (.bool false))), (4,2,.fix (.int IntKind.i64 (SB.cmpN (k * e) (l * d)))), (4,3,.is (.c (.bool false))), (6,4,.fix (.string (M.B (l * d - k * e))))]) (sb := []) (by kernel_rfl) (hC (rtimes_k h1' h4' (by omega)) (hC (rtimes_k h3' h2' (by omega)) (hC (rtimes_k h2' h4' (by omega)) (hP (isB h0) (hC (rcomp_k s1 s2 (by omega)) (hP (isB h3) (hC (rless_k s2 s1 (by omega) hl) hN)))))))
theorem qsign1 {s : Bool} {k d : Nat}  (h0 : (ByteArray.toList (M.B k) == ByteArray.toList { data := #[] }) = true) : CSpec Tryd.prog 89 #[(rv s (M.B k) (M.B d))] (.int IntKind.i64 (0 : Int)) := by
  exact fn_ok Tryd.func89 (sc := [(1,2,.fix (.string (M.B k))), (1,3,.is (.c (.bool true)))]) (sb := []) (by kernel_rfl) (hC (rbare_k (k := k)) (hP (isB h0) hN))
theorem qsign2 {s : Bool} {k d : Nat}  (h0 : (ByteArray.toList (M.B k) == ByteArray.toList { data := #[] }) = false) (h1 : s = true) : CSpec Tryd.prog 89 #[(rv s (M.B k) (M.B d))] (.int IntKind.i64 (-1 : Int)) := by
  exact fn_ok Tryd.func89 (sc := [(1,2,.fix (.string (M.B k))), (1,3,.is (.c (.bool false))), (3,1,.is (.c (.bool true)))]) (sb := []) (by kernel_rfl) (hC (rbare_k (k := k)) (hP (isB h0) (hP (isB h1) hN)))
theorem qsign3 {s : Bool} {k d : Nat}  (h0 : (ByteArray.toList (M.B k) == ByteArray.toList { data := #[] }) = false) (h1 : s = false) : CSpec Tryd.prog 89 #[(rv s (M.B k) (M.B d))] (.int IntKind.i64 (1 : Int)) := by
  exact fn_ok Tryd.func89 (sc := [(1,2,.fix (.string (M.B k))), (1,3,.is (.c (.bool false))), (3,1,.is (.c (.bool false)))]) (sb := []) (by kernel_rfl) (hC (rbare_k (k := k)) (hP (isB h0) (hP (isB h1) hN)))
theorem qof_k {n : Bool} {a b : ByteArray} {x : Rat} {K : Nat} (h : IsR n a b x K) (k1 : K ≤ 1000000000) : CSpec Tryd.prog 87 #[rv n a b] (Rv x) := by
  cases hg : gd n a b with
  | true =>
    have := qof1 h k1 hg
    rw [gd_can hg, h.eq] at this
    rwa [gd_can hg, h.eq]
  | false =>
    have e : x = 0 := by rw [← h.eq]; exact gd_not hg
    rw [e, Rv_zero]
    exact qof2 h k1 hg
section
variable {s t : Bool} {k d l e K L D E : Nat}
theorem qadd_k (h1' : SzN k K) (h2' : SzN d D) (h3' : SzN l L) (h4' : SzN e E) (k1 : K + D + L + E ≤ 2000000000) : CSpec Tryd.prog 106 #[rv s (M.B k) (M.B d), rv t (M.B l) (M.B e)] (rv (qaS s (k * e) t (l * d)) (M.B (qaN s (k * e) t (l * d))) (M.B (d * e))) := by
  unfold qaS qaN
  by_cases hs : s = t
  · rw [if_pos hs, if_pos hs]
    exact qadd1 h1' h2' h3' h4' k1 (by rw [hs]; simp)
  rw [if_neg hs, if_neg hs]
  have g0 : (s == t) = false := by simpa using hs
  by_cases hl : l * d ≤ k * e
  · rw [if_pos hl, if_pos hl]
    exact qadd2 h1' h2' h3' h4' k1 hl g0 (by rw [cmpN_ge]; exact decide_eq_true hl)
  rw [if_neg hl, if_neg hl]
  exact qadd3 h1' h2' h3' h4' k1 (by omega) g0 (by rw [cmpN_ge]; exact decide_eq_false hl)
theorem qsign_k : CSpec Tryd.prog 89 #[rv s (M.B k) (M.B d)] (.int .i64 (Int.sign (sgn s k))) := by
  by_cases h : k = 0
  · have e : Int.sign (sgn s k) = 0 := by rw [h]; cases s <;> rfl
    rw [e]
    exact qsign1 (by rw [str_eq]; exact decide_eq_true (B_nil h))
  have g : (ByteArray.toList (M.B k) == ByteArray.toList ⟨#[]⟩) = false := by rw [str_eq]; exact decide_eq_false (B_ne h)
  cases s with
  | true =>
    have e : Int.sign (sgn true k) = -1 := Int.sign_eq_neg_one_of_neg (by simp only [sgn, if_true]; omega)
    rw [e]
    exact qsign2 g rfl
  | false =>
    have e : Int.sign (sgn false k) = 1 := Int.sign_eq_one_of_pos (by simp [sgn]; omega)
    rw [e]
    exact qsign3 g rfl
theorem gcdn_s (h : SzN d L) (hd : d ≠ 0) : SzN (Nat.gcd k d) L := Nat.lt_of_le_of_lt (Nat.gcd_le_right _ (by omega)) h
end
theorem qcmp1 {s t : Bool} {k d l e K L D E : Nat} (h1' : SzN k K) (h2' : SzN d D) (h3' : SzN l L) (h4' : SzN e E) (k1 : K + D + L + E ≤ 2000000000)  : CSpec Tryd.prog 98 #[(rv s (M.B k) (M.B d)), (rv t (M.B l) (M.B e))] (.int IntKind.i64 (Int.sign (sgn (qaS s (k * e) (!t) (l * d)) (qaN s (k * e) (!t) (l * d))))) := by
  exact fn_ok Tryd.func98 (sc := [(1,2,.fix (ag [[.bool (!t)], [.string (M.B l)], [.string (M.B e)]])), (1,3,.fix (ag [[.bool (qaS s (k * e) (!t) (l * d))], [.string (M.B (qaN s (k * e) (!t) (l * d)))], [.string (M.B (d * e))]])), (1,4,.fix (.int IntKind.i64 (Int.sign (sgn (qaS s (k * e) (!t) (l * d)) (qaN s (k * e) (!t) (l * d))))))]) (sb := []) (by kernel_rfl) (hC (qneg_k (s := t) h3' h4' (by omega)) (hC (qadd_k (s := s) (t := !t) h1' h2' h3' h4' k1) (hC (qsign_k (s := qaS s (k * e) (!t) (l * d)) (k := qaN s (k * e) (!t) (l * d)) (d := d * e)) hN)))
theorem rat1 {s : Bool} {k d K D : Nat} (h1' : SzN k K) (h2' : SzN d D) (k1 : K + D ≤ 2000000000) (hd : d ≠ 0) (h0 : (ByteArray.toList (M.B k) == ByteArray.toList { data := #[] }) = true) : CSpec Tryd.prog 144 #[(rv s (M.B k) (M.B d))] (ag [[.bool false], [.string ({ data := #[] })], [.string ({ data := #[(1 : UInt8)] })]]) := by
  exact fn_ok Tryd.func144 (sc := [(1,2,.fix (.string (M.B k))), (1,3,.is (.c (.bool true)))]) (sb := []) (by kernel_rfl) (hC (rbare_k (k := k)) (hP (isB h0) hN))
theorem rat2 {s : Bool} {k d K D : Nat} (h1' : SzN k K) (h2' : SzN d D) (k1 : K + D ≤ 2000000000) (hd : d ≠ 0) (h0 : (ByteArray.toList (M.B k) == ByteArray.toList { data := #[] }) = false) (h2 : Nat.gcd k d ≠ (0 : Nat)) : CSpec Tryd.prog 144 #[(rv s (M.B k) (M.B d))] (ag [[.bool s], [.string (M.B (k / Nat.gcd k d))], [.string (M.B (d / Nat.gcd k d))]]) := by
  have s1 := (gcdn_s (k := k) h2' hd)
  exact fn_ok Tryd.func144 (sc := [(1,2,.fix (.string (M.B k))), (1,3,.is (.c (.bool false))), (3,4,.fix (.string (M.B (Nat.gcd k d)))), (4,3,.fix (.tuple #[.string (M.B (k / Nat.gcd k d)), .string (M.B (k % Nat.gcd k d))])), (5,3,.fix (.tuple #[.string (M.B (d / Nat.gcd k d)), .string (M.B (d % Nat.gcd k d))]))]) (sb := []) (by kernel_rfl) (hC (rbare_k (k := k)) (hP (isB h0) (hC (rcommon_k h1' h2' k1) (hC (rshare_k h1' s1 (by omega) h2) (hC (rshare_k h2' s1 (by omega) h2) hN)))))
theorem qcmp_k {s t : Bool} {k d l e K L D E : Nat} (h1' : SzN k K) (h2' : SzN d D) (h3' : SzN l L) (h4' : SzN e E) (k1 : K + D + L + E ≤ 2000000000) : CSpec Tryd.prog 98 #[rv s (M.B k) (M.B d), rv t (M.B l) (M.B e)] (.int .i64 (cmpI (sgn s k * (e : Int)) (sgn t l * (d : Int)))) := by
  have := qcmp1 (s := s) (t := t) h1' h2' h3' h4' k1
  rw [qa_sgn, sgn_mulr, sgn_mulr, sgn_not] at this
  have e1 : Int.sign (sgn s k * (e : Int) + -sgn t l * (d : Int)) = cmpI (sgn s k * (e : Int)) (sgn t l * (d : Int)) := by
    rw [Int.neg_mul]
    generalize sgn s k * (e : Int) = x
    generalize sgn t l * (d : Int) = y
    unfold cmpI
    (repeat' split)
    · exact Int.sign_eq_neg_one_of_neg (by omega)
    · rw [show x + -y = 0 by omega]; rfl
    exact Int.sign_eq_one_of_pos (by omega)
  rwa [e1] at this
theorem rat_k {s : Bool} {k d K D : Nat} (h1' : SzN k K) (h2' : SzN d D) (k1 : K + D ≤ 2000000000) (hd : d ≠ 0) : CSpec Tryd.prog 144 #[rv s (M.B k) (M.B d)] (Rv (mkRat (sgn s k) d)) := by
  by_cases h : k = 0
  · have e : mkRat (sgn s k) d = 0 := (Rat.mkRat_eq_zero hd).2 (by rw [h]; cases s <;> rfl)
    rw [e, Rv_zero]
    exact rat1 h1' h2' k1 hd (by rw [str_eq]; exact decide_eq_true (B_nil h))
  rw [rv_mk s k d h hd]
  exact rat2 h1' h2' k1 hd (by rw [str_eq]; exact decide_eq_false (B_ne h)) (fun hg => h (Nat.eq_zero_of_gcd_eq_zero_left hg))
theorem is0 {s : Bool} {k d K D : Nat} (h1' : SzN k K) (h2' : SzN d D) (k1 : K + D ≤ 2000000000) (hd : d ≠ 0)  : CSpec Tryd.prog 91 #[(rv s (M.B k) (M.B d)), (Rv (mkRat (sgn s k) d))] (.bool true) := by
  exact fn_ok Tryd.func91 (sc := [(1,1,.fix (Rv (mkRat (sgn s k) d))), (1,3,.eqs)]) (sb := []) (by kernel_rfl) (hC (rat_k (s := s) h1' h2' k1 hd) (hP (Eq.refl (Rv (mkRat (sgn s k) d))) hN))
theorem is_k {s : Bool} {k d K D : Nat} {z : Rat} (h1' : SzN k K) (h2' : SzN d D) (k1 : K + D ≤ 2000000000) (hd : NZ d) (h : mkRat (sgn s k) d = z) : CSpec Tryd.prog 91 #[rv s (M.B k) (M.B d), Rv z] (.bool true) := by
  subst h
  exact is0 h1' h2' k1 hd
end Go.Proofs.YtikepohhmagdpaaDoor.G
end
section
namespace Go.Proofs.YtikepohhmagdpaaDoor.G
open Go.Proofs.YtikepohhmagdpaaDoor.U Go.RowKit
set_option linter.unusedVariables false
set_option maxRecDepth 100000
theorem afit_k {n : Bool} {a b : ByteArray} {x : Rat} {K : Nat} (h : IsR n a b x K) (k1 : K ≤ 1000000000) : CSpec Tryd.prog 124 #[rv n a b] (Rv x) := h.fit (by omega)
theorem abs1 {n : Bool} {a b : ByteArray} {x : Rat} {K : Nat} (h : IsR n a b x K) (k1 : K ≤ 1000000000)  : CSpec Tryd.prog 107 #[(rv n a b)] (ag [[.bool false], [.string (M.B (Int.natAbs (Rat.num x)))], [.string (M.B (Rat.den x))]]) := by
  exact fn_ok Tryd.func107 (sc := [(1,1,.fix (Rv x))]) (sb := []) (by kernel_rfl) (hC (afit_k h k1) hN)
theorem abs_rv (x : Rat) : Rv (mkRat (x.num.natAbs : Int) x.den) = rv false (M.B x.num.natAbs) (M.B x.den) := by
  by_cases h : x.num.natAbs = 0
  · have e : x = 0 := Rat.num_eq_zero.1 (Int.natAbs_eq_zero.1 h)
    subst e
    rfl
  have := rv_mk false x.num.natAbs x.den h x.den_nz
  rw [x.reduced, Nat.div_one, Nat.div_one] at this
  exact this
theorem abs_k {n : Bool} {a b : ByteArray} {x : Rat} {K : Nat} (h : IsR n a b x K) (k1 : K ≤ 1000000000) : CSpec Tryd.prog 107 #[rv n a b] (Rv (mkRat (x.num.natAbs : Int) x.den)) := by
  rw [abs_rv]
  exact abs1 h k1
theorem qcmpx_k {x y : Rat} {K L : Nat} (p1 : Sz x K) (p2 : Sz y L) (k1 : K ≤ 100000000) (k2 : L ≤ 100000000) : CSpec Tryd.prog 98 #[Rv x, Rv y] (.int .i64 (cmpR x y)) := by
  have := qcmp_k (s := decide (x.num < 0)) (t := decide (y.num < 0)) (num_s p1) (den_s p1) (num_s p2) (den_s p2) (by omega)
  rwa [sgn_num, sgn_num] at this
theorem qsignx_k {x : Rat} : CSpec Tryd.prog 89 #[Rv x] (.int .i64 x.num.sign) := by
  have := qsign_k (s := decide (x.num < 0)) (k := x.num.natAbs) (d := x.den)
  rwa [sgn_num] at this
noncomputable def ratAdds_w_sc (n1 n2 : Bool) (a1 b1 a2 b2 : ByteArray) (x y : Rat) (K L : Nat) : Script := [(1,0,.fix (.bool true)), (3,1,.fix (Rv x)), (3,3,.fix (Rv y)), (4,2,.fix (.int IntKind.i64 (cmpR x y))), (8,1,.fix (.bool (gd n1 a1 b1))), (8,3,.fix (.bool (gd n1 a1 b1))), (8,4,.is (.c (.bool false))), (8,8,.fix (.int IntKind.i64 (cmpR x y))), (8,10,.is (.c (.bool false))), (8,14,.fix (.int IntKind.i64 (Int.sign (Rat.num x)))), (8,16,.fix (.int IntKind.i64 (Int.sign (Rat.num x)))), (8,17,.is (.c (.bool false))), (8,23,.fix (Rv (mn x y))), (8,24,.fix (.bool true)), (8,31,.fix (Rv (mx x y))), (8,32,.fix (.bool true)), (10,2,.fix (ag [[.bool (qaS (decide (Rat.num x < (0 : Int))) (Int.natAbs (Rat.num x) * Rat.den y) (decide (Rat.num y < (0 : Int))) (Int.natAbs (Rat.num y) * Rat.den x))], [.string (M.B (qaN (decide (Rat.num x < (0 : Int))) (Int.natAbs (Rat.num x) * Rat.den y) (decide (Rat.num y < (0 : Int))) (Int.natAbs (Rat.num y) * Rat.den x)))], [.string (M.B (Rat.den x * Rat.den y))]])), (10,5,.fix (Rv (x + y))), (10,6,.fix (.bool true)), (10,10,.fix (ag [[.bool (!decide (Rat.num y < (0 : Int)))], [.string (M.B (Int.natAbs (Rat.num y)))], [.string (M.B (Rat.den y))]])), (10,11,.fix (ag [[.bool (qaS (decide (Rat.num x < (0 : Int))) (Int.natAbs (Rat.num x) * Rat.den y) (!decide (Rat.num y < (0 : Int))) (Int.natAbs (Rat.num y) * Rat.den x))], [.string (M.B (qaN (decide (Rat.num x < (0 : Int))) (Int.natAbs (Rat.num x) * Rat.den y) (!decide (Rat.num y < (0 : Int))) (Int.natAbs (Rat.num y) * Rat.den x)))], [.string (M.B (Rat.den x * Rat.den y))]])), (10,14,.fix (Rv (x - y))), (10,15,.fix (.bool true)), (10,19,.fix (ag [[.bool (!decide (Rat.num x < (0 : Int)))], [.string (M.B (Int.natAbs (Rat.num x)))], [.string (M.B (Rat.den x))]])), (10,21,.fix (Rv (-x))), (10,22,.fix (.bool true)), (10,31,.fix (Rv (mkRat (↑(Int.natAbs (Rat.num x)) : Int) (Rat.den x)))), (10,32,.fix (.bool true))]
theorem ratAdds_w {n1 n2 : Bool} {a1 b1 a2 b2 : ByteArray} {x y : Rat} {K L : Nat} (h1' : IsR n1 a1 b1 x K) (h2' : IsR n2 a2 b2 y L) (k1 : K ≤ 2000000) (k2 : L ≤ 2000000) (g1 : (gd n1 a1 b1 != gd n1 a1 b1) = false) (g2 : (!decide (cmpR x y = cmpR x y)) = false) (g3 : (!decide (Int.sign (Rat.num x) = Int.sign (Rat.num x))) = false) (g6 : mkRat (sgn (qaS (decide (Rat.num x < (0 : Int))) (Int.natAbs (Rat.num x) * Rat.den y) (decide (Rat.num y < (0 : Int))) (Int.natAbs (Rat.num y) * Rat.den x)) (qaN (decide (Rat.num x < (0 : Int))) (Int.natAbs (Rat.num x) * Rat.den y) (decide (Rat.num y < (0 : Int))) (Int.natAbs (Rat.num y) * Rat.den x))) (Rat.den x * Rat.den y) = x + y) (g7 : mkRat (sgn (qaS (decide (Rat.num x < (0 : Int))) (Int.natAbs (Rat.num x) * Rat.den y) (!decide (Rat.num y < (0 : Int))) (Int.natAbs (Rat.num y) * Rat.den x)) (qaN (decide (Rat.num x < (0 : Int))) (Int.natAbs (Rat.num x) * Rat.den y) (!decide (Rat.num y < (0 : Int))) (Int.natAbs (Rat.num y) * Rat.den x))) (Rat.den x * Rat.den y) = x - y) (g8 : mkRat (sgn (!decide (Rat.num x < (0 : Int))) (Int.natAbs (Rat.num x))) (Rat.den x) = -x) (g9 : mkRat (sgn false (Int.natAbs (Rat.num x))) (Rat.den x) = mkRat (↑(Int.natAbs (Rat.num x)) : Int) (Rat.den x)) : ((decide ((0 : Int) < cmpR x y) = true) → (mkRat (sgn (decide (Rat.num y < (0 : Int))) (Int.natAbs (Rat.num y))) (Rat.den y) = mn x y) → (mkRat (sgn (decide (Rat.num x < (0 : Int))) (Int.natAbs (Rat.num x))) (Rat.den x) = mx x y) → CSpec Tryd.prog 14 #[(rv n1 a1 b1), (rv n2 a2 b2)] (.bool true)) ∧ ((decide ((0 : Int) < cmpR x y) = false) → (mkRat (sgn (decide (Rat.num x < (0 : Int))) (Int.natAbs (Rat.num x))) (Rat.den x) = mn x y) → (mkRat (sgn (decide (Rat.num y < (0 : Int))) (Int.natAbs (Rat.num y))) (Rat.den y) = mx x y) → CSpec Tryd.prog 14 #[(rv n1 a1 b1), (rv n2 a2 b2)] (.bool true)) := by
  have w0 := (num_s (szr h2'))
  have w1 := (den_s (szr h2'))
  have w2 := (nzden_s (x := y))
  have w3 := (num_s (szr h1'))
  have w4 := (den_s (szr h1'))
  have w5 := (nzden_s (x := x))
  have w6 := (muln_s w3 w1)
  have w7 := (muln_s w0 w4)
  have w8 := (qan_s (s := decide (Rat.num x < (0 : Int))) (t := decide (Rat.num y < (0 : Int))) w6 w7)
  have w9 := (muln_s w4 w1)
  have w10 := (nzmul_s w5 w2)
  have w11 := (qan_s (s := decide (Rat.num x < (0 : Int))) (t := !decide (Rat.num y < (0 : Int))) w6 w7)
  have e0 := fun (r : List Ob) (t : Holds Tryd.prog r) => (hC (qadd_k (s := decide (Rat.num x < (0 : Int))) (t := decide (Rat.num y < (0 : Int))) w3 w4 w0 w1 (by omega)) (hC (add_k h1' h2' (by omega)) (hC (is_k w8 w9 (by omega) w10 g6) (hC (qneg_k (s := decide (Rat.num y < (0 : Int))) w0 w1 (by omega)) (hC (qadd_k (s := decide (Rat.num x < (0 : Int))) (t := !decide (Rat.num y < (0 : Int))) w3 w4 w0 w1 (by omega)) (hC (sub_k h1' h2' (by omega)) (hC (is_k w11 w9 (by omega) w10 g7) (hC (qneg_k (s := decide (Rat.num x < (0 : Int))) w3 w4 (by omega)) (hC (neg_k h1' (by omega)) (hC (is_k w3 w4 (by omega) w5 g8) (hC (abs_k h1' (by omega)) (hC (is_k w3 w4 (by omega) w5 g9) t))))))))))))
  have e1 := fun (r : List Ob) (t : Holds Tryd.prog r) => (hC (goodb_k h1' (by omega)) (hC (fine_k h1' (by omega)) (hP (isB g1) (hC (cmp_k h1' h2' (by omega)) (hP (isB g2) (hC (sign_k h1' (by omega)) (hC (qsignx_k (x := x)) (hP (isB g3) (hC (min_k h1' h2' (by omega)) t)))))))))
  refine ⟨?_, ?_⟩
  · intro g0 g4 g5
    exact fn_ok Tryd.func14 (sc := [(6,1,.is (.c (.bool true)))] ++ ratAdds_w_sc n1 n2 a1 b1 a2 b2 x y K L) (sb := []) (by kernel_rfl) (hC ratBegun_k (hC (qof_k h1' (by omega)) (hC (qof_k h2' (by omega)) (hC (qcmpx_k (szr h1') (szr h2') (by omega) (by omega)) (hP (isB g0) (e1 _ (hC (is_k w0 w1 (by omega) w2 g4) (hC (max_k h1' h2' (by omega)) (hC (is_k w3 w4 (by omega) w5 g5) (e0 _ hN))))))))))
  intro g10 g11 g12
  exact fn_ok Tryd.func14 (sc := [(6,1,.is (.c (.bool false)))] ++ ratAdds_w_sc n1 n2 a1 b1 a2 b2 x y K L) (sb := []) (by kernel_rfl) (hC ratBegun_k (hC (qof_k h1' (by omega)) (hC (qof_k h2' (by omega)) (hC (qcmpx_k (szr h1') (szr h2') (by omega) (by omega)) (hP (isB g10) (e1 _ (hC (is_k w3 w4 (by omega) w5 g11) (hC (max_k h1' h2' (by omega)) (hC (is_k w0 w1 (by omega) w2 g12) (e0 _ hN))))))))))
section
variable {x y : Rat}
theorem self_mk : mkRat (sgn (decide (Rat.num x < 0)) (Int.natAbs (Rat.num x))) (Rat.den x) = x := by rw [sgn_num, Rat.mkRat_self]
theorem add_mk : mkRat (sgn (qaS (decide (Rat.num x < 0)) (Int.natAbs (Rat.num x) * Rat.den y) (decide (Rat.num y < 0)) (Int.natAbs (Rat.num y) * Rat.den x)) (qaN (decide (Rat.num x < 0)) (Int.natAbs (Rat.num x) * Rat.den y) (decide (Rat.num y < 0)) (Int.natAbs (Rat.num y) * Rat.den x))) (Rat.den x * Rat.den y) = x + y := by
  rw [qa_sgn, sgn_mulr, sgn_mulr, sgn_num, sgn_num, Rat.add_def']
theorem sub_mk : mkRat (sgn (qaS (decide (Rat.num x < 0)) (Int.natAbs (Rat.num x) * Rat.den y) (!decide (Rat.num y < 0)) (Int.natAbs (Rat.num y) * Rat.den x)) (qaN (decide (Rat.num x < 0)) (Int.natAbs (Rat.num x) * Rat.den y) (!decide (Rat.num y < 0)) (Int.natAbs (Rat.num y) * Rat.den x))) (Rat.den x * Rat.den y) = x - y := by
  rw [qa_sgn, sgn_mulr, sgn_mulr, sgn_not, sgn_num, sgn_num, Rat.sub_eq_add_neg, Rat.add_def', Rat.neg_num, Rat.neg_den]
theorem neg_mk : mkRat (sgn (!decide (Rat.num x < 0)) (Int.natAbs (Rat.num x))) (Rat.den x) = -x := by
  rw [sgn_not, sgn_num, ← Rat.neg_mkRat, Rat.mkRat_self]
end
theorem ratAdds_law (n1 : Bool) (a1 b1 : ByteArray) (n2 : Bool) (a2 b2 : ByteArray) (s1 : a1.size ≤ 1048576) (t1 : b1.size ≤ 1048576) (s2 : a2.size ≤ 1048576) (t2 : b2.size ≤ 1048576) : CSpec Tryd.prog 14 #[ag [rr n1 a1 b1], ag [rr n2 a2 b2]] (.bool true) := by
  have i1 := IsR.raw n1 a1 b1 s1 t1 (by decide)
  have i2 := IsR.raw n2 a2 b2 s2 t2 (by decide)
  generalize qv n1 a1 b1 = x at *
  generalize qv n2 a2 b2 = y at *
  obtain ⟨c0, c1⟩ := ratAdds_w i1 i2 (by decide) (by decide) (by simp) (by simp) (by simp) add_mk sub_mk neg_mk rfl
  by_cases p : y < x
  · have q : ¬ x ≤ y := Rat.not_le.2 p
    exact c0 (decide_eq_true (cmpR_gt.2 p)) (by rw [self_mk]; unfold mn; rw [if_neg q]) (by rw [self_mk]; unfold mx; rw [if_pos (Rat.le_of_lt p)])
  have q : x ≤ y := Rat.not_lt.1 p
  refine c1 (decide_eq_false (fun h => p (cmpR_gt.1 h))) (by rw [self_mk]; unfold mn; rw [if_pos q]) ?_
  rw [self_mk]
  unfold mx
  split
  · rename_i h
    exact Rat.le_antisymm h q
  rfl
end Go.Proofs.YtikepohhmagdpaaDoor.G
end
