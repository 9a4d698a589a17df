import Derived.Test.YtikepohhmagdpaaDoorYKA
import Derived.Test.YtikepohhmagdpaaDoorYRC
import Derived.Test.YtikepohhmagdpaaDoorYBA
section
namespace Go.Proofs.YtikepohhmagdpaaDoor.G
open Go.Proofs.YtikepohhmagdpaaDoor.U Go.RowKit
set_option linter.unusedVariables false
set_option maxRecDepth 100000
def SzN (m K : Nat) : Prop := m < 256 ^ K
end Go.Proofs.YtikepohhmagdpaaDoor.G
end
section
namespace Go.Proofs.YtikepohhmagdpaaDoor.G
open Go.Proofs.YtikepohhmagdpaaDoor.U Go.RowKit Go.Proofs.YtikepohhmagdpaaDoor.A Go.Proofs.YtikepohhmagdpaaDoor.B Go.Proofs.YtikepohhmagdpaaDoor.C Go.Proofs.YtikepohhmagdpaaDoor.R Go.Proofs.YtikepohhmagdpaaDoor.H
set_option linter.unusedVariables false
set_option maxRecDepth 100000
theorem rbarer_k {a : ByteArray} : CSpec Tryd.prog 142 #[.string a] (.string (M.B (M.V a))) := fun w _ => (gantref1_Bare.calls a _ w (SB.bare_spec a)).mono fun e w' h => ⟨h.1, h.2.below⟩
theorem rcommonr_k {a b : ByteArray} (ha : a.size ≤ 2000000000) (hb : b.size ≤ 2000000000) : CSpec Tryd.prog 109 #[.string a, .string b] (.string (M.B (Nat.gcd (M.V a) (M.V b)))) := fun w _ => by
  obtain ⟨k, hk⟩ := ev_some (SB.common_spec a b (by omega) (by omega))
  exact gantref1_Common.calls k a b _ w hk
section
variable {k l K L : Nat}
theorem muln_s (h1 : SzN k K) (h2 : SzN l L) : SzN (k * l) (K + L) := mul_lt h1 h2
theorem num_s {x : Rat} (h : Sz x K) : SzN x.num.natAbs K := h.1
theorem den_s {x : Rat} (h : Sz x K) : SzN x.den K := h.2
theorem SzN.size (h : SzN k K) : (M.B k).size ≤ K := M.size_B_le h
theorem rbare_k : CSpec Tryd.prog 142 #[.string (M.B k)] (.string (M.B k)) := by
  have := rbarer_k (a := M.B k)
  rwa [M.V_B] at this
theorem rcommon_k (h1 : SzN k K) (h2 : SzN l L) (hs : K + L ≤ 2000000000) : CSpec Tryd.prog 109 #[.string (M.B k), .string (M.B l)] (.string (M.B (Nat.gcd k l))) := by
  have := rcommonr_k (a := M.B k) (b := M.B l) (by have := h1.size; omega) (by have := h2.size; omega)
  rwa [M.V_B, M.V_B] at this
theorem rplus_k (h1 : SzN k K) (h2 : SzN l L) (hs : K + L ≤ 17179869184) : CSpec Tryd.prog 145 #[.string (M.B k), .string (M.B l)] (.string (M.B (k + l))) := fun w _ => by
  obtain ⟨i, hi⟩ := ev_some (SB.plus_spec (M.B k) (M.B l) (by have := h1.size; omega) (by have := h2.size; omega))
  rw [M.V_B, M.V_B] at hi
  exact gantref1_Plus.calls i _ _ _ w hi
theorem rplus1_k (h1 : SzN k K) (hs : K ≤ 4000000000) : CSpec Tryd.prog 145 #[.string (M.B k), .string ⟨#[1]⟩] (.string (M.B (k + 1))) := by
  have := rplus_k (l := 1) (L := 1) h1 (by unfold SzN; decide) (by omega)
  rwa [B_one1] at this
theorem rtimes_k (h1 : SzN k K) (h2 : SzN l L) (hs : K + L ≤ 17179869184) : CSpec Tryd.prog 143 #[.string (M.B k), .string (M.B l)] (.string (M.B (k * l))) := fun w _ => by
  obtain ⟨i, hi⟩ := ev_some (SB.times_spec (M.B k) (M.B l) (by have := h1.size; omega) (by have := h2.size; omega))
  rw [M.V_B, M.V_B] at hi
  exact gantref1_Times.calls i _ _ _ w hi
theorem rshare_k (h1 : SzN k K) (h2 : SzN l L) (hs : K + L ≤ 17179869184) (h0 : l ≠ 0) : CSpec Tryd.prog 148 #[.string (M.B k), .string (M.B l)] (.tuple #[.string (M.B (k / l)), .string (M.B (k % l))]) := fun w _ => by
  obtain ⟨i, hi⟩ := ev_some (SB.share_spec (M.B k) (M.B l) (by have := h1.size; omega) (by have := h2.size; omega) (by rw [M.V_B]; exact h0))
  rw [M.V_B, M.V_B] at hi
  exact gantref1_Share.calls i _ _ _ _ w hi
theorem rsmall_k {n : Int} (h1 : 0 ≤ n) (h2 : n ≤ 9223372036854775807) : CSpec Tryd.prog 101 #[.int .i64 n] (.string (M.B n.toNat)) := fun w _ => by
  obtain ⟨i, hi⟩ := ev_some (SB.small_spec n h1 (by omega))
  exact gantref1_Small.calls i _ _ w hi
end
end Go.Proofs.YtikepohhmagdpaaDoor.G
end
section
namespace Go.Proofs.YtikepohhmagdpaaDoor.G
open Go.Proofs.YtikepohhmagdpaaDoor.U Go.RowKit
set_option linter.unusedVariables false
set_option maxRecDepth 100000
theorem fine1 {n : Bool} {a b : ByteArray} {K : Nat} (ha : a.size ≤ K) (hb : b.size ≤ K) (k1 : K ≤ 1000000000) (h0 : (!ByteArray.toList (M.B (M.V a)) == ByteArray.toList a) = true) : CSpec Tryd.prog 100 #[(rv n a b)] (.bool false) := by
  exact fn_ok Tryd.func100 (sc := [(1,2,.fix (.string (M.B (M.V a)))), (1,5,.is (.c (.bool true)))]) (sb := []) (by kernel_rfl) (hC (rbarer_k (a := a)) (hP (isB h0) hN))
theorem fine2 {n : Bool} {a b : ByteArray} {K : Nat} (ha : a.size ≤ K) (hb : b.size ≤ K) (k1 : K ≤ 1000000000) (h0 : (!ByteArray.toList (M.B (M.V a)) == ByteArray.toList a) = false) (h1 : (!ByteArray.toList (M.B (M.V b)) == ByteArray.toList b) = true) : CSpec Tryd.prog 100 #[(rv n a b)] (.bool false) := by
  exact fn_ok Tryd.func100 (sc := [(1,2,.fix (.string (M.B (M.V a)))), (1,5,.is (.c (.bool false))), (1,9,.fix (.string (M.B (M.V b)))), (1,12,.is (.c (.bool true)))]) (sb := []) (by kernel_rfl) (hC (rbarer_k (a := a)) (hP (isB h0) (hC (rbarer_k (a := b)) (hP (isB h1) hN))))
theorem fine3 {n : Bool} {a b : ByteArray} {K : Nat} (ha : a.size ≤ K) (hb : b.size ≤ K) (k1 : K ≤ 1000000000) (h0 : (!ByteArray.toList (M.B (M.V a)) == ByteArray.toList a) = false) (h1 : (!ByteArray.toList (M.B (M.V b)) == ByteArray.toList b) = false) (h2 : (ByteArray.toList b == ByteArray.toList { data := #[] }) = true) : CSpec Tryd.prog 100 #[(rv n a b)] (.bool false) := by
  exact fn_ok Tryd.func100 (sc := [(1,2,.fix (.string (M.B (M.V a)))), (1,5,.is (.c (.bool false))), (1,9,.fix (.string (M.B (M.V b)))), (1,12,.is (.c (.bool false))), (1,17,.is (.c (.bool true)))]) (sb := []) (by kernel_rfl) (hC (rbarer_k (a := a)) (hP (isB h0) (hC (rbarer_k (a := b)) (hP (isB h1) (hP (isB h2) hN)))))
theorem fine4 {n : Bool} {a b : ByteArray} {K : Nat} (ha : a.size ≤ K) (hb : b.size ≤ K) (k1 : K ≤ 1000000000) (h0 : (!ByteArray.toList (M.B (M.V a)) == ByteArray.toList a) = false) (h1 : (!ByteArray.toList (M.B (M.V b)) == ByteArray.toList b) = false) (h2 : (ByteArray.toList b == ByteArray.toList { data := #[] }) = false) (h3 : (ByteArray.toList a == ByteArray.toList { data := #[] }) = true) (h4 : n = true) : CSpec Tryd.prog 100 #[(rv n a b)] (.bool false) := by
  exact fn_ok Tryd.func100 (sc := [(1,2,.fix (.string (M.B (M.V a)))), (1,5,.is (.c (.bool false))), (1,9,.fix (.string (M.B (M.V b)))), (1,12,.is (.c (.bool false))), (1,17,.is (.c (.bool false))), (3,2,.is (.c (.bool true))), (4,1,.is (.c (.bool true)))]) (sb := []) (by kernel_rfl) (hC (rbarer_k (a := a)) (hP (isB h0) (hC (rbarer_k (a := b)) (hP (isB h1) (hP (isB h2) (hP (isB h3) (hP (isB h4) hN)))))))
theorem fine5 {n : Bool} {a b : ByteArray} {K : Nat} (ha : a.size ≤ K) (hb : b.size ≤ K) (k1 : K ≤ 1000000000) (h0 : (!ByteArray.toList (M.B (M.V a)) == ByteArray.toList a) = false) (h1 : (!ByteArray.toList (M.B (M.V b)) == ByteArray.toList b) = false) (h2 : (ByteArray.toList b == ByteArray.toList { data := #[] }) = false) (h3 : (ByteArray.toList a == ByteArray.toList { data := #[] }) = true) (h4 : n = false) : CSpec Tryd.prog 100 #[(rv n a b)] (.bool (ByteArray.toList b == ByteArray.toList { data := #[(1 : UInt8)] })) := by
  exact fn_ok Tryd.func100 (sc := [(1,2,.fix (.string (M.B (M.V a)))), (1,5,.is (.c (.bool false))), (1,9,.fix (.string (M.B (M.V b)))), (1,12,.is (.c (.bool false))), (1,17,.is (.c (.bool false))), (3,2,.is (.c (.bool true))), (4,1,.is (.c (.bool false)))]) (sb := []) (by kernel_rfl) (hC (rbarer_k (a := a)) (hP (isB h0) (hC (rbarer_k (a := b)) (hP (isB h1) (hP (isB h2) (hP (isB h3) (hP (isB h4) hN)))))))
theorem fine6 {n : Bool} {a b : ByteArray} {K : Nat} (ha : a.size ≤ K) (hb : b.size ≤ K) (k1 : K ≤ 1000000000) (h0 : (!ByteArray.toList (M.B (M.V a)) == ByteArray.toList a) = false) (h1 : (!ByteArray.toList (M.B (M.V b)) == ByteArray.toList b) = false) (h2 : (ByteArray.toList b == ByteArray.toList { data := #[] }) = false) (h3 : (ByteArray.toList a == ByteArray.toList { data := #[] }) = false) : CSpec Tryd.prog 100 #[(rv n a b)] (.bool (ByteArray.toList (M.B (Nat.gcd (M.V a) (M.V b))) == ByteArray.toList { data := #[(1 : UInt8)] })) := by
  exact fn_ok Tryd.func100 (sc := [(1,2,.fix (.string (M.B (M.V a)))), (1,5,.is (.c (.bool false))), (1,9,.fix (.string (M.B (M.V b)))), (1,12,.is (.c (.bool false))), (1,17,.is (.c (.bool false))), (3,2,.is (.c (.bool false))), (5,4,.fix (.string (M.B (Nat.gcd (M.V a) (M.V b)))))]) (sb := []) (by kernel_rfl) (hC (rbarer_k (a := a)) (hP (isB h0) (hC (rbarer_k (a := b)) (hP (isB h1) (hP (isB h2) (hP (isB h3) (hC (rcommonr_k (a := a) (b := b) (by omega) (by omega)) hN)))))))
def NZ (d : Nat) : Prop := d ≠ 0
theorem nzden_s {x : Rat} : NZ x.den := x.den_nz
theorem nzmul_s {d e : Nat} (h : NZ d) (g : NZ e) : NZ (d * e) := Nat.mul_ne_zero h g
theorem nznum_s {x : Rat} (h : x ≠ 0) : NZ x.num.natAbs := fun e => h (Rat.num_eq_zero.1 (Int.natAbs_eq_zero.1 e))
theorem str_eq (a b : ByteArray) : (a.toList == b.toList) = decide (a = b) := by
  have := str_neq a b
  by_cases h : a = b
  · subst h; simp
  rw [decide_eq_true h] at this
  rw [decide_eq_false h]
  simpa using this
open Classical in
theorem fine_k {n : Bool} {a b : ByteArray} {x : Rat} {K : Nat} (h : IsR n a b x K) (k1 : K ≤ 1000000000) : CSpec Tryd.prog 100 #[rv n a b] (.bool (gd n a b)) := by
  have ha := h.sa
  have hb := h.sb
  unfold gd
  by_cases la : M.B (M.V a) = a
  case neg => rw [decide_eq_false (fun h => la h.la)]; exact fine1 ha hb k1 (by rw [str_neq]; exact decide_eq_true la)
  have g0 : (!(M.B (M.V a)).toList == a.toList) = false := by rw [str_neq]; exact decide_eq_false (fun h => h la)
  by_cases lb : M.B (M.V b) = b
  case neg => rw [decide_eq_false (fun h => lb h.lb)]; exact fine2 ha hb k1 g0 (by rw [str_neq]; exact decide_eq_true lb)
  have g1 : (!(M.B (M.V b)).toList == b.toList) = false := by rw [str_neq]; exact decide_eq_false (fun h => h lb)
  by_cases b0 : b = ⟨#[]⟩
  · rw [decide_eq_false (fun h => h.nz (by rw [b0]; rfl))]
    exact fine3 ha hb k1 g0 g1 (by rw [str_eq]; exact decide_eq_true b0)
  have g2 : (b.toList == ByteArray.toList ⟨#[]⟩) = false := by rw [str_eq]; exact decide_eq_false b0
  have nz : M.V b ≠ 0 := fun h => b0 (nil_of lb h)
  by_cases a0 : a = ⟨#[]⟩
  · have va : M.V a = 0 := by rw [a0]; rfl
    have g3 : (a.toList == ByteArray.toList ⟨#[]⟩) = true := by rw [str_eq]; exact decide_eq_true a0
    cases n with
    | true =>
      rw [decide_eq_false (fun h => by have := h.sg va; cases this)]
      exact fine4 ha hb k1 g0 g1 g2 g3 rfl
    | false =>
      refine cbool (fine5 ha hb k1 g0 g1 g2 g3 rfl) ?_
      rw [str_eq]
      refine decide_eq_decide.2 ⟨fun h1 => ⟨nz, la, lb, by rw [va, h1]; rfl, fun _ => rfl⟩, fun h => ?_⟩
      have := h.red
      rw [va, Nat.gcd_zero_left] at this
      exact (one_of lb).2 this
  have g3 : (a.toList == ByteArray.toList ⟨#[]⟩) = false := by rw [str_eq]; exact decide_eq_false a0
  refine cbool (fine6 ha hb k1 g0 g1 g2 g3) ?_
  rw [str_eq]
  refine decide_eq_decide.2 ⟨fun h1 => ⟨nz, la, lb, B_is_one.1 h1, fun h => (a0 (nil_of la h)).elim⟩, fun h => B_is_one.2 h.red⟩
theorem qof1 {n : Bool} {a b : ByteArray} {x : Rat} {K : Nat} (h : IsR n a b x K) (k1 : K ≤ 1000000000) (h0 : gd n a b = true) : CSpec Tryd.prog 87 #[(rv n a b)] (rv n a b) := by
  exact fn_ok Tryd.func87 (sc := [(1,1,.fix (.bool true))]) (sb := []) (by kernel_rfl) (hC (cbool (fine_k h k1) h0) hN)
theorem qof2 {n : Bool} {a b : ByteArray} {x : Rat} {K : Nat} (h : IsR n a b x K) (k1 : K ≤ 1000000000) (h0 : gd n a b = false) : CSpec Tryd.prog 87 #[(rv n a b)] (ag [[.bool false], [.string ({ data := #[] })], [.string ({ data := #[(1 : UInt8)] })]]) := by
  exact fn_ok Tryd.func87 (sc := [(1,1,.fix (.bool false))]) (sb := []) (by kernel_rfl) (hC (cbool (fine_k h k1) h0) hN)
theorem qmul_k {s t : Bool} {k d l e K L D E : Nat} (h1' : SzN k K) (h2' : SzN d D) (h3' : SzN l L) (h4' : SzN e E) (k1 : K + D + L + E ≤ 2000000000)  : CSpec Tryd.prog 90 #[(rv s (M.B k) (M.B d)), (rv t (M.B l) (M.B e))] (ag [[.bool (s != t)], [.string (M.B (k * l))], [.string (M.B (d * e))]]) := by
  exact fn_ok Tryd.func90 (sc := [(1,9,.fix (.string (M.B (k * l)))), (1,14,.fix (.string (M.B (d * e))))]) (sb := []) (by kernel_rfl) (hC (rtimes_k h1' h3' (by omega)) (hC (rtimes_k h2' h4' (by omega)) hN))
theorem qsign1 {s : Bool} {k d : Nat}  (h0 : (ByteArray.toList (M.B k) == ByteArray.toList { data := #[] }) = true) : CSpec Tryd.prog 89 #[(rv s (M.B k) (M.B d))] (.int IntKind.i64 (0 : Int)) := by
  exact fn_ok Tryd.func89 (sc := [(1,2,.fix (.string (M.B k))), (1,3,.is (.c (.bool true)))]) (sb := []) (by kernel_rfl) (hC (rbare_k (k := k)) (hP (isB h0) hN))
theorem qsign2 {s : Bool} {k d : Nat}  (h0 : (ByteArray.toList (M.B k) == ByteArray.toList { data := #[] }) = false) (h1 : s = true) : CSpec Tryd.prog 89 #[(rv s (M.B k) (M.B d))] (.int IntKind.i64 (-1 : Int)) := by
  exact fn_ok Tryd.func89 (sc := [(1,2,.fix (.string (M.B k))), (1,3,.is (.c (.bool false))), (3,1,.is (.c (.bool true)))]) (sb := []) (by kernel_rfl) (hC (rbare_k (k := k)) (hP (isB h0) (hP (isB h1) hN)))
theorem qsign3 {s : Bool} {k d : Nat}  (h0 : (ByteArray.toList (M.B k) == ByteArray.toList { data := #[] }) = false) (h1 : s = false) : CSpec Tryd.prog 89 #[(rv s (M.B k) (M.B d))] (.int IntKind.i64 (1 : Int)) := by
  exact fn_ok Tryd.func89 (sc := [(1,2,.fix (.string (M.B k))), (1,3,.is (.c (.bool false))), (3,1,.is (.c (.bool false)))]) (sb := []) (by kernel_rfl) (hC (rbare_k (k := k)) (hP (isB h0) (hP (isB h1) hN)))
theorem qof_k {n : Bool} {a b : ByteArray} {x : Rat} {K : Nat} (h : IsR n a b x K) (k1 : K ≤ 1000000000) : CSpec Tryd.prog 87 #[rv n a b] (Rv x) := by
  cases hg : gd n a b with
  | true =>
    have := qof1 h k1 hg
    rw [gd_can hg, h.eq] at this
    rwa [gd_can hg, h.eq]
  | false =>
    have e : x = 0 := by rw [← h.eq]; exact gd_not hg
    rw [e, Rv_zero]
    exact qof2 h k1 hg
section
variable {s t : Bool} {k d l e K L D E : Nat}
theorem qsign_k : CSpec Tryd.prog 89 #[rv s (M.B k) (M.B d)] (.int .i64 (Int.sign (sgn s k))) := by
  by_cases h : k = 0
  · have e : Int.sign (sgn s k) = 0 := by rw [h]; cases s <;> rfl
    rw [e]
    exact qsign1 (by rw [str_eq]; exact decide_eq_true (B_nil h))
  have g : (ByteArray.toList (M.B k) == ByteArray.toList ⟨#[]⟩) = false := by rw [str_eq]; exact decide_eq_false (B_ne h)
  cases s with
  | true =>
    have e : Int.sign (sgn true k) = -1 := Int.sign_eq_neg_one_of_neg (by simp only [sgn, if_true]; omega)
    rw [e]
    exact qsign2 g rfl
  | false =>
    have e : Int.sign (sgn false k) = 1 := Int.sign_eq_one_of_pos (by simp [sgn]; omega)
    rw [e]
    exact qsign3 g rfl
theorem gcdn_s (h : SzN d L) (hd : d ≠ 0) : SzN (Nat.gcd k d) L := Nat.lt_of_le_of_lt (Nat.gcd_le_right _ (by omega)) h
end
theorem rat1 {s : Bool} {k d K D : Nat} (h1' : SzN k K) (h2' : SzN d D) (k1 : K + D ≤ 2000000000) (hd : d ≠ 0) (h0 : (ByteArray.toList (M.B k) == ByteArray.toList { data := #[] }) = true) : CSpec Tryd.prog 144 #[(rv s (M.B k) (M.B d))] (ag [[.bool false], [.string ({ data := #[] })], [.string ({ data := #[(1 : UInt8)] })]]) := by
  exact fn_ok Tryd.func144 (sc := [(1,2,.fix (.string (M.B k))), (1,3,.is (.c (.bool true)))]) (sb := []) (by kernel_rfl) (hC (rbare_k (k := k)) (hP (isB h0) hN))
theorem rat2 {s : Bool} {k d K D : Nat} (h1' : SzN k K) (h2' : SzN d D) (k1 : K + D ≤ 2000000000) (hd : d ≠ 0) (h0 : (ByteArray.toList (M.B k) == ByteArray.toList { data := #[] }) = false) (h2 : Nat.gcd k d ≠ (0 : Nat)) : CSpec Tryd.prog 144 #[(rv s (M.B k) (M.B d))] (ag [[.bool s], [.string (M.B (k / Nat.gcd k d))], [.string (M.B (d / Nat.gcd k d))]]) := by
  have s1 := (gcdn_s (k := k) h2' hd)
  exact fn_ok Tryd.func144 (sc := [(1,2,.fix (.string (M.B k))), (1,3,.is (.c (.bool false))), (3,4,.fix (.string (M.B (Nat.gcd k d)))), (4,3,.fix (.tuple #[.string (M.B (k / Nat.gcd k d)), .string (M.B (k % Nat.gcd k d))])), (5,3,.fix (.tuple #[.string (M.B (d / Nat.gcd k d)), .string (M.B (d % Nat.gcd k d))]))]) (sb := []) (by kernel_rfl) (hC (rbare_k (k := k)) (hP (isB h0) (hC (rcommon_k h1' h2' k1) (hC (rshare_k h1' s1 (by omega) h2) (hC (rshare_k h2' s1 (by omega) h2) hN)))))
theorem wh_n {n : Int} {a b : ByteArray} (h : n < 0) (h2 : -9223372036854775808 ≤ n) (ho : CSpec Tryd.prog 101 #[.int .i64 (-(n + 1))] (.string a)) (hb : CSpec Tryd.prog 145 #[.string a, .string ⟨#[1]⟩] (.string b)) : CSpec Tryd.prog 93 #[.int .i64 n] (rv true b ⟨#[1]⟩) :=
  fn_ok Tryd.func93 (sc := [(1,1,.is (.c (.bool true))),(2,1,.is (.c (.int .i64 (n+1)))),(2,2,.is (.c (.int .i64 (-(n + 1))))),(2,3,.fix (.string a)),(2,4,.fix (.string b))]) (sb := []) (by kernel_rfl) (hP (isB (decide_eq_true h)) (hP (add_1 h h2) (hP (neg_1 h h2) (hC ho (hC hb hN)))))
theorem wh_p {n : Int} {a : ByteArray} (h : ¬ n < 0) (ho : CSpec Tryd.prog 101 #[.int .i64 n] (.string a)) : CSpec Tryd.prog 93 #[.int .i64 n] (rv false a ⟨#[1]⟩) :=
  fn_ok Tryd.func93 (sc := [(1,1,.is (.c (.bool false))),(3,1,.fix (.string a))]) (sb := []) (by kernel_rfl) (hP (isB (decide_eq_false h)) (hC ho hN))
theorem intn_z {n : Int} (h : -9223372036854775808 ≤ n) (h2 : n ≤ 9223372036854775807) : SzN n.natAbs 8 := by
  unfold SzN
  have : (256 : Nat) ^ 8 = 18446744073709551616 := by decide
  omega
theorem whole_q {n : Int} (h1 : -9223372036854775808 ≤ n) (h2 : n ≤ 9223372036854775807) : CSpec Tryd.prog 93 #[.int .i64 n] (rv (decide (n < 0)) (M.B n.natAbs) (M.B 1)) := by
  rw [B_one1]
  by_cases h : n < 0
  · rw [decide_eq_true h]
    have hb := rplus1_k (k := (-(n + 1)).toNat) (K := 8) (by
      have := intn_z h1 h2
      unfold SzN at *
      omega) (by decide)
    rw [show (-(n + 1)).toNat + 1 = n.natAbs by omega] at hb
    exact wh_n h h1 (rsmall_k (by omega) (by omega)) hb
  rw [decide_eq_false h]
  have ho := rsmall_k (n := n) (by omega) h2
  rw [show n.toNat = n.natAbs by omega] at ho
  exact wh_p h ho
theorem rwhole_k {n : Int} (h1 : -9223372036854775808 ≤ n) (h2 : n ≤ 9223372036854775807) : CSpec Tryd.prog 93 #[.int .i64 n] (Rv (n : Rat)) := whole_q h1 h2
theorem rat_k {s : Bool} {k d K D : Nat} (h1' : SzN k K) (h2' : SzN d D) (k1 : K + D ≤ 2000000000) (hd : d ≠ 0) : CSpec Tryd.prog 144 #[rv s (M.B k) (M.B d)] (Rv (mkRat (sgn s k) d)) := by
  by_cases h : k = 0
  · have e : mkRat (sgn s k) d = 0 := (Rat.mkRat_eq_zero hd).2 (by rw [h]; cases s <;> rfl)
    rw [e, Rv_zero]
    exact rat1 h1' h2' k1 hd (by rw [str_eq]; exact decide_eq_true (B_nil h))
  rw [rv_mk s k d h hd]
  exact rat2 h1' h2' k1 hd (by rw [str_eq]; exact decide_eq_false (B_ne h)) (fun hg => h (Nat.eq_zero_of_gcd_eq_zero_left hg))
theorem is0 {s : Bool} {k d K D : Nat} (h1' : SzN k K) (h2' : SzN d D) (k1 : K + D ≤ 2000000000) (hd : d ≠ 0)  : CSpec Tryd.prog 91 #[(rv s (M.B k) (M.B d)), (Rv (mkRat (sgn s k) d))] (.bool true) := by
  exact fn_ok Tryd.func91 (sc := [(1,1,.fix (Rv (mkRat (sgn s k) d))), (1,3,.eqs)]) (sb := []) (by kernel_rfl) (hC (rat_k (s := s) h1' h2' k1 hd) (hP (Eq.refl (Rv (mkRat (sgn s k) d))) hN))
theorem is_k {s : Bool} {k d K D : Nat} {z : Rat} (h1' : SzN k K) (h2' : SzN d D) (k1 : K + D ≤ 2000000000) (hd : NZ d) (h : mkRat (sgn s k) d = z) : CSpec Tryd.prog 91 #[rv s (M.B k) (M.B d), Rv z] (.bool true) := by
  subst h
  exact is0 h1' h2' k1 hd
end Go.Proofs.YtikepohhmagdpaaDoor.G
end
section
namespace Go.Proofs.YtikepohhmagdpaaDoor.G
open Go.Proofs.YtikepohhmagdpaaDoor.U Go.RowKit
set_option linter.unusedVariables false
set_option maxRecDepth 100000
theorem makez_k {n m : Int} (hn : -9223372036854775808 ≤ n) (hn2 : n ≤ 9223372036854775807) (h : m = 0) : CSpec Tryd.prog 92 #[.int .i64 n, .int .i64 m] (.tuple #[ag [[.bool false], [.string ⟨#[]⟩], [.string ⟨#[]⟩]], .int .i64 12]) := by
  subst h
  exact make_0 n hn hn2
theorem share1 {x y : Rat}  (h0 : decide (Int.sign (sgn (decide (Rat.num y < (0 : Int))) (Int.natAbs (Rat.num y))) = (0 : Int)) = true) : CSpec Tryd.prog 88 #[(Rv x), (Rv y), (ag [[.bool false], [.string ⟨#[]⟩], [.string ⟨#[]⟩]]), (.int .i64 12)] (.bool true) := by
  exact fn_ok Tryd.func88 (sc := [(1,1,.fix (.int IntKind.i64 (Int.sign (sgn (decide (Rat.num y < (0 : Int))) (Int.natAbs (Rat.num y)))))), (1,2,.is (.c (.bool true)))]) (sb := []) (by kernel_rfl) (hC (qsign_k (s := decide (Rat.num y < (0 : Int))) (k := Int.natAbs (Rat.num y)) (d := Rat.den y)) (hP (isB h0) hN))
theorem share2 {x y : Rat} {K L : Nat} (p1 : Sz x K) (p2 : Sz y L) (k1 : K ≤ 100000000) (k2 : L ≤ 100000000) (h : y ≠ 0) (h0 : decide (Int.sign (sgn (decide (Rat.num y < (0 : Int))) (Int.natAbs (Rat.num y))) = (0 : Int)) = false) (h10 : mkRat (sgn (decide (Rat.num x < (0 : Int)) != decide (Rat.num y < (0 : Int))) (Int.natAbs (Rat.num x) * Rat.den y)) (Rat.den x * Int.natAbs (Rat.num y)) = x / y) : CSpec Tryd.prog 88 #[(Rv x), (Rv y), (Rv (x / y)), (.int .i64 0)] (.bool true) := by
  have s1 := (num_s p1)
  have s2 := (den_s p1)
  have s3 := (den_s p2)
  have s4 := (num_s p2)
  have s5 := (muln_s s1 s3)
  have s6 := (muln_s s2 s4)
  have s7 := (nzden_s (x := x))
  have s8 := (nznum_s h)
  have s9 := (nzmul_s s7 s8)
  exact fn_ok Tryd.func88 (sc := [(1,1,.fix (.int IntKind.i64 (Int.sign (sgn (decide (Rat.num y < (0 : Int))) (Int.natAbs (Rat.num y)))))), (1,2,.is (.c (.bool false))), (3,11,.fix (ag [[.bool (decide (Rat.num x < (0 : Int)) != decide (Rat.num y < (0 : Int)))], [.string (M.B (Int.natAbs (Rat.num x) * Rat.den y))], [.string (M.B (Rat.den x * Int.natAbs (Rat.num y)))]])), (3,13,.fix (.bool true))]) (sb := []) (by kernel_rfl) (hC (qsign_k (s := decide (Rat.num y < (0 : Int))) (k := Int.natAbs (Rat.num y)) (d := Rat.den y)) (hP (isB h0) (hC (qmul_k (s := decide (Rat.num x < (0 : Int))) (t := decide (Rat.num y < (0 : Int))) s1 s2 s3 s4 (by omega)) (hC (is_k s5 s6 (by omega) s9 h10) hN))))
theorem div_mk {x y : Rat} (h0 : y ≠ 0) : mkRat (sgn (decide (x.num < 0) != decide (y.num < 0)) (x.num.natAbs * y.den)) (x.den * y.num.natAbs) = x / y := by
  have yn : y.num ≠ 0 := fun h => h0 (Rat.num_eq_zero.1 h)
  rw [Rat.div_def, Rat.mul_def', Rat.num_inv, Rat.den_inv, if_neg yn, sgn_mul, sgn_num]
  congr 2
  rcases Int.lt_or_gt_of_ne yn with h | h
  · rw [Int.sign_eq_neg_one_of_neg h]; simp [sgn, h]
  have : ¬ y.num < 0 := by omega
  rw [Int.sign_eq_one_of_pos h]; simp [sgn, this]
theorem mul_mk {x y : Rat} : mkRat (sgn (decide (x.num < 0) != decide (y.num < 0)) (x.num.natAbs * y.num.natAbs)) (x.den * y.den) = x * y := by
  rw [Rat.mul_def', sgn_mul, sgn_num, sgn_num]
theorem shz_k {x y : Rat} (h : y = 0) : CSpec Tryd.prog 88 #[Rv x, Rv y, ag [[.bool false], [.string ⟨#[]⟩], [.string ⟨#[]⟩]], .int .i64 12] (.bool true) := share1 (by subst h; decide +kernel)
theorem shd_k {x y : Rat} {K L : Nat} (p1 : Sz x K) (p2 : Sz y L) (k1 : K ≤ 100000000) (k2 : L ≤ 100000000) (h : y ≠ 0) : CSpec Tryd.prog 88 #[Rv x, Rv y, Rv (x / y), .int .i64 0] (.bool true) :=
  share2 p1 p2 k1 k2 h (by rw [sgn_num]; exact decide_eq_false (fun hh => h (sign_eq.1 hh))) (div_mk h)
noncomputable def ratMuls_w_sc (n1 n2 : Bool) (a1 b1 a2 b2 : ByteArray) (x y : Rat) (K L : Nat) (n m : Int) : Script := [(1,0,.fix (.bool true)), (3,1,.fix (Rv x)), (3,3,.fix (Rv y)), (7,2,.fix (ag [[.bool (decide (Rat.num x < (0 : Int)) != decide (Rat.num y < (0 : Int)))], [.string (M.B (Int.natAbs (Rat.num x) * Int.natAbs (Rat.num y)))], [.string (M.B (Rat.den x * Rat.den y))]])), (7,5,.fix (Rv (x * y))), (7,6,.fix (.bool true)), (7,13,.fix (.bool true)), (7,17,.fix (Rv (↑n : Rat))), (7,19,.fix (Rv (↑n : Rat))), (7,20,.fix (.bool true)), (7,25,.fix (Rv (↑n : Rat))), (7,27,.fix (Rv (↑m : Rat))), (7,30,.fix (.bool true))]
theorem ratMuls_w {n1 n2 : Bool} {a1 b1 a2 b2 : ByteArray} {x y : Rat} {K L : Nat} {n m : Int} (h1' : IsR n1 a1 b1 x K) (h2' : IsR n2 a2 b2 y L) (k1 : K ≤ 2000000) (k2 : L ≤ 2000000) (hn : -9223372036854775808 ≤ n) (hn2 : n ≤ 9223372036854775807) (hm : -9223372036854775808 ≤ m) (hm2 : m ≤ 9223372036854775807) (g2 : mkRat (sgn (decide (Rat.num x < (0 : Int)) != decide (Rat.num y < (0 : Int))) (Int.natAbs (Rat.num x) * Int.natAbs (Rat.num y))) (Rat.den x * Rat.den y) = x * y) (g3 : mkRat (sgn (decide (Rat.num (↑n : Rat) < (0 : Int))) (Int.natAbs (Rat.num (↑n : Rat)))) (Rat.den (↑n : Rat)) = (↑n : Rat)) : ((y ≠ (0 : Rat)) → (m ≠ (0 : Int)) → ((↑m : Rat) ≠ (0 : Rat)) → CSpec Tryd.prog 12 #[(rv n1 a1 b1), (rv n2 a2 b2), (.int .i64 n), (.int .i64 m)] (.bool true)) ∧ ((y ≠ (0 : Rat)) → (m = (0 : Int)) → ((↑m : Rat) = (0 : Rat)) → CSpec Tryd.prog 12 #[(rv n1 a1 b1), (rv n2 a2 b2), (.int .i64 n), (.int .i64 m)] (.bool true)) ∧ ((y = (0 : Rat)) → (m ≠ (0 : Int)) → ((↑m : Rat) ≠ (0 : Rat)) → CSpec Tryd.prog 12 #[(rv n1 a1 b1), (rv n2 a2 b2), (.int .i64 n), (.int .i64 m)] (.bool true)) ∧ ((y = (0 : Rat)) → (m = (0 : Int)) → ((↑m : Rat) = (0 : Rat)) → CSpec Tryd.prog 12 #[(rv n1 a1 b1), (rv n2 a2 b2), (.int .i64 n), (.int .i64 m)] (.bool true)) := by
  have w0 := (num_s (szr h1'))
  have w1 := (den_s (szr h1'))
  have w2 := (num_s (szr h2'))
  have w3 := (den_s (szr h2'))
  have w4 := (muln_s w0 w2)
  have w5 := (muln_s w1 w3)
  have w6 := (nzden_s (x := x))
  have w7 := (nzden_s (x := y))
  have w8 := (nzmul_s w6 w7)
  have w9 := (int_s (n := n) (by omega))
  have w10 := (num_s w9)
  have w11 := (den_s w9)
  have w12 := (nzden_s (x := (↑n : Rat)))
  have w13 := (int_s (n := m) (by omega))
  have e0 := fun (r : List Ob) (t : Holds Tryd.prog r) => (hC (qmul_k (s := decide (Rat.num x < (0 : Int))) (t := decide (Rat.num y < (0 : Int))) w0 w1 w2 w3 (by omega)) (hC (mul_k h1' h2' (by omega)) (hC (is_k w4 w5 (by omega) w8 g2) t)))
  have e1 := fun (r : List Ob) (t : Holds Tryd.prog r) => (hC (rwhole_k hn hn2) (hC (of_k hn hn2) (hC (is_k w10 w11 (by decide +kernel) w12 g3) (hC (rwhole_k hn hn2) (hC (rwhole_k hm hm2) t)))))
  have e2 := fun (r : List Ob) (t : Holds Tryd.prog r) => (hC ratBegun_k (hC (qof_k h1' (by omega)) (hC (qof_k h2' (by omega)) t)))
  refine ⟨?_, ?_, ?_, ?_⟩
  · intro g0 g1 g4
    exact fn_ok Tryd.func12 (sc := [(5,2,.fix (.tuple #[Rv (x / y), .int IntKind.i64 (0 : Int)])), (6,2,.fix (.tuple #[Rv ((↑n : Rat) / (↑m : Rat)), .int IntKind.i64 (0 : Int)]))] ++ ratMuls_w_sc n1 n2 a1 b1 a2 b2 x y K L n m) (sb := []) (by kernel_rfl) (e2 _ (hC (div_k h1' h2' (by omega) g0) (hC (make_k hn hn2 hm hm2 g1) (e0 _ (hC (shd_k (szr h1') (szr h2') (by omega) (by omega) g0) (e1 _ (hC (shd_k w9 w13 (by decide +kernel) (by decide +kernel) g4) hN)))))))
  · intro g0 g5 g6
    exact fn_ok Tryd.func12 (sc := [(5,2,.fix (.tuple #[Rv (x / y), .int IntKind.i64 (0 : Int)])), (6,2,.fix (.tuple #[ag [[.bool false], [.string ({ data := #[] })], [.string ({ data := #[] })]], .int IntKind.i64 (12 : Int)]))] ++ ratMuls_w_sc n1 n2 a1 b1 a2 b2 x y K L n m) (sb := []) (by kernel_rfl) (e2 _ (hC (div_k h1' h2' (by omega) g0) (hC (makez_k hn hn2 g5) (e0 _ (hC (shd_k (szr h1') (szr h2') (by omega) (by omega) g0) (e1 _ (hC (shz_k (x := (↑n : Rat)) g6) hN)))))))
  · intro g7 g1 g4
    exact fn_ok Tryd.func12 (sc := [(5,2,.fix (.tuple #[ag [[.bool false], [.string ({ data := #[] })], [.string ({ data := #[] })]], .int IntKind.i64 (12 : Int)])), (6,2,.fix (.tuple #[Rv ((↑n : Rat) / (↑m : Rat)), .int IntKind.i64 (0 : Int)]))] ++ ratMuls_w_sc n1 n2 a1 b1 a2 b2 x y K L n m) (sb := []) (by kernel_rfl) (e2 _ (hC (divz_k h1' h2' (by omega) g7) (hC (make_k hn hn2 hm hm2 g1) (e0 _ (hC (shz_k (x := x) g7) (e1 _ (hC (shd_k w9 w13 (by decide +kernel) (by decide +kernel) g4) hN)))))))
  intro g7 g5 g6
  exact fn_ok Tryd.func12 (sc := [(5,2,.fix (.tuple #[ag [[.bool false], [.string ({ data := #[] })], [.string ({ data := #[] })]], .int IntKind.i64 (12 : Int)])), (6,2,.fix (.tuple #[ag [[.bool false], [.string ({ data := #[] })], [.string ({ data := #[] })]], .int IntKind.i64 (12 : Int)]))] ++ ratMuls_w_sc n1 n2 a1 b1 a2 b2 x y K L n m) (sb := []) (by kernel_rfl) (e2 _ (hC (divz_k h1' h2' (by omega) g7) (hC (makez_k hn hn2 g5) (e0 _ (hC (shz_k (x := x) g7) (e1 _ (hC (shz_k (x := (↑n : Rat)) g6) hN)))))))
theorem ratMuls_law (n1 : Bool) (a1 b1 : ByteArray) (n2 : Bool) (a2 b2 : ByteArray) (n m : Int) (s1 : a1.size ≤ 1048576) (t1 : b1.size ≤ 1048576) (s2 : a2.size ≤ 1048576) (t2 : b2.size ≤ 1048576) (hn : (-9223372036854775808 : Int) ≤ n ∧ n ≤ 9223372036854775807) (hm : (-9223372036854775808 : Int) ≤ m ∧ m ≤ 9223372036854775807) : CSpec Tryd.prog 12 #[ag [rr n1 a1 b1], ag [rr n2 a2 b2], .int .i64 n, .int .i64 m] (.bool true) := by
  have i1 := IsR.raw n1 a1 b1 s1 t1 (by decide)
  have i2 := IsR.raw n2 a2 b2 s2 t2 (by decide)
  generalize qv n1 a1 b1 = x at *
  generalize qv n2 a2 b2 = y at *
  have e : mkRat (sgn (decide (Rat.num (n : Rat) < 0)) (Rat.num (n : Rat)).natAbs) (Rat.den (n : Rat)) = (n : Rat) := by rw [sgn_num, Rat.mkRat_self]
  obtain ⟨c0, c1, c2, c3⟩ := ratMuls_w i1 i2 (by decide) (by decide) hn.1 hn.2 hm.1 hm.2 mul_mk e
  have z : m ≠ 0 → (m : Rat) ≠ 0 := fun h g => h (by have := congrArg Rat.num g; simpa using this)
  by_cases hy : y = 0 <;> by_cases h0 : m = 0
  · exact c3 hy h0 (by rw [h0]; rfl)
  · exact c2 hy h0 (z h0)
  · exact c1 hy h0 (by rw [h0]; rfl)
  exact c0 hy h0 (z h0)
end Go.Proofs.YtikepohhmagdpaaDoor.G
end
