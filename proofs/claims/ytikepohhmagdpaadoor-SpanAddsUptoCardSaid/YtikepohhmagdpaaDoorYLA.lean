import Derived.Test.YtikepohhmagdpaaDoorYPA
import Derived.Test.YtikepohhmagdpaaDoorYU5
namespace Go.Proofs.YtikepohhmagdpaaDoor.G
open Go.Proofs.YtikepohhmagdpaaDoor.U Go.RowKit
set_option linter.unusedVariables false
set_option maxRecDepth 100000
def numC (l : List Rat) : List V := nv (l.map rc)
theorem numC_cons (x : Rat) (l : List Rat) : numC (x :: l) = (rc x).map V.c ++ numC l := by simp [numC, nv]
theorem numC_at : ∀ {l : List Rat} {i : Nat} {x : Rat}, l[i]? = some x → ((numC l).drop (i * 3)).take 3 = (rc x).map V.c
  | [], i, x, h => by simp at h
  | y :: l, 0, x, h => by
    simp only [List.getElem?_cons_zero, Option.some.injEq] at h
    subst h
    rw [numC_cons]
    rfl
  | y :: l, i + 1, x, h => by
    rw [numC_cons, show (i + 1) * 3 = 3 + i * 3 by omega, ← List.drop_drop]
    exact numC_at (by simpa using h)
theorem numC_ld {l : List Rat} {o i : Nat} {x : Rat} (h : l[i]? = some x) (ho : o = i * 3) : ((numC l).drop o).take 3 = (rc x).map V.c ∧ (rc x).toArray.size = 3 := by
  subst ho
  exact ⟨numC_at h, rfl⟩
theorem numC_flat (l : List Rat) : ∀ v : V, v ∈ numC l → v.isC = true := by
  intro v hv
  obtain ⟨u, _, rfl⟩ := List.mem_map.1 hv
  rfl
theorem inc_i {i n : Nat} (h : i < n) (hn : n < 4611686018427387904) : V.c (.int .i64 (IntKind.wrap .i64 ((i : Int) + 1))) = V.c (.int .i64 ((i + 1 : Nat) : Int)) := by
  congr 2
  rw [IntKind.wrap_i64]
  push_cast
  omega
theorem mn_sz {x y : Rat} {K : Nat} (hx : Sz x K) (hy : Sz y K) : Sz (mn x y) K := by unfold mn; split <;> assumption
theorem mx_sz {x y : Rat} {K : Nat} (hx : Sz x K) (hy : Sz y K) : Sz (mx x y) K := by unfold mx; split <;> assumption
def zr : List Value := [.bool false, .string ⟨#[]⟩, .string ⟨#[]⟩]
def arS (l : List Rat) (i m : Nat) (lo hi : Rat) : St := ⟨slots 29 0 [(2, .p 1 0), (3, .p 2 0), (11, .sl 0 3 m m), (12, vI (m : Nat)), (13, vI (i : Nat))], [some ⟨false, numC l⟩, some ⟨true, nv [zr, zr]⟩, some ⟨true, nv [rc lo, rc hi]⟩]⟩
section
variable {l : List Rat} {i m n K : Nat} {lo hi x : Rat}
theorem ar_go (hx : l[i + 1]? = some x) (hi' : i < m) (hm : m < 4611686018427387904) (s1 : Sz lo K) (s2 : Sz hi K) (s3 : Sz x K) (hK : K ≤ 1000000000) : TSpec Tryd.prog (loopOf Tryd.f134 0) (arS l i m lo hi) .normal (arS l (i + 1) m (mn lo x) (mx hi x)) :=
  tspec_dim (sc := [(3,0,.is vT),(4,1,.fix (Rv x)),(5,3,.fix (Rv (mn lo x))),(5,7,.fix (Rv (mx hi x))),(6,0,.is (vI ((i + 1 : Nat) : Int)))]) (sb := []) (mask 29 0 [2, 3, 11, 12, 13]) 3 (by kernel_rfl)
    (hP (isB (decide_eq_true (show (i : Int) < (m : Int) by omega))) (hP (show (0 : Int) ≤ (i : Int) ∧ (i : Int) < (m : Int) by omega) (hP (numC_ld (o := 3 + i * 3) hx (by omega)) (hC (min_k (isR_s s1) (isR_s s3) (by omega)) (hC (max_k (isR_s s2) (isR_s s3) (by omega)) (hP (inc_i hi' hm) hN))))))
    ⟨numC_flat l, flatB_flat rfl⟩
theorem ar_end : TSpec Tryd.prog (loopOf Tryd.f134 0) (arS l m m lo hi) (.exit 0) (arS l m m lo hi) :=
  tspec_dim (sc := [(3,0,.is vF)]) (sb := []) (mask 29 0 [2, 3, 11, 12, 13]) 3 (by kernel_rfl) (hP (isB (decide_eq_false (show ¬ (m : Int) < (m : Int) by omega))) hN) ⟨numC_flat l, flatB_flat rfl⟩
theorem ar_loop (hm : m < 4611686018427387904) (hK : K ≤ 1000000000) : ∀ (r : List Rat) (i : Nat) (lo hi : Rat), l.drop (i + 1) = r → i + r.length = m → (∀ y ∈ r, Sz y K) → Sz lo K → Sz hi K →
    Rounds Tryd.prog (loopOf Tryd.f134 0) 0 (arS l i m lo hi) .normal (arS l m m (r.foldl mn lo) (r.foldl mx hi))
  | [], i, lo, hi, _, hl, _, _, _ => by
    have : i = m := by simpa using hl
    subst this
    exact .stop ar_end
  | x :: r, i, lo, hi, hd, hl, hs, s1, s2 => by
    have hx : l[i + 1]? = some x := by
      have := congrArg (fun q => q[0]?) hd
      simpa [List.getElem?_drop] using this
    have s3 := hs x List.mem_cons_self
    simp only [List.length_cons] at hl
    refine .step (ar_go hx (by omega) hm s1 s2 s3 hK) (ar_loop hm hK r (i + 1) _ _ ?_ (by omega) (fun y hy => hs y (List.mem_cons_of_mem _ hy)) (mn_sz s1 s3) (mx_sz s2 s3))
    have := congrArg (List.drop 1) hd
    rwa [List.drop_drop] at this
theorem sl_from1 (hm : 0 < m) : V.sl 0 (0 + (if m + 1 = Int.toNat 1 then 0 else Int.toNat 1 * 3)) (Int.toNat ((m + 1 : Nat) : Int) - Int.toNat 1) (m + 1 - Int.toNat 1) = V.sl 0 3 m m := by
  rw [if_neg (by simp; omega)]
  simp
theorem around_g (r : List Rat) (h0 : 0 < r.length) (hn : r.length < 1000000000) (s0 : Sz x K) (hs : ∀ y ∈ r, Sz y K) (hK : K ≤ 1000000000) : FSpec Tryd.prog 134 [.sl 0 0 (r.length + 1) (r.length + 1)] [some ⟨false, numC (x :: r)⟩] (.c (ag [rc (r.foldl mn x), rc (r.foldl mx x)])) [some ⟨false, numC (x :: r)⟩] :=
  fspec_ok Tryd.func134 (sc := [(1,2,.fix (Rv x)),(1,3,.fix (ag [rc x, rc x])),(2,1,.is (.sl 0 3 r.length r.length)),(0,99999,.mask (mask 29 0 [2, 3, 11, 12, 13]))]) (sb := [(0,.normal,arS (x :: r) r.length r.length (r.foldl mn x) (r.foldl mx x))]) (keep := []) (by kernel_rfl)
    (hP (show Flat [some ⟨false, numC (x :: r)⟩] from ⟨numC_flat _, trivial⟩) (hP (show (0 : Int) ≤ 0 ∧ (0 : Int) < ((r.length + 1 : Nat) : Int) by omega) (hP (numC_ld (l := x :: r) (o := 0) (i := 0) rfl rfl) (hC (sof_k (isR_s s0) (by omega)) (hP (sl_from1 h0)
      (hP (show (0 : Int) ≤ 1 ∧ (1 : Int) ≤ ((r.length + 1 : Nat) : Int) ∧ ((r.length + 1 : Nat) : Int) ≤ ((r.length + 1 : Nat) : Int) by omega)
      (hP (show Flat (arS (x :: r) 0 r.length x x).m from ⟨numC_flat _, flatB_flat rfl⟩) (hP (ar_loop (l := x :: r) (m := r.length) (by omega) hK r 0 x x rfl (by omega) hs s0 s0).spec hN))))))))
end
def brS (l : List Rat) (i n : Nat) (lo hi : Rat) : St := ⟨slots 35 0 [(2, .p 1 0), (3, .p 2 0), (13, .sl 0 0 n n), (14, vI (n : Nat)), (15, vI (i : Nat))], [some ⟨false, numC l⟩, some ⟨true, nv [zr, zr]⟩, some ⟨true, nv [rc lo, rc hi]⟩]⟩
section
variable {l : List Rat} {i m n K : Nat} {lo hi x : Rat}
theorem br_1 (hx : l[i]? = some x) (hi' : i < n) (hm : n < 4611686018427387904) (s1 : Sz lo K) (s2 : Sz hi K) (s3 : Sz x K) (hK : K ≤ 1000000000) (c1 : x < lo) (c2 : hi < x) : TSpec Tryd.prog (loopOf Tryd.f59 0) (brS l i n lo hi) .normal (brS l (i + 1) n x x) :=
  tspec_dim (sc := [(3,0,.is vT),(4,1,.fix (Rv x)),(5,3,.fix (.int .i64 (cmpR x lo))),(5,4,.is vT),(7,3,.fix (.int .i64 (cmpR x hi))),(7,4,.is vT),(9,0,.is (vI ((i + 1 : Nat) : Int)))]) (sb := []) (mask 35 0 [2, 3, 13, 14, 15]) 3 (by kernel_rfl)
    (hP (isB (decide_eq_true (show (i : Int) < (n : Int) by omega))) (hP (show (0 : Int) ≤ (i : Int) ∧ (i : Int) < (n : Int) by omega) (hP (numC_ld (o := 0 + i * 3) hx (by omega)) (hC (cmp_k (isR_s s3) (isR_s s1) (by omega)) (hP (isB (decide_eq_true (cmpR_lt.2 c1)))
      (hC (cmp_k (isR_s s3) (isR_s s2) (by omega)) (hP (isB (decide_eq_true (cmpR_gt.2 c2))) (hP (inc_i hi' hm) hN)))))))) ⟨numC_flat l, flatB_flat rfl⟩
theorem br_2 (hx : l[i]? = some x) (hi' : i < n) (hm : n < 4611686018427387904) (s1 : Sz lo K) (s2 : Sz hi K) (s3 : Sz x K) (hK : K ≤ 1000000000) (c1 : x < lo) (c2 : ¬ hi < x) : TSpec Tryd.prog (loopOf Tryd.f59 0) (brS l i n lo hi) .normal (brS l (i + 1) n x hi) :=
  tspec_dim (sc := [(3,0,.is vT),(4,1,.fix (Rv x)),(5,3,.fix (.int .i64 (cmpR x lo))),(5,4,.is vT),(7,3,.fix (.int .i64 (cmpR x hi))),(7,4,.is vF),(9,0,.is (vI ((i + 1 : Nat) : Int)))]) (sb := []) (mask 35 0 [2, 3, 13, 14, 15]) 3 (by kernel_rfl)
    (hP (isB (decide_eq_true (show (i : Int) < (n : Int) by omega))) (hP (show (0 : Int) ≤ (i : Int) ∧ (i : Int) < (n : Int) by omega) (hP (numC_ld (o := 0 + i * 3) hx (by omega)) (hC (cmp_k (isR_s s3) (isR_s s1) (by omega)) (hP (isB (decide_eq_true (cmpR_lt.2 c1)))
      (hC (cmp_k (isR_s s3) (isR_s s2) (by omega)) (hP (isB (decide_eq_false (fun h => c2 (cmpR_gt.1 h)))) (hP (inc_i hi' hm) hN)))))))) ⟨numC_flat l, flatB_flat rfl⟩
theorem br_3 (hx : l[i]? = some x) (hi' : i < n) (hm : n < 4611686018427387904) (s1 : Sz lo K) (s2 : Sz hi K) (s3 : Sz x K) (hK : K ≤ 1000000000) (c1 : ¬ x < lo) (c2 : hi < x) : TSpec Tryd.prog (loopOf Tryd.f59 0) (brS l i n lo hi) .normal (brS l (i + 1) n lo x) :=
  tspec_dim (sc := [(3,0,.is vT),(4,1,.fix (Rv x)),(5,3,.fix (.int .i64 (cmpR x lo))),(5,4,.is vF),(7,3,.fix (.int .i64 (cmpR x hi))),(7,4,.is vT),(9,0,.is (vI ((i + 1 : Nat) : Int)))]) (sb := []) (mask 35 0 [2, 3, 13, 14, 15]) 3 (by kernel_rfl)
    (hP (isB (decide_eq_true (show (i : Int) < (n : Int) by omega))) (hP (show (0 : Int) ≤ (i : Int) ∧ (i : Int) < (n : Int) by omega) (hP (numC_ld (o := 0 + i * 3) hx (by omega)) (hC (cmp_k (isR_s s3) (isR_s s1) (by omega)) (hP (isB (decide_eq_false (fun h => c1 (cmpR_lt.1 h))))
      (hC (cmp_k (isR_s s3) (isR_s s2) (by omega)) (hP (isB (decide_eq_true (cmpR_gt.2 c2))) (hP (inc_i hi' hm) hN)))))))) ⟨numC_flat l, flatB_flat rfl⟩
theorem br_4 (hx : l[i]? = some x) (hi' : i < n) (hm : n < 4611686018427387904) (s1 : Sz lo K) (s2 : Sz hi K) (s3 : Sz x K) (hK : K ≤ 1000000000) (c1 : ¬ x < lo) (c2 : ¬ hi < x) : TSpec Tryd.prog (loopOf Tryd.f59 0) (brS l i n lo hi) .normal (brS l (i + 1) n lo hi) :=
  tspec_dim (sc := [(3,0,.is vT),(4,1,.fix (Rv x)),(5,3,.fix (.int .i64 (cmpR x lo))),(5,4,.is vF),(7,3,.fix (.int .i64 (cmpR x hi))),(7,4,.is vF),(9,0,.is (vI ((i + 1 : Nat) : Int)))]) (sb := []) (mask 35 0 [2, 3, 13, 14, 15]) 3 (by kernel_rfl)
    (hP (isB (decide_eq_true (show (i : Int) < (n : Int) by omega))) (hP (show (0 : Int) ≤ (i : Int) ∧ (i : Int) < (n : Int) by omega) (hP (numC_ld (o := 0 + i * 3) hx (by omega)) (hC (cmp_k (isR_s s3) (isR_s s1) (by omega)) (hP (isB (decide_eq_false (fun h => c1 (cmpR_lt.1 h))))
      (hC (cmp_k (isR_s s3) (isR_s s2) (by omega)) (hP (isB (decide_eq_false (fun h => c2 (cmpR_gt.1 h)))) (hP (inc_i hi' hm) hN)))))))) ⟨numC_flat l, flatB_flat rfl⟩
theorem mn_if (lo x : Rat) : mn lo x = if x < lo then x else lo := by
  unfold mn
  by_cases h : x < lo
  · rw [if_pos h, if_neg (Rat.not_le.2 h)]
  · rw [if_neg h, if_pos (Rat.not_lt.1 h)]
theorem mx_if (hi x : Rat) : mx hi x = if hi < x then x else hi := by
  unfold mx
  by_cases h : hi < x
  · rw [if_pos h, if_neg (Rat.not_le.2 h)]
  · rw [if_neg h, if_pos (Rat.not_lt.1 h)]
theorem br_go (hx : l[i]? = some x) (hi' : i < n) (hm : n < 4611686018427387904) (s1 : Sz lo K) (s2 : Sz hi K) (s3 : Sz x K) (hK : K ≤ 1000000000) : TSpec Tryd.prog (loopOf Tryd.f59 0) (brS l i n lo hi) .normal (brS l (i + 1) n (mn lo x) (mx hi x)) := by
  rw [mn_if, mx_if]
  by_cases c1 : x < lo <;> by_cases c2 : hi < x
  · rw [if_pos c1, if_pos c2]; exact br_1 hx hi' hm s1 s2 s3 hK c1 c2
  · rw [if_pos c1, if_neg c2]; exact br_2 hx hi' hm s1 s2 s3 hK c1 c2
  · rw [if_neg c1, if_pos c2]; exact br_3 hx hi' hm s1 s2 s3 hK c1 c2
  · rw [if_neg c1, if_neg c2]; exact br_4 hx hi' hm s1 s2 s3 hK c1 c2
theorem br_end : TSpec Tryd.prog (loopOf Tryd.f59 0) (brS l n n lo hi) (.exit 0) (brS l n n lo hi) :=
  tspec_dim (sc := [(3,0,.is vF)]) (sb := []) (mask 35 0 [2, 3, 13, 14, 15]) 3 (by kernel_rfl) (hP (isB (decide_eq_false (show ¬ (n : Int) < (n : Int) by omega))) hN) ⟨numC_flat l, flatB_flat rfl⟩
theorem br_loop (hm : n < 4611686018427387904) (hK : K ≤ 1000000000) : ∀ (r : List Rat) (i : Nat) (lo hi : Rat), l.drop i = r → i + r.length = n → (∀ y ∈ r, Sz y K) → Sz lo K → Sz hi K →
    Rounds Tryd.prog (loopOf Tryd.f59 0) 0 (brS l i n lo hi) .normal (brS l n n (r.foldl mn lo) (r.foldl mx hi))
  | [], i, lo, hi, _, hl, _, _, _ => by
    have : i = n := by simpa using hl
    subst this
    exact .stop br_end
  | x :: r, i, lo, hi, hd, hl, hs, s1, s2 => by
    have hx : l[i]? = some x := by
      have := congrArg (fun q => q[0]?) hd
      simpa [List.getElem?_drop] using this
    have s3 := hs x List.mem_cons_self
    simp only [List.length_cons] at hl
    refine .step (br_go hx (by omega) hm s1 s2 s3 hK) (br_loop hm hK r (i + 1) _ _ ?_ (by omega) (fun y hy => hs y (List.mem_cons_of_mem _ hy)) (mn_sz s1 s3) (mx_sz s2 s3))
    have := congrArg (List.drop 1) hd
    rwa [List.drop_drop] at this
theorem rAround_g (r : List Rat) (hn : r.length < 1000000000) (s0 : Sz x K) (hs : ∀ y ∈ r, Sz y K) (hK : K ≤ 1000000000) : FSpec Tryd.prog 59 [.sl 0 0 (r.length + 1) (r.length + 1)] [some ⟨false, numC (x :: r)⟩] (.c (ag [rc (r.foldl mn x), rc (r.foldl mx x)])) [some ⟨false, numC (x :: r)⟩] := by
  have hl := (br_loop (l := x :: r) (n := r.length + 1) (by omega) hK (x :: r) 0 x x rfl (by simp) (fun y hy => by
    rcases List.mem_cons.1 hy with rfl | hy
    · exact s0
    · exact hs y hy) s0 s0).spec
  simp only [List.foldl_cons, mn_self, mx_self] at hl
  exact fspec_ok Tryd.func59 (sc := [(1,2,.fix (Rv x)),(1,5,.fix (Rv x)),(0,99999,.mask (mask 35 0 [2, 3, 13, 14, 15]))]) (sb := [(0,.normal,brS (x :: r) (r.length + 1) (r.length + 1) (r.foldl mn x) (r.foldl mx x))]) (keep := []) (by kernel_rfl)
    (hP (show Flat [some ⟨false, numC (x :: r)⟩] from ⟨numC_flat _, trivial⟩) (hP (show (0 : Int) ≤ 0 ∧ (0 : Int) < ((r.length + 1 : Nat) : Int) by omega) (hP (numC_ld (l := x :: r) (o := 0) (i := 0) rfl rfl) (hP (show (0 : Int) ≤ 0 ∧ (0 : Int) < ((r.length + 1 : Nat) : Int) by omega) (hP (numC_ld (l := x :: r) (o := 0) (i := 0) rfl rfl)
      (hP (show Flat (brS (x :: r) 0 (r.length + 1) x x).m from ⟨numC_flat _, flatB_flat rfl⟩) (hP hl hN)))))))
end
section
variable {x y z u : Rat} {K L M N : Nat}
theorem around2_k (h1 : Sz x K) (h2 : Sz y L) (hs : K + L ≤ 1000000000) : FSpec Tryd.prog 134 [.sl 0 0 2 2] [some ⟨false, nv [rc x, rc y]⟩] (.c (ag [rc (mn x y), rc (mx x y)])) [some ⟨false, nv [rc x, rc y]⟩] :=
  around_g (K := K + L) [y] (by simp) (by simp) (h1.mono (by omega)) (by intro w hw; simp at hw; subst hw; exact h2.mono (by omega)) hs
theorem rAround1_k (h1 : Sz x K) (hs : K ≤ 1000000000) : FSpec Tryd.prog 59 [.sl 0 0 1 1] [some ⟨false, nv [rc x]⟩] (.c (ag [rc x, rc x])) [some ⟨false, nv [rc x]⟩] :=
  rAround_g (K := K) [] (by decide) h1 (by simp) hs
theorem rAround4_k (h1 : Sz x K) (h2 : Sz y L) (h3 : Sz z M) (h4 : Sz u N) (hs : K + L + M + N ≤ 1000000000) : FSpec Tryd.prog 59 [.sl 0 0 4 4] [some ⟨false, nv [rc x, rc y, rc z, rc u]⟩] (.c (ag [rc (mn (mn (mn x y) z) u), rc (mx (mx (mx x y) z) u)])) [some ⟨false, nv [rc x, rc y, rc z, rc u]⟩] :=
  rAround_g (K := K + L + M + N) [y, z, u] (by simp) (h1.mono (by omega)) (by intro w hw; simp at hw; rcases hw with rfl | rfl | rfl <;> first | exact h2.mono (by omega) | exact h3.mono (by omega) | exact h4.mono (by omega)) hs
end
end Go.Proofs.YtikepohhmagdpaaDoor.G
