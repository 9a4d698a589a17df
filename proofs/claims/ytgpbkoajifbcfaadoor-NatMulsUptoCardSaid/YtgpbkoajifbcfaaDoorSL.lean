/- nat.long: the estimate of a digit. -/
import Derived.Test.YtgpbkoajifbcfaaDoorSK
namespace Go.Proofs.YtgpbkoajifbcfaaDoor.SB
open Go.RowKit Go.Proofs.YtgpbkoajifbcfaaDoor.A Go.Proofs.YtgpbkoajifbcfaaDoor.B Go.Proofs.YtgpbkoajifbcfaaDoor.C Go.Proofs.YtgpbkoajifbcfaaDoor.H Go.Proofs.YtgpbkoajifbcfaaDoor.L Go.Proofs.YtgpbkoajifbcfaaDoor.M Go.Proofs.YtgpbkoajifbcfaaDoor.SA Go.Proofs.YtgpbkoajifbcfaaDoorW.PrintWords Go.Proofs.YtgpbkoajifbcfaaDoorW.PrintLast Go.Proofs.YtgpbkoajifbcfaaDoorW.PrintMore
set_option linter.unusedVariables false
set_option linter.unusedSimpArgs false
theorem or_hi {x y : Int} (hx : 0 ≤ x ∧ x < b32) (hy : 0 ≤ y ∧ y < b32) : Go.bits .or .u64 (IntKind.u64.wrap (x * 4294967296)) (IntKind.u64.wrap y) = x * b32 + y := by
  unfold b32 at *
  rw [u64_id (t := x * 4294967296) (by omega) (by omega), u64_id (t := y) hy.1 (by omega)]
  have e64 : (2 : Int) ^ 64 = 18446744073709551616 := by decide
  have e32 : (2 : Int) ^ 32 = 4294967296 := by decide
  exact or64 32 _ _ (by omega) (by rw [e32]; omega) (by rw [e64]; omega) hy.1 (by rw [e32]; omega) (by rw [e64]; omega)
theorem top_le {b P v1 v2 vl u2 wl top : Int} (hb : 0 < b) (hP : 0 < P) (hl : vl < P) (hw : 0 ≤ wl) (hu : 0 ≤ u2) (h : (top * b + u2) * P + wl < b * ((v1 * b + v2) * P + vl)) : top ≤ v1 * b + v2 := by
  have hbP : 0 < b * P := Int.mul_pos hb hP
  have h1 : 0 ≤ u2 * P := Int.mul_nonneg hu (Int.le_of_lt hP)
  have h2 : b * vl ≤ b * P := Int.mul_le_mul_of_nonneg_left (Int.le_of_lt hl) (Int.le_of_lt hb)
  have h3 : (b * P) * top < (b * P) * (v1 * b + v2 + 1) := by
    have e1 : (b * P) * top = (top * b + u2) * P - u2 * P := by grind
    have e2 : (b * P) * (v1 * b + v2 + 1) = b * ((v1 * b + v2) * P + vl) - b * vl + b * P := by grind
    rw [e1, e2]
    omega
  have := Int.lt_of_mul_lt_mul_left h3 (Int.le_of_lt hbP)
  omega
/-- what the walk of the estimate needs of its rows and numbers -/
structure Est (U Vl : List Int) (n k : Nat) (P vl wl top : Int) : Prop where
  rU : InR b32 U
  rV : InR b32 Vl
  n2 : 2 ≤ n
  nV : n ≤ Vl.length
  kU : k + n < U.length
  sU : U.length ≤ 281474976710656
  hP : 0 < P
  hv1 : 1 ≤ rd Vl ((n - 1 : Nat) : Int)
  vl0 : 0 ≤ vl
  vl1 : vl < P
  wl0 : 0 ≤ wl
  wl1 : wl < P
  top0 : 0 ≤ top
  lt : (top * b32 + rd U ((k + n - 2 : Nat) : Int)) * P + wl < b32 * ((rd Vl ((n - 1 : Nat) : Int) * b32 + rd Vl ((n - 2 : Nat) : Int)) * P + vl)
def Est.W (U : List Int) (n k : Nat) (P wl top : Int) : Int := (top * b32 + rd U ((k + n - 2 : Nat) : Int)) * P + wl
def Est.v (Vl : List Int) (n : Nat) (P vl : Int) : Int := (rd Vl ((n - 1 : Nat) : Int) * b32 + rd Vl ((n - 2 : Nat) : Int)) * P + vl
theorem est_loop (q U Vl : List Int) (by_ : Int) (n k : Nat) (P vl wl top : Int) (E : Est U Vl n k P vl wl top) (R : List Int × List Int)
    (hR : ∀ d : Int, 0 ≤ d → d < b32 → Est.W U n k P wl top < (d + 1) * Est.v Vl n P vl → d * Est.v Vl n P vl ≤ Est.W U n k P wl top + Est.v Vl n P vl → Ev (fun K => nat_long.j3 K q by_ (n : Int) U Vl (k : Int) d) R) :
    ∀ (m : Nat) (d rest : Int), d = (m : Int) → d < 18446744073709551616 → 0 ≤ rest → rest < b32 → top = d * rd Vl ((n - 1 : Nat) : Int) + rest → Est.W U n k P wl top < (d + 1) * Est.v Vl n P vl →
      Ev (fun K => nat_long.l1 K q by_ (n : Int) U Vl (k : Int) d rest) R := by
  have hn := E.n2
  have hnV := E.nV
  have hkU := E.kU
  have hsU := E.sU
  have iv1 := InR_rd b32_pos E.rV ((n - 1 : Nat) : Int)
  have iv2 := InR_rd b32_pos E.rV ((n - 2 : Nat) : Int)
  have iu2 := InR_rd b32_pos E.rU ((k + n - 2 : Nat) : Int)
  have hv1 := E.hv1
  have hlt := E.lt
  have htop := top_le b32_pos E.hP E.vl1 E.wl0 iu2.1 hlt
  have hvnn : 0 ≤ Est.v Vl n P vl := Int.add_nonneg (Int.mul_nonneg (Int.add_nonneg (Int.mul_nonneg iv1.1 (Int.le_of_lt b32_pos)) iv2.1) (Int.le_of_lt E.hP)) E.vl0
  have hb : (b32 : Int) = 4294967296 := rfl
  have bnd1 : (Vl.length : Int) ≥ n := by omega
  have w1 : wrap64 ((n : Int) - 1) = ((n - 1 : Nat) : Int) := by
    have e : (n : Int) - 1 = ((n - 1 : Nat) : Int) := by omega
    rw [e]; exact wrap64_id (by omega) (by omega)
  have w2 : wrap64 ((n : Int) - 2) = ((n - 2 : Nat) : Int) := by
    have e : (n : Int) - 2 = ((n - 2 : Nat) : Int) := by clear w1; omega
    rw [e]; exact wrap64_id (by clear w1; omega) (by clear w1; omega)
  have w3 : wrap64 ((k : Int) + (n : Int)) = ((k + n : Nat) : Int) := by
    have e : (k : Int) + (n : Int) = ((k + n : Nat) : Int) := rfl
    rw [e]; exact wrap64_id (by clear w1 w2; omega) (by clear w1 w2; omega)
  have w4 : wrap64 (((k + n : Nat) : Int) - 2) = ((k + n - 2 : Nat) : Int) := by
    have e : ((k + n : Nat) : Int) - 2 = ((k + n - 2 : Nat) : Int) := by clear w1 w2 w3; omega
    rw [e]; exact wrap64_id (by clear w1 w2 w3; omega) (by clear w1 w2 w3; omega)
  have g1 : 0 ≤ ((n - 1 : Nat) : Int) := Int.natCast_nonneg _
  have g1l : ((n - 1 : Nat) : Int) < (Vl.length : Int) := by clear w1 w2 w3 w4; omega
  have g2 : 0 ≤ ((n - 2 : Nat) : Int) := Int.natCast_nonneg _
  have g2l : ((n - 2 : Nat) : Int) < (Vl.length : Int) := by clear w1 w2 w3 w4; omega
  have g3 : 0 ≤ ((k + n - 2 : Nat) : Int) := Int.natCast_nonneg _
  have g3l : ((k + n - 2 : Nat) : Int) < (U.length : Int) := by clear w1 w2 w3 w4; omega
  intro m
  induction m with
  | zero =>
    intro d rest hd hd64 hr0 hr1 ht hW
    -- d = 0: the test fails
    have e : d = 0 := hd
    subst e
    have c1 : ¬ ((0 : Int) / 4294967296 > 0) := by decide
    have hprod : IntKind.u64.wrap (0 * IntKind.u64.wrap (rd Vl ((n - 2 : Nat) : Int))) = 0 := by rw [Int.zero_mul]; rfl
    have hnn : 0 ≤ rest * b32 + rd U ((k + n - 2 : Nat) : Int) := Int.add_nonneg (Int.mul_nonneg hr0 (Int.le_of_lt b32_pos)) iu2.1
    have c2 : ¬ ((0 : Int) > rest * b32 + rd U ((k + n - 2 : Nat) : Int)) := Int.not_lt.2 hnn
    refine Ev.succ ?_
    simp only [nat_long.l1, if_neg c1, w2, if_pos g2, if_pos g2l, w3, w4, if_pos g3, if_pos g3l, hprod, or_hi ⟨hr0, hr1⟩ iu2, decide_eq_false c2]
    refine Ev.succ ?_
    have gf : ¬ (false = true) := by decide
    simp only [nat_long.j2, if_neg gf]
    refine hR 0 (Int.le_refl 0) b32_pos hW ?_
    have hWnn : 0 ≤ Est.W U n k P wl top := Int.add_nonneg (Int.mul_nonneg (Int.add_nonneg (Int.mul_nonneg E.top0 (Int.le_of_lt b32_pos)) iu2.1) (Int.le_of_lt E.hP)) E.wl0
    rw [Int.zero_mul]
    exact Int.add_nonneg hWnn hvnn
  | succ m ih =>
    intro d rest hd hd64 hr0 hr1 ht hW
    have hd1 : 1 ≤ d := by rw [hd]; exact Int.ofNat_le.2 (Nat.succ_le_succ (Nat.zero_le m))
    have hdm : d - 1 = (m : Int) := by rw [hd]; omega
    have hd0 : 0 ≤ d := by clear w1 w2 w3 w4 hlt hW ht hd hdm; omega
    -- the step back
    have back : (b32 ≤ d ∨ rest * b32 + rd U ((k + n - 2 : Nat) : Int) < d * rd Vl ((n - 2 : Nat) : Int)) → Ev (fun K => nat_long.j2 K q by_ (n : Int) U Vl (k : Int) d rest true) R := by
      intro hc
      have hW2 : Est.W U n k P wl top < d * Est.v Vl n P vl := KD.est_step E.hP E.vl0 E.wl1 hd0 ht hlt hvnn hc
      have hW3 : Est.W U n k P wl top < (d - 1 + 1) * Est.v Vl n P vl := by rw [Int.sub_add_cancel]; exact hW2
      have ht2 : top = (d - 1) * rd Vl ((n - 1 : Nat) : Int) + (rest + rd Vl ((n - 1 : Nat) : Int)) := by rw [ht]; grind
      have u1 : IntKind.u64.wrap (d - 1) = d - 1 := by clear w1 w2 w3 w4 hlt hW hW2 hW3 ht ht2 htop hd hdm; exact u64_id (by omega) (by omega)
      have u2 : IntKind.u64.wrap (rest + IntKind.u64.wrap (rd Vl ((n - 1 : Nat) : Int))) = rest + rd Vl ((n - 1 : Nat) : Int) := by
        clear w1 w2 w3 w4 hlt hW hW2 hW3 ht ht2 htop hd hdm u1
        rw [hb] at iv1 hr1
        generalize rd Vl ((n - 1 : Nat) : Int) = v1 at *
        rw [u64_id (t := v1) iv1.1 (by omega), u64_id (t := rest + v1) (by omega) (by omega)]
      have hr2 : 0 ≤ rest + rd Vl ((n - 1 : Nat) : Int) := Int.add_nonneg hr0 iv1.1
      refine Ev.succ ?_
      simp only [nat_long.j2, if_pos trivial, w1, if_pos g1, if_pos g1l, u1, u2]
      by_cases hbr : b32 ≤ rest + rd Vl ((n - 1 : Nat) : Int)
      · have c : (rest + rd Vl ((n - 1 : Nat) : Int)) / 4294967296 > 0 := by
          have : 1 ≤ (rest + rd Vl ((n - 1 : Nat) : Int)) / 4294967296 := (Int.le_ediv_iff_mul_le (by decide)).2 (by rw [Int.one_mul]; exact hbr)
          exact this
        simp only [if_pos c]
        have hdb : d - 1 < b32 := by
          refine Int.not_le.1 (fun hge => ?_)
          have m1 : b32 * rd Vl ((n - 1 : Nat) : Int) ≤ (d - 1) * rd Vl ((n - 1 : Nat) : Int) := Int.mul_le_mul_of_nonneg_right hge iv1.1
          have m2 := iv2.2
          rw [Int.mul_comm b32] at m1
          generalize (d - 1) * rd Vl ((n - 1 : Nat) : Int) = A1 at *
          generalize rd Vl ((n - 1 : Nat) : Int) * b32 = A2 at *
          clear hlt hW hW2 hW3 hR ih w1 w2 w3 w4 u1 u2 c ht
          omega
        exact hR (d - 1) (by rw [hdm]; exact Int.natCast_nonneg _) hdb hW3 (KD.est_exit b32_pos E.hP E.hv1 iv2.1 iv2.2 E.vl0 E.vl1 E.wl0 iu2.1 (by rw [hdm]; exact Int.natCast_nonneg _) ht2 hdb (.inr hbr))
      · have hbr2 : rest + rd Vl ((n - 1 : Nat) : Int) < b32 := Int.not_le.1 hbr
        have c : ¬ ((rest + rd Vl ((n - 1 : Nat) : Int)) / 4294967296 > 0) := by
          have : (rest + rd Vl ((n - 1 : Nat) : Int)) / 4294967296 = 0 := Int.ediv_eq_zero_of_lt hr2 hbr2
          rw [this]; decide
        simp only [if_neg c]
        exact ih (d - 1) _ hdm (by clear w1 w2 w3 w4 hlt hW hW2 hW3 ht ht2 htop hd hdm u1 u2 c; omega) hr2 hbr2 ht2 hW3
    refine Ev.succ ?_
    by_cases hdb : b32 ≤ d
    · have c1 : d / 4294967296 > 0 := by
        have : 1 ≤ d / 4294967296 := (Int.le_ediv_iff_mul_le (by decide)).2 (by rw [Int.one_mul]; exact hdb)
        exact this
      simp only [nat_long.l1, if_pos c1]
      exact back (.inl hdb)
    · have hdb2 : d < b32 := Int.not_le.1 hdb
      have c1 : ¬ (d / 4294967296 > 0) := by
        have : d / 4294967296 = 0 := Int.ediv_eq_zero_of_lt hd0 hdb2
        rw [this]; decide
      have hprod : IntKind.u64.wrap (d * IntKind.u64.wrap (rd Vl ((n - 2 : Nat) : Int))) = d * rd Vl ((n - 2 : Nat) : Int) := by
        clear w1 w2 w3 w4 hlt hW ht htop hd hdm hR ih back
        rw [hb] at iv2 hdb2
        generalize rd Vl ((n - 2 : Nat) : Int) = v2 at *
        have m1 : 0 ≤ d * v2 := Int.mul_nonneg hd0 iv2.1
        have m2 : d * v2 ≤ 4294967295 * v2 := Int.mul_le_mul_of_nonneg_right (by omega) iv2.1
        rw [u64_id (t := v2) iv2.1 (by omega)]
        exact u64_id m1 (by omega)
      by_cases hc : rest * b32 + rd U ((k + n - 2 : Nat) : Int) < d * rd Vl ((n - 2 : Nat) : Int)
      · have c2 : d * rd Vl ((n - 2 : Nat) : Int) > rest * b32 + rd U ((k + n - 2 : Nat) : Int) := hc
        simp only [nat_long.l1, if_neg c1, w2, if_pos g2, if_pos g2l, w3, w4, if_pos g3, if_pos g3l, hprod, or_hi ⟨hr0, hr1⟩ iu2, decide_eq_true c2]
        exact back (.inr hc)
      · have c2 : ¬ (d * rd Vl ((n - 2 : Nat) : Int) > rest * b32 + rd U ((k + n - 2 : Nat) : Int)) := hc
        simp only [nat_long.l1, if_neg c1, w2, if_pos g2, if_pos g2l, w3, w4, if_pos g3, if_pos g3l, hprod, or_hi ⟨hr0, hr1⟩ iu2, decide_eq_false c2]
        refine Ev.succ ?_
        have gf : ¬ (false = true) := by decide
        simp only [nat_long.j2, if_neg gf]
        exact hR d hd0 hdb2 hW (KD.est_exit b32_pos E.hP E.hv1 iv2.1 iv2.2 E.vl0 E.vl1 E.wl0 iu2.1 hd0 ht hdb2 (.inl (Int.not_lt.1 hc)))
end Go.Proofs.YtgpbkoajifbcfaaDoor.SB
