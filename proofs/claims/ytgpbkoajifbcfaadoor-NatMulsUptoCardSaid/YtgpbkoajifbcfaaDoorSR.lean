/- What nat.Div computes; the law NatMuls. -/
import Derived.Test.YtgpbkoajifbcfaaDoorSQ
namespace Go.Proofs.YtgpbkoajifbcfaaDoor.SB
open Go.RowKit Go.Proofs.YtgpbkoajifbcfaaDoor.A Go.Proofs.YtgpbkoajifbcfaaDoor.B Go.Proofs.YtgpbkoajifbcfaaDoor.C Go.Proofs.YtgpbkoajifbcfaaDoor.H Go.Proofs.YtgpbkoajifbcfaaDoor.L Go.Proofs.YtgpbkoajifbcfaaDoor.M Go.Proofs.YtgpbkoajifbcfaaDoor.SA Go.Proofs.YtgpbkoajifbcfaaDoorW.PrintWords Go.Proofs.YtgpbkoajifbcfaaDoorW.PrintLast Go.Proofs.YtgpbkoajifbcfaaDoorW.PrintMore
set_option linter.unusedVariables false
set_option linter.unusedSimpArgs false
theorem fs_nat (n : Nat) (h : n < 18446744073709551616) : nat_fromShort.f (n : Int) = some (B n) := by
  unfold nat_fromShort.f
  rw [if_pos (by omega), Int.toNat_natCast]
theorem u64_nat (n : Nat) (h : n < 18446744073709551616) : IntKind.u64.wrap (n : Int) = (n : Int) := u64_id (Int.natCast_nonneg _) (by omega)
def divR (a b : Nat) : ByteArray × ByteArray × Int := if b = 0 then (⟨#[]⟩, ⟨#[]⟩, 12) else (B (a / b), B (a % b), 0)
theorem div_spec (a b : ByteArray) (ha : a.size ≤ 1099511627776) (hb : b.size ≤ 1099511627776) : Ev (fun k => nat_Div.f k a b) (divR (V a) (V b)) := by
  refine Ev.bind (trim a) ?_
  refine Ev.bind (trim b) ?_
  unfold divR
  by_cases h0 : V b = 0
  · have g : (B (V b)).toList = ([] : List UInt8) := by rw [toList_B]; exact bytesOf_eq_nil.2 h0
    simp only [if_pos g, if_pos h0]
    exact Ev.now _
  · have g : ¬ (B (V b)).toList = ([] : List UInt8) := by rw [toList_B]; exact fun h => h0 (bytesOf_eq_nil.1 h)
    simp only [if_neg g, if_neg h0]
    have big := div_big a b ha hb h0
    by_cases h1 : (B (V a)).size ≤ 8
    · have g1 : ((B (V a)).size : Int) ≤ 8 := by omega
      simp only [if_pos g1]
      by_cases h2 : (B (V b)).size ≤ 8
      · have g2 : ((B (V b)).size : Int) ≤ 8 := by omega
        rw [decide_eq_true g2]
        have ra := short (B (V a)) h1
        have rb := short (B (V b)) h2
        rw [V_B] at ra rb
        have la : V a < 256 ^ 8 := lt_of_size_B h1
        have e8 : (256 : Nat) ^ 8 = 18446744073709551616 := by decide
        rw [e8] at la
        have gz : ¬ ((V b : Int) = 0) := fun h => h0 (Int.ofNat_eq_zero.1 h)
        have q1 : V a / V b < 18446744073709551616 := Nat.lt_of_le_of_lt (Nat.div_le_self _ _) la
        have q2 : V a % V b < 18446744073709551616 := Nat.lt_of_le_of_lt (Nat.mod_le _ _) la
        have eq : IntKind.u64.wrap (Int.tdiv (V a : Int) (V b : Int)) = ((V a / V b : Nat) : Int) := by
          rw [tdiv_nn (Int.natCast_nonneg _), show (V a : Int) / (V b : Int) = ((V a / V b : Nat) : Int) from rfl]
          exact u64_nat _ q1
        have er : Int.tmod (V a : Int) (V b : Int) = ((V a % V b : Nat) : Int) := by rw [tmod_nn (Int.natCast_nonneg _)]; rfl
        have f1 := fs_nat _ q1
        have f2 := fs_nat _ q2
        refine Ev.succ ?_
        simp only [nat_Div.j0, if_pos trivial]
        refine Ev.bind ra ?_
        refine Ev.bind rb ?_
        simp only [if_neg gz, eq, f1, Option.bind_some]
        refine Ev.bind ra ?_
        refine Ev.bind rb ?_
        simp only [if_neg gz, er, f2, Option.bind_some]
        exact Ev.now _
      · have g2 : ¬ ((B (V b)).size : Int) ≤ 8 := by omega
        rw [decide_eq_false g2]
        exact big
    · have g1 : ¬ ((B (V a)).size : Int) ≤ 8 := by omega
      simp only [if_neg g1]
      exact big
theorem natMuls (a0 a1 : ByteArray) (h0 : a0.size ≤ 1099511627776) (h1 : a1.size ≤ 1099511627776) : Ev (fun k => gantlaw1_NatMuls.f k a0 a1) true := by
  have h22 := mul_spec ⟨#[2]⟩ ⟨#[2]⟩ (by decide) (by decide)
  have v2 : V ⟨#[2]⟩ = 2 := by rw [B_two, V_B]
  rw [v2] at h22
  have e4 : (B (2 * 2)).toList = ([4] : List UInt8) := by rw [toList_B]; exact bytesOf_small 4 (by decide) (by decide)
  have hmul := mul_spec a0 a1 h0 h1
  have htimes := times_spec a0 a1 h0 h1
  have gf : ¬ (false = true) := by decide
  have hj0 : Ev (fun k => gantlaw1_NatMuls.j0 k a0 a1 false) true := by
    refine Ev.succ ?_
    simp only [gantlaw1_NatMuls.j0, if_neg gf]
    refine Ev.bind hmul ?_
    refine Ev.bind htimes ?_
    simp only [BEq.rfl]
    exact Ev.now _
  have hj1 : Ev (fun k => gantlaw1_NatMuls.j1 k a0 a1 false) true := by
    refine Ev.succ ?_
    simp only [gantlaw1_NatMuls.j1, if_neg gf]
    refine Ev.bind hmul ?_
    refine Ev.bind htimes ?_
    simp only [BEq.rfl]
    exact Ev.now _
  refine Ev.bind h22 ?_
  simp only [if_pos e4]
  refine Ev.bind (div_spec a0 a1 h0 h1) ?_
  simp only [bare_spec, Option.bind_some]
  by_cases hz : V a1 = 0
  · have g : (B (V a1)).toList = ([] : List UInt8) := by rw [toList_B]; exact bytesOf_eq_nil.2 hz
    have e0 : (⟨#[]⟩ : ByteArray).toList = ([] : List UInt8) := by rw [toList_data]
    have ed : divR (V a0) (V a1) = (⟨#[]⟩, ⟨#[]⟩, 12) := if_pos hz
    simp only [if_pos g, ed, if_pos e0, bne_self_eq_false]
    exact hj0
  · have g : ¬ (B (V a1)).toList = ([] : List UInt8) := by rw [toList_B]; exact fun h => hz (bytesOf_eq_nil.1 h)
    have ed : divR (V a0) (V a1) = (B (V a0 / V a1), B (V a0 % V a1), 0) := if_neg hz
    simp only [if_neg g, ed]
    refine Ev.bind (share_spec a0 a1 h0 h1 hz) ?_
    simp only [if_pos trivial, bne_self_eq_false]
    exact hj1
end Go.Proofs.YtgpbkoajifbcfaaDoor.SB
