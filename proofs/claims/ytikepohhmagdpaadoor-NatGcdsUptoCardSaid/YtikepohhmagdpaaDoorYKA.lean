import Derived.Test.YtikepohhmagdpaaDoorYGG
section
namespace Go.Proofs.YtikepohhmagdpaaDoor.G
open Go.Proofs.YtikepohhmagdpaaDoor.U Go.RowKit Go.Proofs.YtikepohhmagdpaaDoorW.PrintWords Go.Proofs.YtikepohhmagdpaaDoorW.PrintLast Go.Proofs.YtikepohhmagdpaaDoorW.PrintMore
set_option linter.unusedVariables false
set_option maxRecDepth 100000
abbrev rv (n:Bool) (a b:ByteArray):Value:=.agg #[.bool n,.string a,.string b]
def one1:ByteArray:=⟨#[1]⟩
end Go.Proofs.YtikepohhmagdpaaDoor.G
end
section
namespace Go.Proofs.YtikepohhmagdpaaDoor.G
open Go.Proofs.YtikepohhmagdpaaDoor.U Go.RowKit Go.Proofs.YtikepohhmagdpaaDoorW.PrintWords Go.Proofs.YtikepohhmagdpaaDoorW.PrintLast Go.Proofs.YtikepohhmagdpaaDoorW.PrintMore
set_option linter.unusedVariables false
abbrev Rv (x:Rat):Value:=rv (decide (x.num < 0)) (M.B x.num.natAbs) (M.B x.den)
structure Can (n:Bool) (a b:ByteArray):Prop where
  nz:M.V b ≠ 0
  la:M.B (M.V a) = a
  lb:M.B (M.V b) = b
  red:Nat.gcd (M.V a) (M.V b) = 1
  sg:M.V a = 0 → n = false
def sgn (n:Bool) (k:Nat):Int:=if n then -(k:Int) else (k:Int)
theorem sgn_abs (n:Bool) (k:Nat):(sgn n k).natAbs = k:=by cases n <;> simp [sgn]
open Classical in
noncomputable def qv (n:Bool) (a b:ByteArray):Rat:=if h:Can n a b then ⟨sgn n (M.V a),M.V b,h.nz,by rw [sgn_abs]; exact h.red⟩ else 0
theorem Can.rv {n:Bool} {a b:ByteArray} (h:Can n a b):rv n a b = Rv (qv n a b):=by
  unfold qv Rv
  rw [dif_pos h]
  simp only [sgn_abs]
  rw [h.la,h.lb]
  congr 1
  show n = decide (sgn n (M.V a) < 0)
  have hs:=h.sg
  clear h
  generalize M.V a = k at hs
  cases n with
  | false=>simp [sgn]
  | true =>
    have:k ≠ 0:=fun h0=>by have:=hs h0; cases this
    simp only [sgn,if_true]
    exact (decide_eq_true (by omega)).symm
theorem V_nil:M.V ⟨#[]⟩ = 0:=rfl
theorem V_one1:M.V one1 = 1:=rfl
theorem one_of {a:ByteArray} (h:M.B (M.V a) = a):a = one1 ↔ M.V a = 1:=by
  constructor
  · intro h1; rw [h1]; rfl
  intro h1
  have h2:M.B (M.V one1) = one1:=SA.lead_of _ (.inr (by decide))
  rw [← h,h1,← V_one1,h2]
end Go.Proofs.YtikepohhmagdpaaDoor.G
end
section
namespace Go.Proofs.YtikepohhmagdpaaDoor.G
open Go.Proofs.YtikepohhmagdpaaDoor.U Go.RowKit Go.Proofs.YtikepohhmagdpaaDoorW.PrintWords Go.Proofs.YtikepohhmagdpaaDoorW.PrintLast Go.Proofs.YtikepohhmagdpaaDoorW.PrintMore
set_option linter.unusedVariables false
def Sz (x:Rat) (K:Nat):Prop:=x.num.natAbs < 256 ^ K ∧ x.den < 256 ^ K
theorem Sz.num {x:Rat} {K:Nat} (h:Sz x K):(M.B x.num.natAbs).size ≤ K:=M.size_B_le h.1
theorem Sz.den {x:Rat} {K:Nat} (h:Sz x K):(M.B x.den).size ≤ K:=M.size_B_le h.2
theorem Sz.mono {x:Rat} {K L:Nat} (h:Sz x K) (hl:K ≤ L):Sz x L :=
  ⟨Nat.lt_of_lt_of_le h.1 (Nat.pow_le_pow_right (by decide) hl),Nat.lt_of_lt_of_le h.2 (Nat.pow_le_pow_right (by decide) hl)⟩
theorem Sz.mk {n:Int} {d K:Nat} (hd:d ≠ 0) (h1:n.natAbs < 256 ^ K) (h2:d < 256 ^ K):Sz (mkRat n d) K:=by
  rw [← Rat.normalize_eq_mkRat hd]
  unfold Sz
  rw [Rat.num_normalize,Rat.den_normalize]
  refine ⟨Nat.lt_of_le_of_lt ?_ h1,Nat.lt_of_le_of_lt (Nat.div_le_self _ _) h2⟩
  rw [Int.natAbs_ediv_of_dvd (Int.ofNat_dvd_left.2 (Nat.gcd_dvd_left _ _))]
  exact Nat.div_le_self _ _
theorem mul_lt {a b K L:Nat} (ha:a < 256 ^ K) (hb:b < 256 ^ L):a * b < 256 ^ (K + L):=by
  rw [Nat.pow_add]
  exact Nat.mul_lt_mul'' ha hb
theorem Sz.add {x y:Rat} {K L:Nat} (hx:Sz x K) (hy:Sz y L):Sz (x + y) (K + L + 1):=by
  rw [Rat.add_def']
  have h1:=mul_lt hx.1 hy.2
  have h2:=mul_lt hy.1 hx.2
  have h3:=mul_lt hx.2 hy.2
  rw [Nat.add_comm L K] at h2
  have hp:256 ^ (K + L + 1) = 256 ^ (K + L) * 256:=Nat.pow_succ ..
  refine Sz.mk (Nat.mul_ne_zero x.den_nz y.den_nz) ?_ (by omega)
  have h4:=Int.natAbs_add_le (x.num * y.den) (y.num * x.den)
  rw [Int.natAbs_mul,Int.natAbs_mul,Int.natAbs_natCast,Int.natAbs_natCast] at h4
  omega
end Go.Proofs.YtikepohhmagdpaaDoor.G
end
section
namespace Go.Proofs.YtikepohhmagdpaaDoor.G
open Go.Proofs.YtikepohhmagdpaaDoor.U Go.RowKit Go.Proofs.YtikepohhmagdpaaDoorW.PrintWords Go.Proofs.YtikepohhmagdpaaDoorW.PrintLast Go.Proofs.YtikepohhmagdpaaDoorW.PrintMore
set_option linter.unusedVariables false
def r0:Value:=rv false ⟨#[]⟩ ⟨#[]⟩
end Go.Proofs.YtikepohhmagdpaaDoor.G
end
section
namespace Go.Proofs.YtikepohhmagdpaaDoor.G
open Go.Proofs.YtikepohhmagdpaaDoor.U Go.RowKit Go.Proofs.YtikepohhmagdpaaDoorW.PrintWords Go.Proofs.YtikepohhmagdpaaDoorW.PrintLast Go.Proofs.YtikepohhmagdpaaDoorW.PrintMore
set_option linter.unusedVariables false
theorem Sz.int {n:Int} (h:n.natAbs ≤ 9223372036854775808):Sz (n:Rat) 8:=by
  have h8:(256:Nat) ^ 8 = 18446744073709551616:=by decide
  refine ⟨?_,?_⟩
  · rw [Rat.num_intCast]; omega
  rw [Rat.den_intCast,h8]; decide
end Go.Proofs.YtikepohhmagdpaaDoor.G
end
section
namespace Go.Proofs.YtikepohhmagdpaaDoor.G
open Go.Proofs.YtikepohhmagdpaaDoor.U Go.RowKit Go.Proofs.YtikepohhmagdpaaDoorW.PrintWords Go.Proofs.YtikepohhmagdpaaDoorW.PrintLast Go.Proofs.YtikepohhmagdpaaDoorW.PrintMore
set_option linter.unusedVariables false
abbrev rr (n:Bool) (a b:ByteArray):List Value:=[.bool n,.string a,.string b]
theorem isB {b d:Bool} (h:b = d):V.c (.bool b) = V.c (.bool d):=by rw [h]
structure IsR (n:Bool) (a b:ByteArray) (x:Rat) (K:Nat):Prop where
  eq:qv n a b = x
  sa:a.size ≤ K
  sb:b.size ≤ K
  sz:Sz x K
theorem sz_qv (n:Bool) (a b:ByteArray) {K:Nat} (ha:a.size ≤ K) (hb:b.size ≤ K) (h1:1 ≤ K):Sz (qv n a b) K:=by
  unfold qv
  split
  · refine ⟨?_,?_⟩
    · show (sgn n (M.V a)).natAbs < _
      rw [sgn_abs]
      exact Nat.lt_of_lt_of_le (M.V_lt a) (Nat.pow_le_pow_right (by decide) ha)
    exact Nat.lt_of_lt_of_le (M.V_lt b) (Nat.pow_le_pow_right (by decide) hb)
  have:=Nat.pow_le_pow_right (n:=256) (by decide) h1
  refine ⟨?_,?_⟩
  · show (0:Int).natAbs < _
    simp; omega
  show 1 < _
  omega
theorem IsR.raw (n:Bool) (a b:ByteArray) {K:Nat} (ha:a.size ≤ K) (hb:b.size ≤ K) (h1:1 ≤ K):IsR n a b (qv n a b) K:=⟨rfl,ha,hb,sz_qv n a b ha hb h1⟩
section
variable {n n1 n2:Bool} {a b a1 b1 a2 b2:ByteArray} {x y:Rat} {K L:Nat}
def mn (x y:Rat):Rat:=if x ≤ y then x else y
def mx (x y:Rat):Rat:=if y ≤ x then x else y
open Classical in
noncomputable def gd (n:Bool) (a b:ByteArray):Bool:=decide (Can n a b)
end
end Go.Proofs.YtikepohhmagdpaaDoor.G
end
