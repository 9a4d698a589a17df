import Derived.Test.YtmkgijiniopalaaDoorYQI
namespace Go.Proofs.YtmkgijiniopalaaDoor.G
open Go.Proofs.YtmkgijiniopalaaDoor.U Go.RowKit Go.Proofs.YtmkgijiniopalaaDoorW.PrintWords Go.Proofs.YtmkgijiniopalaaDoorW.PrintLast Go.Proofs.YtmkgijiniopalaaDoorW.PrintMore
set_option linter.unusedVariables false
abbrev rc (x:Rat):List Value:=[.bool (decide (x.num < 0)),.string (M.B x.num.natAbs),.string (M.B x.den)]
abbrev rr (n:Bool) (a b:ByteArray):List Value:=[.bool n,.string a,.string b]
abbrev ag (l:List (List Value)):Value:=.agg l.flatten.toArray
theorem isB {b d:Bool} (h:b=d):V.c (.bool b)=V.c (.bool d):=by rw [h]
theorem cbool {P:Program} {f:FuncId} {args:Array Value} {b d:Bool} (h:CSpec P f args (.bool b)) (hb:b=d):CSpec P f args (.bool d):=hb▸h
structure IsR (n:Bool) (a b:ByteArray) (x:Rat) (K:Nat):Prop where
 eq:qv n a b=x
 sa:a.size≤K
 sb:b.size≤K
 sz:Sz x K
theorem sz_qv (n:Bool) (a b:ByteArray) {K:Nat} (ha:a.size≤K) (hb:b.size≤K) (h1:1≤K):Sz (qv n a b) K:=by
 unfold qv
 split
 ·refine ⟨?_,?_⟩
  ·show (sgn n (M.V a)).natAbs < _
   rw [sgn_abs]
   exact Nat.lt_of_lt_of_le (M.V_lt a) (Nat.pow_le_pow_right (by decide) ha)
  exact Nat.lt_of_lt_of_le (M.V_lt b) (Nat.pow_le_pow_right (by decide) hb)
 have:=Nat.pow_le_pow_right (n:=256) (by decide) h1
 refine ⟨?_,?_⟩
 ·show (0:Int).natAbs < _
  simp; omega
 show 1 < _
 omega
theorem IsR.raw (n:Bool) (a b:ByteArray) {K:Nat} (ha:a.size≤K) (hb:b.size≤K) (h1:1≤K):IsR n a b (qv n a b) K:=⟨rfl,ha,hb,sz_qv n a b ha hb h1⟩
theorem isR_s {x:Rat} {K:Nat} (h:Sz x K):IsR (decide (x.num < 0)) (M.B x.num.natAbs) (M.B x.den) x K:=⟨qv_Rv x,h.num,h.den,h⟩
theorem szr {n:Bool} {a b:ByteArray} {x:Rat} {K:Nat} (h:IsR n a b x K):Sz x K:=h.sz
section
variable {n n1 n2:Bool} {a b a1 b1 a2 b2:ByteArray} {x y:Rat} {K L:Nat}
theorem IsR.fit (h:IsR n a b x K) (hK:K≤68719476736):CSpec Tryd.prog 48 #[rv n a b] (Rv x):=by
 have:=fit_c n a b (Nat.le_trans h.sa hK) (Nat.le_trans h.sb hK)
 rwa [h.eq] at this
theorem add_k (h1:IsR n1 a1 b1 x K) (h2:IsR n2 a2 b2 y L) (hs:K+L≤17179869184):CSpec Tryd.prog 24 #[rv n1 a1 b1,rv n2 a2 b2] (Rv (x+y)) :=
 add_r (h1.fit (by omega)) (h2.fit (by omega)) h1.sz h2.sz hs
theorem mul_k (h1:IsR n1 a1 b1 x K) (h2:IsR n2 a2 b2 y L) (hs:K+L≤17179869184):CSpec Tryd.prog 25 #[rv n1 a1 b1,rv n2 a2 b2] (Rv (x*y)) :=
 mul_r (h1.fit (by omega)) (h2.fit (by omega)) h1.sz h2.sz hs
theorem div_k (h1:IsR n1 a1 b1 x K) (h2:IsR n2 a2 b2 y L) (hs:K+L≤17179869184) (h0:y≠0):CSpec Tryd.prog 38 #[rv n1 a1 b1,rv n2 a2 b2] (.tuple #[Rv (x/y),.int .i64 0]) :=
 div_r (h1.fit (by omega)) (h2.fit (by omega)) h1.sz h2.sz hs h0
theorem sign_k (h1:IsR n1 a1 b1 x K) (hs:K≤17179869184):CSpec Tryd.prog 36 #[rv n1 a1 b1] (.int .i64 x.num.sign):=sign_r (h1.fit (by omega))
theorem cmp_k (h1:IsR n1 a1 b1 x K) (h2:IsR n2 a2 b2 y L) (hs:K+L≤17179869184):CSpec Tryd.prog 47 #[rv n1 a1 b1,rv n2 a2 b2] (.int .i64 (cmpR x y)) :=
 cmp_r (h1.fit (by omega)) (h2.fit (by omega)) h1.sz h2.sz hs
theorem cmpR_le:cmpR x y≤0↔x≤y:=by
 rw [Rat.le_iff]
 unfold cmpR cmpI
 split
 ·simp; omega
 split<;>simp<;>omega
theorem cmpR_lt:cmpR x y < 0↔x < y:=by
 rw [Rat.lt_iff]
 unfold cmpR cmpI
 split
 ·simp; omega
 split<;>simp<;>omega
theorem cmpR_ge:0≤cmpR x y↔y≤x:=by
 rw [Rat.le_iff]
 unfold cmpR cmpI
 split
 ·simp; omega
 split<;>simp<;>omega
theorem num_pos:0 < x.num↔0 < x:=by
 rw [Rat.lt_iff]
 simp
def mn (x y:Rat):Rat:=if x≤y then x else y
theorem min_k (h1:IsR n1 a1 b1 x K) (h2:IsR n2 a2 b2 y L) (hs:K+L≤17179869184):CSpec Tryd.prog 19 #[rv n1 a1 b1,rv n2 a2 b2] (Rv (mn x y)):=by
 have h:=min_r (h1.fit (by omega)) (h2.fit (by omega)) h1.sz h2.sz hs
 simp only [cmpR_le] at h
 exact h
theorem of_k {n:Int} (h1:-9223372036854775808≤n) (h2:n≤9223372036854775807):CSpec Tryd.prog 40 #[.int .i64 n] (Rv n):=of_r n h1 h2
open Classical in
noncomputable def gd (n:Bool) (a b:ByteArray):Bool:=decide (Can n a b)
theorem add_s (hx:Sz x K) (hy:Sz y L):Sz (x+y) (K+L+1):=hx.add hy
theorem mul_s (hx:Sz x K) (hy:Sz y L):Sz (x*y) (K+L):=hx.mul hy
theorem neg_s (hx:Sz x K):Sz (-x) K:=hx.neg
theorem sub_s (hx:Sz x K) (hy:Sz y L):Sz (x - y) (K+L+1):=by
 rw [Rat.sub_eq_add_neg]
 exact hx.add hy.neg
theorem inv_s (hx:Sz x K):Sz x⁻¹ K:=by
 unfold Sz
 rw [Rat.num_inv,Rat.den_inv]
 have h1:1 < 256^K∨K=0:=by
  rcases Nat.eq_zero_or_pos K with h | h
  ·exact .inr h
  have:=Nat.pow_le_pow_right (n:=256) (by decide) h
  left; omega
 have hd:=hx.2
 have hn:=hx.1
 have hp:=x.den_pos
 refine ⟨?_,?_⟩
 ·rw [Int.natAbs_mul,Int.natAbs_natCast]
  have:x.num.sign.natAbs≤1:=by
   rcases Int.lt_trichotomy x.num 0 with h1 | h1 | h1
   ·rw [Int.sign_eq_neg_one_of_neg h1]; decide
   ·rw [h1]; decide
   rw [Int.sign_eq_one_of_pos h1]; decide
  have:=Nat.mul_le_mul_right x.den this
  omega
 split
 ·rcases h1 with h1 | h1
  ·exact h1
  subst h1
  simp at hd
  omega
 exact hn
theorem div_s (hx:Sz x K) (hy:Sz y L):Sz (x/y) (K+L):=by
 rw [Rat.div_def]
 exact hx.mul (inv_s hy)
theorem int_s {n:Int} (h:n.natAbs≤9223372036854775808):Sz (n:Rat) 8:=Sz.int h
theorem mn_s (hx:Sz x K) (hy:Sz y L):Sz (mn x y) (K+L):=by
 unfold mn
 split
 ·exact hx.mono (by omega)
 exact hy.mono (by omega)
end
end Go.Proofs.YtmkgijiniopalaaDoor.G
