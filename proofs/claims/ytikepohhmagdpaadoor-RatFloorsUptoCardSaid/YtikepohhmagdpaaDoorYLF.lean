import Derived.Test.YtikepohhmagdpaaDoorYKA
import Derived.Test.YtikepohhmagdpaaDoorYRC
import Derived.Test.YtikepohhmagdpaaDoorYBA
section
namespace Go.Proofs.YtikepohhmagdpaaDoor.G
open Go.Proofs.YtikepohhmagdpaaDoor.U Go.RowKit
set_option linter.unusedVariables false
set_option maxRecDepth 100000
def SzN (m K:Nat):Prop:=m < 256 ^ K
theorem szq_s {x:Rat} {K:Nat} (h:Sz x K):SzN (x.num.natAbs / x.den) K:=Nat.lt_of_le_of_lt (Nat.div_le_self _ _) h.1
theorem szq1_s {x:Rat} {K:Nat} (h:Sz x K):SzN (x.num.natAbs / x.den + 1) (K + 1):=by
  have h1:=szq_s h
  unfold SzN at *
  have:256 ^ K * 256 = 256 ^ (K + 1):=(Nat.pow_succ ..).symm
  have:0 < 256 ^ K:=Nat.pow_pos (by decide)
  omega
theorem ndivx_k {x:Rat} {K:Nat} (h:Sz x K) (hK:K ≤ 17179869184):CSpec Tryd.prog 157 #[.string (M.B x.num.natAbs),.string (M.B x.den)] (.tuple #[.string (M.B (x.num.natAbs / x.den)),.string (M.B (x.num.natAbs % x.den)),.int .i64 0]):=by
  have:=div_c (M.B x.num.natAbs) (M.B x.den) (Nat.le_trans h.num (by omega)) (Nat.le_trans h.den (by omega)) (by rw [M.V_B]; exact x.den_nz)
  rwa [M.V_B,M.V_B] at this
theorem nadd1_k {x:Rat} {K:Nat} (h:Sz x K) (hK:K ≤ 17179869184):CSpec Tryd.prog 146 #[.string (M.B (x.num.natAbs / x.den)),.string ⟨#[1]⟩] (.string (M.B (x.num.natAbs / x.den + 1))):=by
  have:=add_c (M.B (x.num.natAbs / x.den)) (M.B 1) (Nat.le_trans (M.size_B_le (szq_s h)) (by omega)) (by rw [B_one1]; decide)
  rw [M.V_B,M.V_B] at this
  rw [B_one1] at this
  exact this
theorem made1_k {n:Bool} {m K:Nat} (hm:SzN m K) (hK:K ≤ 17179869184):CSpec Tryd.prog 126 #[.bool n,.string (M.B m),.string ⟨#[1]⟩] (Rv ((sgn n m:Int):Rat)):=by
  have:=made_c n m 1 (by decide) (Nat.le_trans (M.size_B_le hm) (by omega)) (by rw [B_one1]; decide)
  rw [B_one1] at this
  rw [Rat.mkRat_one] at this
  exact this
theorem whole1 {x:Rat} {K:Nat} (h1':Sz x K) (k1:K ≤ 4000000000) (h0:decide (Rat.num x < (0:Int)) = false):CSpec Tryd.prog 136 #[(Rv x)] (Rv ((↑(sgn false (Int.natAbs (Rat.num x) / Rat.den x)):Rat))):=by
  have s1:=(szq_s h1')
  exact fn_ok Tryd.func136 (sc:=[(1,4,.fix (.tuple #[.string (M.B (Int.natAbs (Rat.num x) / Rat.den x)),.string (M.B (Int.natAbs (Rat.num x) % Rat.den x)),.int IntKind.i64 (0:Int)])),(2,1,.is (.c (.bool false))),(4,1,.is (.c (.bool false))),(4,3,.fix (Rv ((↑(sgn false (Int.natAbs (Rat.num x) / Rat.den x)):Rat))))]) (sb:=[]) (by kernel_rfl) (hC (ndivx_k h1' (by omega)) (hP (isB h0) (hP (isB h0) (hC (made1_k (n:=false) s1 (by omega)) hN))))
theorem whole2 {x:Rat} {K:Nat} (h1':Sz x K) (k1:K ≤ 4000000000) (h0:decide (Rat.num x < (0:Int)) = true) (h1:(!ByteArray.toList (M.B (Int.natAbs (Rat.num x) % Rat.den x)) == ByteArray.toList { data:=#[] }) = false):CSpec Tryd.prog 136 #[(Rv x)] (Rv ((↑(sgn true (Int.natAbs (Rat.num x) / Rat.den x)):Rat))):=by
  have s2:=(szq_s h1')
  exact fn_ok Tryd.func136 (sc:=[(1,4,.fix (.tuple #[.string (M.B (Int.natAbs (Rat.num x) / Rat.den x)),.string (M.B (Int.natAbs (Rat.num x) % Rat.den x)),.int IntKind.i64 (0:Int)])),(2,1,.is (.c (.bool true))),(2,4,.is (.c (.bool false))),(4,1,.is (.c (.bool true))),(4,3,.fix (Rv ((↑(sgn true (Int.natAbs (Rat.num x) / Rat.den x)):Rat))))]) (sb:=[]) (by kernel_rfl) (hC (ndivx_k h1' (by omega)) (hP (isB h0) (hP (isB h1) (hP (isB h0) (hC (made1_k (n:=true) s2 (by omega)) hN)))))
theorem whole3 {x:Rat} {K:Nat} (h1':Sz x K) (k1:K ≤ 4000000000) (h0:decide (Rat.num x < (0:Int)) = true) (h1:(!ByteArray.toList (M.B (Int.natAbs (Rat.num x) % Rat.den x)) == ByteArray.toList { data:=#[] }) = true):CSpec Tryd.prog 136 #[(Rv x)] (Rv ((↑(sgn true (Int.natAbs (Rat.num x) / Rat.den x + (1:Nat))):Rat))):=by
  have s2:=(szq1_s h1')
  exact fn_ok Tryd.func136 (sc:=[(1,4,.fix (.tuple #[.string (M.B (Int.natAbs (Rat.num x) / Rat.den x)),.string (M.B (Int.natAbs (Rat.num x) % Rat.den x)),.int IntKind.i64 (0:Int)])),(2,1,.is (.c (.bool true))),(2,4,.is (.c (.bool true))),(3,1,.fix (.string (M.B (Int.natAbs (Rat.num x) / Rat.den x + (1:Nat))))),(4,1,.is (.c (.bool true))),(4,3,.fix (Rv ((↑(sgn true (Int.natAbs (Rat.num x) / Rat.den x + (1:Nat))):Rat))))]) (sb:=[]) (by kernel_rfl) (hC (ndivx_k h1' (by omega)) (hP (isB h0) (hP (isB h1) (hC (nadd1_k h1' (by omega)) (hP (isB h0) (hC (made1_k (n:=true) s2 (by omega)) hN))))))
def fl (x:Rat):Int:=x.num / (x.den:Int)
theorem Bn0 {n:Nat}:(!(M.B n).toList == ByteArray.toList { data:=#[] }) = decide (n ≠ 0):=by
  by_cases h:n = 0
  · have:=str_ne_f (B_nil h)
    rw [decide_eq_false (fun hh=>hh h)]
    injection this with h1
    injection h1
  have:=str_ne_t (B_ne h)
  rw [decide_eq_true h]
  injection this with h1
  injection h1
theorem fl_eq (x:Rat):fl x = if x.num < 0 then (if x.num.natAbs % x.den = 0 then sgn true (x.num.natAbs / x.den) else sgn true (x.num.natAbs / x.den + 1)) else sgn false (x.num.natAbs / x.den):=by
  unfold fl
  have hd:(0:Int) < x.den:=by have:=x.den_pos; omega
  split
  · rename_i h
    have e:x.num = -(x.num.natAbs:Int):=by omega
    generalize x.num.natAbs = a at *
    rw [e,Int.neg_ediv]
    by_cases h2:a % x.den = 0
    · rw [if_pos h2,if_pos (Int.natCast_dvd_natCast.2 (Nat.dvd_of_mod_eq_zero h2))]
      simp [sgn]
    rw [if_neg h2,if_neg (fun hh=>h2 (Nat.mod_eq_zero_of_dvd (Int.natCast_dvd_natCast.1 hh))),Int.sign_eq_one_of_pos hd]
    simp [sgn]
    omega
  rename_i h
  have e:x.num = (x.num.natAbs:Int):=by omega
  generalize x.num.natAbs = a at *
  rw [e]
  simp [sgn]
theorem whole_k {x:Rat} {K:Nat} (h1':Sz x K) (k1:K ≤ 4000000000):CSpec Tryd.prog 136 #[Rv x] (Rv ((fl x:Int):Rat)):=by
  rw [fl_eq]
  by_cases h:x.num < 0
  · rw [if_pos h]
    by_cases h2:x.num.natAbs % x.den = 0
    · rw [if_pos h2]
      exact whole2 h1' k1 (decide_eq_true h) (by rw [Bn0]; exact decide_eq_false (fun hh=>hh h2))
    rw [if_neg h2]
    exact whole3 h1' k1 (decide_eq_true h) (by rw [Bn0]; exact decide_eq_true h2)
  rw [if_neg h]
  exact whole1 h1' k1 (decide_eq_false h)
end Go.Proofs.YtikepohhmagdpaaDoor.G
end
section
namespace Go.Proofs.YtikepohhmagdpaaDoor.G
open Go.Proofs.YtikepohhmagdpaaDoor.U Go.RowKit Go.Proofs.YtikepohhmagdpaaDoor.A Go.Proofs.YtikepohhmagdpaaDoor.B Go.Proofs.YtikepohhmagdpaaDoor.C Go.Proofs.YtikepohhmagdpaaDoor.R Go.Proofs.YtikepohhmagdpaaDoor.H
set_option linter.unusedVariables false
set_option maxRecDepth 100000
theorem rbarer_k {a:ByteArray}:CSpec Tryd.prog 142 #[.string a] (.string (M.B (M.V a))):=fun w _=>(gantref1_Bare.calls a _ w (SB.bare_spec a)).mono fun e w' h=>⟨h.1,h.2.below⟩
theorem rcommonr_k {a b:ByteArray} (ha:a.size ≤ 2000000000) (hb:b.size ≤ 2000000000):CSpec Tryd.prog 109 #[.string a,.string b] (.string (M.B (Nat.gcd (M.V a) (M.V b)))):=fun w _=>by
  obtain ⟨k,hk⟩:=ev_some (SB.common_spec a b (by omega) (by omega))
  exact gantref1_Common.calls k a b _ w hk
section
variable {k l K L:Nat}
theorem add1n_s (h1:SzN k K):SzN (k + 1) (K + 1):=by
  unfold SzN at *
  have hp:256 ^ (K + 1) = 256 ^ K * 256:=Nat.pow_succ ..
  omega
theorem muln_s (h1:SzN k K) (h2:SzN l L):SzN (k * l) (K + L):=mul_lt h1 h2
theorem divn_s (h1:SzN k K):SzN (k / l) K:=Nat.lt_of_le_of_lt (Nat.div_le_self _ _) h1
theorem num_s {x:Rat} (h:Sz x K):SzN x.num.natAbs K:=h.1
theorem den_s {x:Rat} (h:Sz x K):SzN x.den K:=h.2
theorem SzN.size (h:SzN k K):(M.B k).size ≤ K:=M.size_B_le h
theorem rbare_k:CSpec Tryd.prog 142 #[.string (M.B k)] (.string (M.B k)):=by
  have:=rbarer_k (a:=M.B k)
  rwa [M.V_B] at this
theorem rcommon_k (h1:SzN k K) (h2:SzN l L) (hs:K + L ≤ 2000000000):CSpec Tryd.prog 109 #[.string (M.B k),.string (M.B l)] (.string (M.B (Nat.gcd k l))):=by
  have:=rcommonr_k (a:=M.B k) (b:=M.B l) (by have:=h1.size; omega) (by have:=h2.size; omega)
  rwa [M.V_B,M.V_B] at this
theorem rplus_k (h1:SzN k K) (h2:SzN l L) (hs:K + L ≤ 17179869184):CSpec Tryd.prog 145 #[.string (M.B k),.string (M.B l)] (.string (M.B (k + l))):=fun w _=>by
  obtain ⟨i,hi⟩:=ev_some (SB.plus_spec (M.B k) (M.B l) (by have:=h1.size; omega) (by have:=h2.size; omega))
  rw [M.V_B,M.V_B] at hi
  exact gantref1_Plus.calls i _ _ _ w hi
theorem rplus1_k (h1:SzN k K) (hs:K ≤ 4000000000):CSpec Tryd.prog 145 #[.string (M.B k),.string ⟨#[1]⟩] (.string (M.B (k + 1))):=by
  have:=rplus_k (l:=1) (L:=1) h1 (by unfold SzN; decide) (by omega)
  rwa [B_one1] at this
theorem rless_k (h1:SzN k K) (h2:SzN l L) (hs:K + L ≤ 17179869184) (h:l ≤ k):CSpec Tryd.prog 151 #[.string (M.B k),.string (M.B l)] (.string (M.B (k - l))):=fun w _=>by
  obtain ⟨i,hi⟩:=ev_some (SB.less_spec (M.B k) (M.B l) (by have:=h1.size; omega) (by have:=h2.size; omega) (by rw [M.V_B,M.V_B]; exact h))
  rw [M.V_B,M.V_B] at hi
  exact gantref1_Less.calls i _ _ _ w hi
theorem rtimes_k (h1:SzN k K) (h2:SzN l L) (hs:K + L ≤ 17179869184):CSpec Tryd.prog 143 #[.string (M.B k),.string (M.B l)] (.string (M.B (k * l))):=fun w _=>by
  obtain ⟨i,hi⟩:=ev_some (SB.times_spec (M.B k) (M.B l) (by have:=h1.size; omega) (by have:=h2.size; omega))
  rw [M.V_B,M.V_B] at hi
  exact gantref1_Times.calls i _ _ _ w hi
theorem rcomp_k (h1:SzN k K) (h2:SzN l L) (hs:K + L ≤ 17179869184):CSpec Tryd.prog 97 #[.string (M.B k),.string (M.B l)] (.int .i64 (SB.cmpN k l)):=fun w _=>by
  obtain ⟨i,hi⟩:=ev_some (SB.compare_spec (M.B k) (M.B l) (by have:=h1.size; omega) (by have:=h2.size; omega))
  rw [M.V_B,M.V_B] at hi
  exact gantref1_Compare.calls i _ _ _ w hi
theorem rshare_k (h1:SzN k K) (h2:SzN l L) (hs:K + L ≤ 17179869184) (h0:l ≠ 0):CSpec Tryd.prog 148 #[.string (M.B k),.string (M.B l)] (.tuple #[.string (M.B (k / l)),.string (M.B (k % l))]):=fun w _=>by
  obtain ⟨i,hi⟩:=ev_some (SB.share_spec (M.B k) (M.B l) (by have:=h1.size; omega) (by have:=h2.size; omega) (by rw [M.V_B]; exact h0))
  rw [M.V_B,M.V_B] at hi
  exact gantref1_Share.calls i _ _ _ _ w hi
theorem rsmall_k {n:Int} (h1:0 ≤ n) (h2:n ≤ 9223372036854775807):CSpec Tryd.prog 101 #[.int .i64 n] (.string (M.B n.toNat)):=fun w _=>by
  obtain ⟨i,hi⟩:=ev_some (SB.small_spec n h1 (by omega))
  exact gantref1_Small.calls i _ _ w hi
end
end Go.Proofs.YtikepohhmagdpaaDoor.G
end
section
namespace Go.Proofs.YtikepohhmagdpaaDoor.G
open Go.Proofs.YtikepohhmagdpaaDoor.U Go.RowKit
set_option linter.unusedVariables false
set_option maxRecDepth 100000
theorem fine1 {n:Bool} {a b:ByteArray} {K:Nat} (ha:a.size ≤ K) (hb:b.size ≤ K) (k1:K ≤ 1000000000) (h0:(!ByteArray.toList (M.B (M.V a)) == ByteArray.toList a) = true):CSpec Tryd.prog 100 #[(rv n a b)] (.bool false):=by
  exact fn_ok Tryd.func100 (sc:=[(1,2,.fix (.string (M.B (M.V a)))),(1,5,.is (.c (.bool true)))]) (sb:=[]) (by kernel_rfl) (hC (rbarer_k (a:=a)) (hP (isB h0) hN))
theorem fine2 {n:Bool} {a b:ByteArray} {K:Nat} (ha:a.size ≤ K) (hb:b.size ≤ K) (k1:K ≤ 1000000000) (h0:(!ByteArray.toList (M.B (M.V a)) == ByteArray.toList a) = false) (h1:(!ByteArray.toList (M.B (M.V b)) == ByteArray.toList b) = true):CSpec Tryd.prog 100 #[(rv n a b)] (.bool false):=by
  exact fn_ok Tryd.func100 (sc:=[(1,2,.fix (.string (M.B (M.V a)))),(1,5,.is (.c (.bool false))),(1,9,.fix (.string (M.B (M.V b)))),(1,12,.is (.c (.bool true)))]) (sb:=[]) (by kernel_rfl) (hC (rbarer_k (a:=a)) (hP (isB h0) (hC (rbarer_k (a:=b)) (hP (isB h1) hN))))
theorem fine3 {n:Bool} {a b:ByteArray} {K:Nat} (ha:a.size ≤ K) (hb:b.size ≤ K) (k1:K ≤ 1000000000) (h0:(!ByteArray.toList (M.B (M.V a)) == ByteArray.toList a) = false) (h1:(!ByteArray.toList (M.B (M.V b)) == ByteArray.toList b) = false) (h2:(ByteArray.toList b == ByteArray.toList { data:=#[] }) = true):CSpec Tryd.prog 100 #[(rv n a b)] (.bool false):=by
  exact fn_ok Tryd.func100 (sc:=[(1,2,.fix (.string (M.B (M.V a)))),(1,5,.is (.c (.bool false))),(1,9,.fix (.string (M.B (M.V b)))),(1,12,.is (.c (.bool false))),(1,17,.is (.c (.bool true)))]) (sb:=[]) (by kernel_rfl) (hC (rbarer_k (a:=a)) (hP (isB h0) (hC (rbarer_k (a:=b)) (hP (isB h1) (hP (isB h2) hN)))))
theorem fine4 {n:Bool} {a b:ByteArray} {K:Nat} (ha:a.size ≤ K) (hb:b.size ≤ K) (k1:K ≤ 1000000000) (h0:(!ByteArray.toList (M.B (M.V a)) == ByteArray.toList a) = false) (h1:(!ByteArray.toList (M.B (M.V b)) == ByteArray.toList b) = false) (h2:(ByteArray.toList b == ByteArray.toList { data:=#[] }) = false) (h3:(ByteArray.toList a == ByteArray.toList { data:=#[] }) = true) (h4:n = true):CSpec Tryd.prog 100 #[(rv n a b)] (.bool false):=by
  exact fn_ok Tryd.func100 (sc:=[(1,2,.fix (.string (M.B (M.V a)))),(1,5,.is (.c (.bool false))),(1,9,.fix (.string (M.B (M.V b)))),(1,12,.is (.c (.bool false))),(1,17,.is (.c (.bool false))),(3,2,.is (.c (.bool true))),(4,1,.is (.c (.bool true)))]) (sb:=[]) (by kernel_rfl) (hC (rbarer_k (a:=a)) (hP (isB h0) (hC (rbarer_k (a:=b)) (hP (isB h1) (hP (isB h2) (hP (isB h3) (hP (isB h4) hN)))))))
theorem fine5 {n:Bool} {a b:ByteArray} {K:Nat} (ha:a.size ≤ K) (hb:b.size ≤ K) (k1:K ≤ 1000000000) (h0:(!ByteArray.toList (M.B (M.V a)) == ByteArray.toList a) = false) (h1:(!ByteArray.toList (M.B (M.V b)) == ByteArray.toList b) = false) (h2:(ByteArray.toList b == ByteArray.toList { data:=#[] }) = false) (h3:(ByteArray.toList a == ByteArray.toList { data:=#[] }) = true) (h4:n = false):CSpec Tryd.prog 100 #[(rv n a b)] (.bool (ByteArray.toList b == ByteArray.toList { data:=#[(1:UInt8)] })):=by
  exact fn_ok Tryd.func100 (sc:=[(1,2,.fix (.string (M.B (M.V a)))),(1,5,.is (.c (.bool false))),(1,9,.fix (.string (M.B (M.V b)))),(1,12,.is (.c (.bool false))),(1,17,.is (.c (.bool false))),(3,2,.is (.c (.bool true))),(4,1,.is (.c (.bool false)))]) (sb:=[]) (by kernel_rfl) (hC (rbarer_k (a:=a)) (hP (isB h0) (hC (rbarer_k (a:=b)) (hP (isB h1) (hP (isB h2) (hP (isB h3) (hP (isB h4) hN)))))))
theorem fine6 {n:Bool} {a b:ByteArray} {K:Nat} (ha:a.size ≤ K) (hb:b.size ≤ K) (k1:K ≤ 1000000000) (h0:(!ByteArray.toList (M.B (M.V a)) == ByteArray.toList a) = false) (h1:(!ByteArray.toList (M.B (M.V b)) == ByteArray.toList b) = false) (h2:(ByteArray.toList b == ByteArray.toList { data:=#[] }) = false) (h3:(ByteArray.toList a == ByteArray.toList { data:=#[] }) = false):CSpec Tryd.prog 100 #[(rv n a b)] (.bool (ByteArray.toList (M.B (Nat.gcd (M.V a) (M.V b))) == ByteArray.toList { data:=#[(1:UInt8)] })):=by
  exact fn_ok Tryd.func100 (sc:=[(1,2,.fix (.string (M.B (M.V a)))),(1,5,.is (.c (.bool false))),(1,9,.fix (.string (M.B (M.V b)))),(1,12,.is (.c (.bool false))),(1,17,.is (.c (.bool false))),(3,2,.is (.c (.bool false))),(5,4,.fix (.string (M.B (Nat.gcd (M.V a) (M.V b)))))]) (sb:=[]) (by kernel_rfl) (hC (rbarer_k (a:=a)) (hP (isB h0) (hC (rbarer_k (a:=b)) (hP (isB h1) (hP (isB h2) (hP (isB h3) (hC (rcommonr_k (a:=a) (b:=b) (by omega) (by omega)) hN)))))))
def NZ (d:Nat):Prop:=d ≠ 0
theorem nzden_s {x:Rat}:NZ x.den:=x.den_nz
theorem nzmul_s {d e:Nat} (h:NZ d) (g:NZ e):NZ (d * e):=Nat.mul_ne_zero h g
theorem nz1_s:NZ 1:=Nat.one_ne_zero
def qaS (s:Bool) (x:Nat) (t:Bool) (y:Nat):Bool:=if s = t then s else if y ≤ x then s else t
def qaN (s:Bool) (x:Nat) (t:Bool) (y:Nat):Nat:=if s = t then x + y else if y ≤ x then x - y else y - x
theorem qa_sgn (s:Bool) (x:Nat) (t:Bool) (y:Nat):sgn (qaS s x t y) (qaN s x t y) = sgn s x + sgn t y:=by
  unfold qaS qaN sgn
  by_cases h:y ≤ x <;> cases s <;> cases t <;> simp [h] <;> omega
theorem sgn_mulr (s:Bool) (k e:Nat):sgn s (k * e) = sgn s k * (e:Int):=by cases s <;> simp [sgn,Int.neg_mul]
theorem sgn_not (s:Bool) (k:Nat):sgn (!s) k = -sgn s k:=by cases s <;> simp [sgn]
theorem str_eq (a b:ByteArray):(a.toList == b.toList) = decide (a = b):=by
  have:=str_neq a b
  by_cases h:a = b
  · subst h; simp
  rw [decide_eq_true h] at this
  rw [decide_eq_false h]
  simpa using this
theorem cmpN_ge {a b:Nat}:decide (SB.cmpN a b ≥ 0) = decide (b ≤ a):=decide_eq_decide.2 SB.cmpN_nn
open Classical in
theorem fine_k {n:Bool} {a b:ByteArray} {x:Rat} {K:Nat} (h:IsR n a b x K) (k1:K ≤ 1000000000):CSpec Tryd.prog 100 #[rv n a b] (.bool (gd n a b)):=by
  have ha:=h.sa
  have hb:=h.sb
  unfold gd
  by_cases la:M.B (M.V a) = a
  case neg=>rw [decide_eq_false (fun h=>la h.la)]; exact fine1 ha hb k1 (by rw [str_neq]; exact decide_eq_true la)
  have g0:(!(M.B (M.V a)).toList == a.toList) = false:=by rw [str_neq]; exact decide_eq_false (fun h=>h la)
  by_cases lb:M.B (M.V b) = b
  case neg=>rw [decide_eq_false (fun h=>lb h.lb)]; exact fine2 ha hb k1 g0 (by rw [str_neq]; exact decide_eq_true lb)
  have g1:(!(M.B (M.V b)).toList == b.toList) = false:=by rw [str_neq]; exact decide_eq_false (fun h=>h lb)
  by_cases b0:b = ⟨#[]⟩
  · rw [decide_eq_false (fun h=>h.nz (by rw [b0]; rfl))]
    exact fine3 ha hb k1 g0 g1 (by rw [str_eq]; exact decide_eq_true b0)
  have g2:(b.toList == ByteArray.toList ⟨#[]⟩) = false:=by rw [str_eq]; exact decide_eq_false b0
  have nz:M.V b ≠ 0:=fun h=>b0 (nil_of lb h)
  by_cases a0:a = ⟨#[]⟩
  · have va:M.V a = 0:=by rw [a0]; rfl
    have g3:(a.toList == ByteArray.toList ⟨#[]⟩) = true:=by rw [str_eq]; exact decide_eq_true a0
    cases n with
    | true =>
      rw [decide_eq_false (fun h=>by have:=h.sg va; cases this)]
      exact fine4 ha hb k1 g0 g1 g2 g3 rfl
    | false =>
      refine cbool (fine5 ha hb k1 g0 g1 g2 g3 rfl) ?_
      rw [str_eq]
      refine decide_eq_decide.2 ⟨fun h1=>⟨nz,la,lb,by rw [va,h1]; rfl,fun _=>rfl⟩,fun h=>?_⟩
      have:=h.red
      rw [va,Nat.gcd_zero_left] at this
      exact (one_of lb).2 this
  have g3:(a.toList == ByteArray.toList ⟨#[]⟩) = false:=by rw [str_eq]; exact decide_eq_false a0
  refine cbool (fine6 ha hb k1 g0 g1 g2 g3) ?_
  rw [str_eq]
  refine decide_eq_decide.2 ⟨fun h1=>⟨nz,la,lb,B_is_one.1 h1,fun h=>(a0 (nil_of la h)).elim⟩,fun h=>B_is_one.2 h.red⟩
theorem qof1 {n:Bool} {a b:ByteArray} {x:Rat} {K:Nat} (h:IsR n a b x K) (k1:K ≤ 1000000000) (h0:gd n a b = true):CSpec Tryd.prog 87 #[(rv n a b)] (rv n a b):=by
  exact fn_ok Tryd.func87 (sc:=[(1,1,.fix (.bool true))]) (sb:=[]) (by kernel_rfl) (hC (cbool (fine_k h k1) h0) hN)
theorem qof2 {n:Bool} {a b:ByteArray} {x:Rat} {K:Nat} (h:IsR n a b x K) (k1:K ≤ 1000000000) (h0:gd n a b = false):CSpec Tryd.prog 87 #[(rv n a b)] (ag [[.bool false],[.string ({ data:=#[] })],[.string ({ data:=#[(1:UInt8)] })]]):=by
  exact fn_ok Tryd.func87 (sc:=[(1,1,.fix (.bool false))]) (sb:=[]) (by kernel_rfl) (hC (cbool (fine_k h k1) h0) hN)
theorem qneg_k {s:Bool} {k d K D:Nat} (h1':SzN k K) (h2':SzN d D) (k1:K + D ≤ 2000000000)  : CSpec Tryd.prog 99 #[(rv s (M.B k) (M.B d))] (ag [[.bool (!s)],[.string (M.B k)],[.string (M.B d)]]):=by
  exact fn_ok Tryd.func99 (sc:=[]) (sb:=[]) (by kernel_rfl) hN
theorem qmul_k {s t:Bool} {k d l e K L D E:Nat} (h1':SzN k K) (h2':SzN d D) (h3':SzN l L) (h4':SzN e E) (k1:K + D + L + E ≤ 2000000000)  : CSpec Tryd.prog 90 #[(rv s (M.B k) (M.B d)),(rv t (M.B l) (M.B e))] (ag [[.bool (s != t)],[.string (M.B (k * l))],[.string (M.B (d * e))]]):=by
  exact fn_ok Tryd.func90 (sc:=[(1,9,.fix (.string (M.B (k * l)))),(1,14,.fix (.string (M.B (d * e))))]) (sb:=[]) (by kernel_rfl) (hC (rtimes_k h1' h3' (by omega)) (hC (rtimes_k h2' h4' (by omega)) hN))
theorem qadd1 {s t:Bool} {k d l e K L D E:Nat} (h1':SzN k K) (h2':SzN d D) (h3':SzN l L) (h4':SzN e E) (k1:K + D + L + E ≤ 2000000000) (h0:(s == t) = true):CSpec Tryd.prog 106 #[(rv s (M.B k) (M.B d)),(rv t (M.B l) (M.B e))] (ag [[.bool s],[.string (M.B (k * e + l * d))],[.string (M.B (d * e))]]):=by
  have s1:=(muln_s h1' h4')
  have s2:=(muln_s h3' h2')
  exact fn_ok Tryd.func106 (sc:=[(1,4,.fix (.string (M.B (k * e)))),(1,9,.fix (.string (M.B (l * d)))),(1,14,.fix (.string (M.B (d * e)))),(2,4,.is (.c (.bool true))),(3,4,.fix (.string (M.B (k * e + l * d))))]) (sb:=[]) (by kernel_rfl) (hC (rtimes_k h1' h4' (by omega)) (hC (rtimes_k h3' h2' (by omega)) (hC (rtimes_k h2' h4' (by omega)) (hP (isB h0) (hC (rplus_k s1 s2 (by omega)) hN)))))
theorem qadd2 {s t:Bool} {k d l e K L D E:Nat} (h1':SzN k K) (h2':SzN d D) (h3':SzN l L) (h4':SzN e E) (k1:K + D + L + E ≤ 2000000000) (hl:l * d ≤ k * e) (h0:(s == t) = false) (h3:decide ((0:Int) ≤ SB.cmpN (k * e) (l * d)) = true):CSpec Tryd.prog 106 #[(rv s (M.B k) (M.B d)),(rv t (M.B l) (M.B e))] (ag [[.bool s],[.string (M.B (k * e - l * d))],[.string (M.B (d * e))]]):=by
  have s1:=(muln_s h1' h4')
  have s2:=(muln_s h3' h2')
  exact fn_ok Tryd.func106 (sc:=[(1,4,.fix (.string (M.B (k * e)))),(1,9,.fix (.string (M.B (l * d)))),(1,14,.fix (.string (M.B (d * e)))),(2,4,.is (.c (.bool false))),(4,2,.fix (.int IntKind.i64 (SB.cmpN (k * e) (l * d)))),(4,3,.is (.c (.bool true))),(5,4,.fix (.string (M.B (k * e - l * d))))]) (sb:=[]) (by kernel_rfl) (hC (rtimes_k h1' h4' (by omega)) (hC (rtimes_k h3' h2' (by omega)) (hC (rtimes_k h2' h4' (by omega)) (hP (isB h0) (hC (rcomp_k s1 s2 (by omega)) (hP (isB h3) (hC (rless_k s1 s2 (by omega) hl) hN)))))))
theorem qadd3 {s t:Bool} {k d l e K L D E:Nat} (h1':SzN k K) (h2':SzN d D) (h3':SzN l L) (h4':SzN e E) (k1:K + D + L + E ≤ 2000000000) (hl:k * e ≤ l * d) (h0:(s == t) = false) (h3:decide ((0:Int) ≤ SB.cmpN (k * e) (l * d)) = false):CSpec Tryd.prog 106 #[(rv s (M.B k) (M.B d)),(rv t (M.B l) (M.B e))] (ag [[.bool t],[.string (M.B (l * d - k * e))],[.string (M.B (d * e))]]):=by
  have s1:=(muln_s h1' h4')
  have s2:=(muln_s h3' h2')
  exact fn_ok Tryd.func106 (sc:=[(1,4,.fix (.string (M.B (k * e)))),(1,9,.fix (.string (M.B (l * d)))),(1,14,.fix (.string (M.B (d * e)))),(2,4,.is (.c (.bool false))),(4,2,.fix (.int IntKind.i64 (SB.cmpN (k * e) (l * d)))),(4,3,.is (.c (.bool false))),(6,4,.fix (.string (M.B (l * d - k * e))))]) (sb:=[]) (by kernel_rfl) (hC (rtimes_k h1' h4' (by omega)) (hC (rtimes_k h3' h2' (by omega)) (hC (rtimes_k h2' h4' (by omega)) (hP (isB h0) (hC (rcomp_k s1 s2 (by omega)) (hP (isB h3) (hC (rless_k s2 s1 (by omega) hl) hN)))))))
theorem qsign1 {s:Bool} {k d:Nat}  (h0:(ByteArray.toList (M.B k) == ByteArray.toList { data:=#[] }) = true):CSpec Tryd.prog 89 #[(rv s (M.B k) (M.B d))] (.int IntKind.i64 (0:Int)):=by
  exact fn_ok Tryd.func89 (sc:=[(1,2,.fix (.string (M.B k))),(1,3,.is (.c (.bool true)))]) (sb:=[]) (by kernel_rfl) (hC (rbare_k (k:=k)) (hP (isB h0) hN))
theorem qsign2 {s:Bool} {k d:Nat}  (h0:(ByteArray.toList (M.B k) == ByteArray.toList { data:=#[] }) = false) (h1:s = true):CSpec Tryd.prog 89 #[(rv s (M.B k) (M.B d))] (.int IntKind.i64 (-1:Int)):=by
  exact fn_ok Tryd.func89 (sc:=[(1,2,.fix (.string (M.B k))),(1,3,.is (.c (.bool false))),(3,1,.is (.c (.bool true)))]) (sb:=[]) (by kernel_rfl) (hC (rbare_k (k:=k)) (hP (isB h0) (hP (isB h1) hN)))
theorem qsign3 {s:Bool} {k d:Nat}  (h0:(ByteArray.toList (M.B k) == ByteArray.toList { data:=#[] }) = false) (h1:s = false):CSpec Tryd.prog 89 #[(rv s (M.B k) (M.B d))] (.int IntKind.i64 (1:Int)):=by
  exact fn_ok Tryd.func89 (sc:=[(1,2,.fix (.string (M.B k))),(1,3,.is (.c (.bool false))),(3,1,.is (.c (.bool false)))]) (sb:=[]) (by kernel_rfl) (hC (rbare_k (k:=k)) (hP (isB h0) (hP (isB h1) hN)))
theorem qof_k {n:Bool} {a b:ByteArray} {x:Rat} {K:Nat} (h:IsR n a b x K) (k1:K ≤ 1000000000):CSpec Tryd.prog 87 #[rv n a b] (Rv x):=by
  cases hg:gd n a b with
  | true =>
    have:=qof1 h k1 hg
    rw [gd_can hg,h.eq] at this
    rwa [gd_can hg,h.eq]
  | false =>
    have e:x = 0:=by rw [← h.eq]; exact gd_not hg
    rw [e,Rv_zero]
    exact qof2 h k1 hg
section
variable {s t:Bool} {k d l e K L D E:Nat}
theorem qadd_k (h1':SzN k K) (h2':SzN d D) (h3':SzN l L) (h4':SzN e E) (k1:K + D + L + E ≤ 2000000000):CSpec Tryd.prog 106 #[rv s (M.B k) (M.B d),rv t (M.B l) (M.B e)] (rv (qaS s (k * e) t (l * d)) (M.B (qaN s (k * e) t (l * d))) (M.B (d * e))):=by
  unfold qaS qaN
  by_cases hs:s = t
  · rw [if_pos hs,if_pos hs]
    exact qadd1 h1' h2' h3' h4' k1 (by rw [hs]; simp)
  rw [if_neg hs,if_neg hs]
  have g0:(s == t) = false:=by simpa using hs
  by_cases hl:l * d ≤ k * e
  · rw [if_pos hl,if_pos hl]
    exact qadd2 h1' h2' h3' h4' k1 hl g0 (by rw [cmpN_ge]; exact decide_eq_true hl)
  rw [if_neg hl,if_neg hl]
  exact qadd3 h1' h2' h3' h4' k1 (by omega) g0 (by rw [cmpN_ge]; exact decide_eq_false hl)
theorem qsign_k:CSpec Tryd.prog 89 #[rv s (M.B k) (M.B d)] (.int .i64 (Int.sign (sgn s k))):=by
  by_cases h:k = 0
  · have e:Int.sign (sgn s k) = 0:=by rw [h]; cases s <;> rfl
    rw [e]
    exact qsign1 (by rw [str_eq]; exact decide_eq_true (B_nil h))
  have g:(ByteArray.toList (M.B k) == ByteArray.toList ⟨#[]⟩) = false:=by rw [str_eq]; exact decide_eq_false (B_ne h)
  cases s with
  | true =>
    have e:Int.sign (sgn true k) = -1:=Int.sign_eq_neg_one_of_neg (by simp only [sgn,if_true]; omega)
    rw [e]
    exact qsign2 g rfl
  | false =>
    have e:Int.sign (sgn false k) = 1:=Int.sign_eq_one_of_pos (by simp [sgn]; omega)
    rw [e]
    exact qsign3 g rfl
theorem gcdn_s (h:SzN d L) (hd:d ≠ 0):SzN (Nat.gcd k d) L:=Nat.lt_of_le_of_lt (Nat.gcd_le_right _ (by omega)) h
end
theorem qcmp1 {s t:Bool} {k d l e K L D E:Nat} (h1':SzN k K) (h2':SzN d D) (h3':SzN l L) (h4':SzN e E) (k1:K + D + L + E ≤ 2000000000)  : CSpec Tryd.prog 98 #[(rv s (M.B k) (M.B d)),(rv t (M.B l) (M.B e))] (.int IntKind.i64 (Int.sign (sgn (qaS s (k * e) (!t) (l * d)) (qaN s (k * e) (!t) (l * d))))):=by
  exact fn_ok Tryd.func98 (sc:=[(1,2,.fix (ag [[.bool (!t)],[.string (M.B l)],[.string (M.B e)]])),(1,3,.fix (ag [[.bool (qaS s (k * e) (!t) (l * d))],[.string (M.B (qaN s (k * e) (!t) (l * d)))],[.string (M.B (d * e))]])),(1,4,.fix (.int IntKind.i64 (Int.sign (sgn (qaS s (k * e) (!t) (l * d)) (qaN s (k * e) (!t) (l * d))))))]) (sb:=[]) (by kernel_rfl) (hC (qneg_k (s:=t) h3' h4' (by omega)) (hC (qadd_k (s:=s) (t:=!t) h1' h2' h3' h4' k1) (hC (qsign_k (s:=qaS s (k * e) (!t) (l * d)) (k:=qaN s (k * e) (!t) (l * d)) (d:=d * e)) hN)))
theorem rat1 {s:Bool} {k d K D:Nat} (h1':SzN k K) (h2':SzN d D) (k1:K + D ≤ 2000000000) (hd:d ≠ 0) (h0:(ByteArray.toList (M.B k) == ByteArray.toList { data:=#[] }) = true):CSpec Tryd.prog 144 #[(rv s (M.B k) (M.B d))] (ag [[.bool false],[.string ({ data:=#[] })],[.string ({ data:=#[(1:UInt8)] })]]):=by
  exact fn_ok Tryd.func144 (sc:=[(1,2,.fix (.string (M.B k))),(1,3,.is (.c (.bool true)))]) (sb:=[]) (by kernel_rfl) (hC (rbare_k (k:=k)) (hP (isB h0) hN))
theorem rat2 {s:Bool} {k d K D:Nat} (h1':SzN k K) (h2':SzN d D) (k1:K + D ≤ 2000000000) (hd:d ≠ 0) (h0:(ByteArray.toList (M.B k) == ByteArray.toList { data:=#[] }) = false) (h2:Nat.gcd k d ≠ (0:Nat)):CSpec Tryd.prog 144 #[(rv s (M.B k) (M.B d))] (ag [[.bool s],[.string (M.B (k / Nat.gcd k d))],[.string (M.B (d / Nat.gcd k d))]]):=by
  have s1:=(gcdn_s (k:=k) h2' hd)
  exact fn_ok Tryd.func144 (sc:=[(1,2,.fix (.string (M.B k))),(1,3,.is (.c (.bool false))),(3,4,.fix (.string (M.B (Nat.gcd k d)))),(4,3,.fix (.tuple #[.string (M.B (k / Nat.gcd k d)),.string (M.B (k % Nat.gcd k d))])),(5,3,.fix (.tuple #[.string (M.B (d / Nat.gcd k d)),.string (M.B (d % Nat.gcd k d))]))]) (sb:=[]) (by kernel_rfl) (hC (rbare_k (k:=k)) (hP (isB h0) (hC (rcommon_k h1' h2' k1) (hC (rshare_k h1' s1 (by omega) h2) (hC (rshare_k h2' s1 (by omega) h2) hN)))))
theorem qcmp_k {s t:Bool} {k d l e K L D E:Nat} (h1':SzN k K) (h2':SzN d D) (h3':SzN l L) (h4':SzN e E) (k1:K + D + L + E ≤ 2000000000):CSpec Tryd.prog 98 #[rv s (M.B k) (M.B d),rv t (M.B l) (M.B e)] (.int .i64 (cmpI (sgn s k * (e:Int)) (sgn t l * (d:Int)))):=by
  have:=qcmp1 (s:=s) (t:=t) h1' h2' h3' h4' k1
  rw [qa_sgn,sgn_mulr,sgn_mulr,sgn_not] at this
  have e1:Int.sign (sgn s k * (e:Int) + -sgn t l * (d:Int)) = cmpI (sgn s k * (e:Int)) (sgn t l * (d:Int)):=by
    rw [Int.neg_mul]
    generalize sgn s k * (e:Int) = x
    generalize sgn t l * (d:Int) = y
    unfold cmpI
    (repeat' split)
    · exact Int.sign_eq_neg_one_of_neg (by omega)
    · rw [show x + -y = 0 by omega]; rfl
    exact Int.sign_eq_one_of_pos (by omega)
  rwa [e1] at this
theorem wh_n {n:Int} {a b:ByteArray} (h:n < 0) (h2:-9223372036854775808 ≤ n) (ho:CSpec Tryd.prog 101 #[.int .i64 (-(n + 1))] (.string a)) (hb:CSpec Tryd.prog 145 #[.string a,.string ⟨#[1]⟩] (.string b)):CSpec Tryd.prog 93 #[.int .i64 n] (rv true b ⟨#[1]⟩) :=
  fn_ok Tryd.func93 (sc:=[(1,1,.is (.c (.bool true))),(2,1,.is (.c (.int .i64 (n+1)))),(2,2,.is (.c (.int .i64 (-(n + 1))))),(2,3,.fix (.string a)),(2,4,.fix (.string b))]) (sb:=[]) (by kernel_rfl) (hP (isB (decide_eq_true h)) (hP (add_1 h h2) (hP (neg_1 h h2) (hC ho (hC hb hN)))))
theorem wh_p {n:Int} {a:ByteArray} (h:¬ n < 0) (ho:CSpec Tryd.prog 101 #[.int .i64 n] (.string a)):CSpec Tryd.prog 93 #[.int .i64 n] (rv false a ⟨#[1]⟩) :=
  fn_ok Tryd.func93 (sc:=[(1,1,.is (.c (.bool false))),(3,1,.fix (.string a))]) (sb:=[]) (by kernel_rfl) (hP (isB (decide_eq_false h)) (hC ho hN))
theorem intn_z {n:Int} (h:-9223372036854775808 ≤ n) (h2:n ≤ 9223372036854775807):SzN n.natAbs 8:=by
  unfold SzN
  have:(256:Nat) ^ 8 = 18446744073709551616:=by decide
  omega
theorem one_s:SzN 1 1:=by unfold SzN; decide
theorem whole_q {n:Int} (h1:-9223372036854775808 ≤ n) (h2:n ≤ 9223372036854775807):CSpec Tryd.prog 93 #[.int .i64 n] (rv (decide (n < 0)) (M.B n.natAbs) (M.B 1)):=by
  rw [B_one1]
  by_cases h:n < 0
  · rw [decide_eq_true h]
    have hb:=rplus1_k (k:=(-(n + 1)).toNat) (K:=8) (by
      have:=intn_z h1 h2
      unfold SzN at *
      omega) (by decide)
    rw [show (-(n + 1)).toNat + 1 = n.natAbs by omega] at hb
    exact wh_n h h1 (rsmall_k (by omega) (by omega)) hb
  rw [decide_eq_false h]
  have ho:=rsmall_k (n:=n) (by omega) h2
  rw [show n.toNat = n.natAbs by omega] at ho
  exact wh_p h ho
theorem rat_k {s:Bool} {k d K D:Nat} (h1':SzN k K) (h2':SzN d D) (k1:K + D ≤ 2000000000) (hd:d ≠ 0):CSpec Tryd.prog 144 #[rv s (M.B k) (M.B d)] (Rv (mkRat (sgn s k) d)):=by
  by_cases h:k = 0
  · have e:mkRat (sgn s k) d = 0:=(Rat.mkRat_eq_zero hd).2 (by rw [h]; cases s <;> rfl)
    rw [e,Rv_zero]
    exact rat1 h1' h2' k1 hd (by rw [str_eq]; exact decide_eq_true (B_nil h))
  rw [rv_mk s k d h hd]
  exact rat2 h1' h2' k1 hd (by rw [str_eq]; exact decide_eq_false (B_ne h)) (fun hg=>h (Nat.eq_zero_of_gcd_eq_zero_left hg))
theorem is0 {s:Bool} {k d K D:Nat} (h1':SzN k K) (h2':SzN d D) (k1:K + D ≤ 2000000000) (hd:d ≠ 0)  : CSpec Tryd.prog 91 #[(rv s (M.B k) (M.B d)),(Rv (mkRat (sgn s k) d))] (.bool true):=by
  exact fn_ok Tryd.func91 (sc:=[(1,1,.fix (Rv (mkRat (sgn s k) d))),(1,3,.eqs)]) (sb:=[]) (by kernel_rfl) (hC (rat_k (s:=s) h1' h2' k1 hd) (hP (Eq.refl (Rv (mkRat (sgn s k) d))) hN))
theorem is_k {s:Bool} {k d K D:Nat} {z:Rat} (h1':SzN k K) (h2':SzN d D) (k1:K + D ≤ 2000000000) (hd:NZ d) (h:mkRat (sgn s k) d = z):CSpec Tryd.prog 91 #[rv s (M.B k) (M.B d),Rv z] (.bool true):=by
  subst h
  exact is0 h1' h2' k1 hd
end Go.Proofs.YtikepohhmagdpaaDoor.G
end
section
namespace Go.Proofs.YtikepohhmagdpaaDoor.G
open Go.Proofs.YtikepohhmagdpaaDoor.U Go.RowKit
set_option linter.unusedVariables false
set_option maxRecDepth 100000
theorem m1_1 (n:Int):(1:Int) ≤ (if (1:Int) > n then (1:Int) else n):=by split <;> omega
theorem m1_2 {n:Int} (h:n ≤ 9223372036854775807):(if (1:Int) > n then (1:Int) else n) ≤ 9223372036854775807:=by split <;> omega
theorem nof_k {n:Int} (h:n ≤ 9223372036854775807):CSpec Tryd.prog 135 #[.int .i64 (if (1:Int) > n then (1:Int) else n)] (.string (M.B (if (1:Int) > n then (1:Int) else n).toNat)):=of_c _ (Int.lt_of_le_of_lt (m1_2 h) (by decide))
theorem szd_s {n:Int} (h:n ≤ 9223372036854775807):SzN (if (1:Int) > n then (1:Int) else n).toNat 8:=by
  unfold SzN
  have:(256:Nat) ^ 8 = 18446744073709551616:=by decide
  have:=m1_2 h
  have:=m1_1 n
  omega
theorem isRn_s {d K:Nat} (h:SzN d K):IsR false (M.B d) ⟨#[1]⟩ (d:Rat) (K + 1):=by
  have hs:Sz (d:Rat) (K + 1):=by
    refine ⟨?_,?_⟩
    · show (d:Rat).num.natAbs < _
      rw [Rat.num_natCast,Int.natAbs_natCast]
      exact Nat.lt_of_lt_of_le h (Nat.pow_le_pow_right (by decide) (by omega))
    rw [Rat.den_natCast]
    exact Nat.one_lt_pow (by omega) (by decide)
  have:=isR_s hs
  rw [Rat.num_natCast,Rat.den_natCast,Int.natAbs_natCast,B_one1,decide_eq_false (by omega)] at this
  exact this
def SzI (z:Int) (K:Nat):Prop:=Sz (z:Rat) K
theorem flabs (x:Rat):(fl x).natAbs ≤ x.num.natAbs / x.den + 1:=by
  rw [fl_eq]
  generalize x.num.natAbs / x.den = q
  unfold sgn
  split
  · split <;> simp only [if_true] <;> omega
  simp only [Bool.false_eq_true,if_false]
  omega
theorem szfl_s {x:Rat} {K:Nat} (h:Sz x K):SzI (fl x) (K + 1):=by
  refine ⟨?_,?_⟩
  · rw [Rat.num_intCast]
    have h1:=szq1_s h
    unfold SzN at h1
    exact Nat.lt_of_le_of_lt (flabs x) h1
  rw [Rat.den_intCast]
  exact Nat.one_lt_pow (by omega) (by decide)
theorem made2_k {z:Int} {K:Nat} {n:Int} (hz:SzI z K) (hK:K ≤ 17179869184) (hn:n ≤ 9223372036854775807):CSpec Tryd.prog 126 #[.bool (decide ((z:Rat).num < 0)),.string (M.B (z:Rat).num.natAbs),.string (M.B (if (1:Int) > n then (1:Int) else n).toNat)] (Rv (mkRat z (if (1:Int) > n then (1:Int) else n).toNat)):=by
  have:=made_c (decide ((z:Rat).num < 0)) (z:Rat).num.natAbs (if (1:Int) > n then (1:Int) else n).toNat (by have:=m1_1 n; omega) (Nat.le_trans hz.num (by omega)) (Nat.le_trans (M.size_B_le (szd_s hn)) (by omega))
  rw [sgn_num,Rat.num_intCast] at this
  rw [Rat.num_intCast]
  exact this
theorem down0 {n1:Bool} {a1 b1:ByteArray} {x:Rat} {K:Nat} {n:Int} (h1':IsR n1 a1 b1 x K) (k1:K ≤ 1000000000) (hn:n ≤ 9223372036854775807)  : CSpec Tryd.prog 73 #[(rv n1 a1 b1),(.int .i64 n)] (Rv (mkRat (fl (x * (↑(Int.toNat (if (1:Int) > n then (1:Int) else n)):Rat))) (Int.toNat (if (1:Int) > n then (1:Int) else n)))):=by
  have s0:=(szd_s hn)
  have s1:=(isRn_s s0)
  have s2:=(mul_s (szr h1') (szr s1))
  have s3:=(szfl_s s2)
  exact fn_ok Tryd.func73 (sc:=[(1,2,.fix (.string (M.B (Int.toNat (if (1:Int) > n then (1:Int) else n))))),(2,3,.fix (Rv (x * (↑(Int.toNat (if (1:Int) > n then (1:Int) else n)):Rat)))),(2,4,.fix (Rv ((↑(fl (x * (↑(Int.toNat (if (1:Int) > n then (1:Int) else n)):Rat))):Rat)))),(3,5,.fix (Rv (mkRat (fl (x * (↑(Int.toNat (if (1:Int) > n then (1:Int) else n)):Rat))) (Int.toNat (if (1:Int) > n then (1:Int) else n)))))]) (sb:=[]) (by kernel_rfl) (hC (nof_k hn) (hC (mul_k h1' s1 (by omega)) (hC (whole_k s2 (by omega)) (hC (made2_k s3 (by omega) hn) hN))))
def dn (x:Rat) (n:Int):Rat:=mkRat (fl (x * ((if (1:Int) > n then (1:Int) else n).toNat:Rat))) (if (1:Int) > n then (1:Int) else n).toNat
theorem dn_s {x:Rat} {n:Int} {K:Nat} (h:Sz x K) (hn:n ≤ 9223372036854775807):Sz (dn x n) (K + 10):=by
  have h1:Sz (((if (1:Int) > n then (1:Int) else n).toNat:Nat):Rat) 9:=(isRn_s (szd_s hn)).sz
  have h2:=szfl_s (h.mul h1)
  unfold SzI Sz at h2
  rw [Rat.num_intCast] at h2
  refine Sz.mk (by have:=m1_1 n; omega) (by simpa using h2.1) ?_
  have h3:=szd_s hn
  unfold SzN at h3
  exact Nat.lt_of_lt_of_le h3 (Nat.pow_le_pow_right (by decide) (by omega))
theorem down_k {n1:Bool} {a1 b1:ByteArray} {x:Rat} {K:Nat} {n:Int} (h1':IsR n1 a1 b1 x K) (k1:K ≤ 1000000000) (hn:n ≤ 9223372036854775807):CSpec Tryd.prog 73 #[rv n1 a1 b1,.int .i64 n] (Rv (dn x n)):=down0 h1' k1 hn
theorem up_k {n1:Bool} {a1 b1:ByteArray} {x:Rat} {K:Nat} {n:Int} (h1':IsR n1 a1 b1 x K) (k1:K ≤ 500000000) (hn:n ≤ 9223372036854775807)  : CSpec Tryd.prog 74 #[(rv n1 a1 b1),(.int .i64 n)] (Rv (-dn (-x) n)):=by
  have s0:=(neg_s (szr h1'))
  have s1:=(isR_s s0)
  have s2:=(dn_s s0 hn)
  have s3:=(isR_s s2)
  exact fn_ok Tryd.func74 (sc:=[(1,1,.fix (Rv (-x))),(1,3,.fix (Rv (dn (-x) n))),(1,4,.fix (Rv (-dn (-x) n)))]) (sb:=[]) (by kernel_rfl) (hC (neg_k h1' (by omega)) (hC (down_k s1 (by omega) hn) (hC (neg_k s3 (by omega)) hN)))
end Go.Proofs.YtikepohhmagdpaaDoor.G
end
section
namespace Go.Proofs.YtikepohhmagdpaaDoor.G
open Go.Proofs.YtikepohhmagdpaaDoor.U Go.RowKit Go.Proofs.YtikepohhmagdpaaDoor.R
set_option linter.unusedVariables false
set_option maxRecDepth 100000
theorem ffit_k {n:Bool} {a b:ByteArray} {x:Rat} {K:Nat} (h:IsR n a b x K) (k1:K ≤ 1000000000):CSpec Tryd.prog 124 #[rv n a b] (Rv x):=h.fit (by omega)
theorem inta_k {k:Nat} (h:k ≤ 9223372036854775807):CSpec Tryd.prog 147 #[.string (M.B k)] (.tuple #[.int .i64 (k:Int),.int .i64 0]):=by
  have:=int_c (M.B k)
  rwa [M.V_B,if_pos h] at this
theorem intb_k {k:Nat} (h:¬ k ≤ 9223372036854775807):CSpec Tryd.prog 147 #[.string (M.B k)] (.tuple #[.int .i64 0,.int .i64 2]):=by
  have:=int_c (M.B k)
  rwa [M.V_B,if_neg h] at this
theorem goodr_k {n:Bool} {a b:ByteArray} (ha:a.size ≤ 1000000000) (hb:b.size ≤ 1000000000):CSpec Tryd.prog 55 #[rv n a b] (.bool (gd n a b)):=good_c n a b (by omega) (by omega)
theorem nofl_k {n:Int} (h0:0 ≤ n) (h:n ≤ 1000000):CSpec Tryd.prog 135 #[.int .i64 n] (.string (M.B n.toNat)):=of_c n (by omega)
theorem ncmpr_k {a:ByteArray} {k:Nat}:CSpec Tryd.prog 129 #[.string a,.string (M.B k)] (.int .i64 (SB.cmpN (M.V a) k)):=by
  have:=cmp_c a (M.B k)
  rwa [M.V_B] at this
theorem qfl1 {s:Bool} {k d K D:Nat} (h1':SzN k K) (h2':SzN d D) (k1:K + D ≤ 2000000000) (hd:d ≠ 0) (h0:s = false):CSpec Tryd.prog 96 #[(rv s (M.B k) (M.B d))] (ag [[.bool false],[.string (M.B (k / d))],[.string ({ data:=#[(1:UInt8)] })]]):=by
  exact fn_ok Tryd.func96 (sc:=[(1,4,.fix (.tuple #[.string (M.B (k / d)),.string (M.B (k % d))])),(2,1,.is (.c (.bool false))),(4,1,.is (.c (.bool false)))]) (sb:=[]) (by kernel_rfl) (hC (rshare_k h1' h2' (by omega) hd) (hP (isB h0) (hP (isB h0) hN)))
theorem qfl2 {s:Bool} {k d K D:Nat} (h1':SzN k K) (h2':SzN d D) (k1:K + D ≤ 2000000000) (hd:d ≠ 0) (h0:s = true) (h1:(!ByteArray.toList (M.B (k % d)) == ByteArray.toList { data:=#[] }) = false):CSpec Tryd.prog 96 #[(rv s (M.B k) (M.B d))] (ag [[.bool true],[.string (M.B (k / d))],[.string ({ data:=#[(1:UInt8)] })]]):=by
  exact fn_ok Tryd.func96 (sc:=[(1,4,.fix (.tuple #[.string (M.B (k / d)),.string (M.B (k % d))])),(2,1,.is (.c (.bool true))),(2,4,.is (.c (.bool false))),(4,1,.is (.c (.bool true)))]) (sb:=[]) (by kernel_rfl) (hC (rshare_k h1' h2' (by omega) hd) (hP (isB h0) (hP (isB h1) (hP (isB h0) hN))))
theorem qfl3 {s:Bool} {k d K D:Nat} (h1':SzN k K) (h2':SzN d D) (k1:K + D ≤ 2000000000) (hd:d ≠ 0) (h0:s = true) (h1:(!ByteArray.toList (M.B (k % d)) == ByteArray.toList { data:=#[] }) = true):CSpec Tryd.prog 96 #[(rv s (M.B k) (M.B d))] (ag [[.bool true],[.string (M.B (k / d + (1:Nat)))],[.string ({ data:=#[(1:UInt8)] })]]):=by
  have s2:=(divn_s (l:=d) h1')
  exact fn_ok Tryd.func96 (sc:=[(1,4,.fix (.tuple #[.string (M.B (k / d)),.string (M.B (k % d))])),(2,1,.is (.c (.bool true))),(2,4,.is (.c (.bool true))),(3,1,.fix (.string (M.B (k / d + (1:Nat))))),(4,1,.is (.c (.bool true)))]) (sb:=[]) (by kernel_rfl) (hC (rshare_k h1' h2' (by omega) hd) (hP (isB h0) (hP (isB h1) (hC (rplus1_k s2 (by omega)) (hP (isB h0) hN)))))
theorem floor1 {n:Bool} {a b:ByteArray} {x:Rat} {K:Nat} (h:IsR n a b x K) (k1:K ≤ 1000000000) (hs:(Rat.num (↑(fl x):Rat)).natAbs ≤ 9223372036854775807) (h0:decide (Rat.num (↑(fl x):Rat) < (0:Int)) = true):CSpec Tryd.prog 95 #[(rv n a b)] (.tuple #[.int IntKind.i64 (IntKind.wrap IntKind.i64 ((0:Int) - (↑(Int.natAbs (Rat.num (↑(fl x):Rat))):Int))),.int IntKind.i64 (0:Int)]):=by
  exact fn_ok Tryd.func95 (sc:=[(1,1,.fix (Rv x)),(1,2,.fix (Rv ((↑(fl x):Rat)))),(2,2,.fix (.tuple #[.int IntKind.i64 ((↑(Int.natAbs (Rat.num (↑(fl x):Rat))):Int)),.int IntKind.i64 (0:Int)])),(3,1,.is (.c (.bool true)))]) (sb:=[]) (by kernel_rfl) (hC (ffit_k h k1) (hC (whole_k (szr h) (by omega)) (hC (inta_k hs) (hP (isB h0) hN))))
theorem floor2 {n:Bool} {a b:ByteArray} {x:Rat} {K:Nat} (h:IsR n a b x K) (k1:K ≤ 1000000000) (hs:(Rat.num (↑(fl x):Rat)).natAbs ≤ 9223372036854775807) (h0:decide (Rat.num (↑(fl x):Rat) < (0:Int)) = false):CSpec Tryd.prog 95 #[(rv n a b)] (.tuple #[.int IntKind.i64 ((↑(Int.natAbs (Rat.num (↑(fl x):Rat))):Int)),.int IntKind.i64 (0:Int)]):=by
  exact fn_ok Tryd.func95 (sc:=[(1,1,.fix (Rv x)),(1,2,.fix (Rv ((↑(fl x):Rat)))),(2,2,.fix (.tuple #[.int IntKind.i64 ((↑(Int.natAbs (Rat.num (↑(fl x):Rat))):Int)),.int IntKind.i64 (0:Int)])),(3,1,.is (.c (.bool false)))]) (sb:=[]) (by kernel_rfl) (hC (ffit_k h k1) (hC (whole_k (szr h) (by omega)) (hC (inta_k hs) (hP (isB h0) hN))))
theorem floor3 {n:Bool} {a b:ByteArray} {x:Rat} {K:Nat} (h:IsR n a b x K) (k1:K ≤ 1000000000)  (h0:¬Int.natAbs (Rat.num (↑(fl x):Rat)) ≤ (9223372036854775807:Nat)) (h1:decide (Rat.num (↑(fl x):Rat) < (0:Int)) = true):CSpec Tryd.prog 95 #[(rv n a b)] (.tuple #[.int IntKind.i64 (0:Int),.int IntKind.i64 (2:Int)]):=by
  exact fn_ok Tryd.func95 (sc:=[(1,1,.fix (Rv x)),(1,2,.fix (Rv ((↑(fl x):Rat)))),(2,2,.fix (.tuple #[.int IntKind.i64 (0:Int),.int IntKind.i64 (2:Int)])),(3,1,.is (.c (.bool true)))]) (sb:=[]) (by kernel_rfl) (hC (ffit_k h k1) (hC (whole_k (szr h) (by omega)) (hC (intb_k h0) (hP (isB h1) hN))))
theorem floor4 {n:Bool} {a b:ByteArray} {x:Rat} {K:Nat} (h:IsR n a b x K) (k1:K ≤ 1000000000)  (h0:¬Int.natAbs (Rat.num (↑(fl x):Rat)) ≤ (9223372036854775807:Nat)) (h1:decide (Rat.num (↑(fl x):Rat) < (0:Int)) = false):CSpec Tryd.prog 95 #[(rv n a b)] (.tuple #[.int IntKind.i64 (0:Int),.int IntKind.i64 (2:Int)]):=by
  exact fn_ok Tryd.func95 (sc:=[(1,1,.fix (Rv x)),(1,2,.fix (Rv ((↑(fl x):Rat)))),(2,2,.fix (.tuple #[.int IntKind.i64 (0:Int),.int IntKind.i64 (2:Int)])),(3,1,.is (.c (.bool false)))]) (sb:=[]) (by kernel_rfl) (hC (ffit_k h k1) (hC (whole_k (szr h) (by omega)) (hC (intb_k h0) (hP (isB h1) hN))))
theorem small1 {n:Bool} {a b:ByteArray} {K:Nat} (ha:a.size ≤ K) (hb:b.size ≤ K) (k1:K ≤ 1000000000) (h0:decide ((↑(ByteArray.size a):Int) ≤ (3:Int)) = false):CSpec Tryd.prog 102 #[(rv n a b)] (.bool false):=by
  exact fn_ok Tryd.func102 (sc:=[(1,3,.is (.c (.bool false)))]) (sb:=[]) (by kernel_rfl) (hP (isB h0) hN)
theorem small2 {n:Bool} {a b:ByteArray} {K:Nat} (ha:a.size ≤ K) (hb:b.size ≤ K) (k1:K ≤ 1000000000) (h0:decide ((↑(ByteArray.size a):Int) ≤ (3:Int)) = true) (h1:decide ((↑(ByteArray.size b):Int) ≤ (2:Int)) = false):CSpec Tryd.prog 102 #[(rv n a b)] (.bool false):=by
  exact fn_ok Tryd.func102 (sc:=[(1,3,.is (.c (.bool true))),(1,8,.is (.c (.bool false)))]) (sb:=[]) (by kernel_rfl) (hP (isB h0) (hP (isB h1) hN))
theorem small3 {n:Bool} {a b:ByteArray} {K:Nat} (ha:a.size ≤ K) (hb:b.size ≤ K) (k1:K ≤ 1000000000) (h0:decide ((↑(ByteArray.size a):Int) ≤ (3:Int)) = true) (h1:decide ((↑(ByteArray.size b):Int) ≤ (2:Int)) = true) (h2:gd n a b = false):CSpec Tryd.prog 102 #[(rv n a b)] (.bool false):=by
  exact fn_ok Tryd.func102 (sc:=[(1,3,.is (.c (.bool true))),(1,8,.is (.c (.bool true))),(1,12,.fix (.bool false))]) (sb:=[]) (by kernel_rfl) (hP (isB h0) (hP (isB h1) (hC (cbool (goodr_k (n:=n) (a:=a) (b:=b) (by omega) (by omega)) h2) hN)))
theorem small4 {n:Bool} {a b:ByteArray} {K:Nat} (ha:a.size ≤ K) (hb:b.size ≤ K) (k1:K ≤ 1000000000) (h0:decide ((↑(ByteArray.size a):Int) ≤ (3:Int)) = true) (h1:decide ((↑(ByteArray.size b):Int) ≤ (2:Int)) = true) (h2:gd n a b = true) (h3:decide (SB.cmpN (M.V a) (Int.toNat (1000000:Int)) ≤ (0:Int)) = false):CSpec Tryd.prog 102 #[(rv n a b)] (.bool false):=by
  exact fn_ok Tryd.func102 (sc:=[(1,3,.is (.c (.bool true))),(1,8,.is (.c (.bool true))),(1,12,.fix (.bool true)),(1,17,.fix (.string (M.B (Int.toNat (1000000:Int))))),(1,18,.fix (.int IntKind.i64 (SB.cmpN (M.V a) (Int.toNat (1000000:Int))))),(1,19,.is (.c (.bool false)))]) (sb:=[]) (by kernel_rfl) (hP (isB h0) (hP (isB h1) (hC (cbool (goodr_k (n:=n) (a:=a) (b:=b) (by omega) (by omega)) h2) (hC (nofl_k (n:=(1000000:Int)) (by decide +kernel) (by decide +kernel)) (hC (ncmpr_k (a:=a) (k:=Int.toNat (1000000:Int))) (hP (isB h3) hN))))))
theorem small5 {n:Bool} {a b:ByteArray} {K:Nat} (ha:a.size ≤ K) (hb:b.size ≤ K) (k1:K ≤ 1000000000) (h0:decide ((↑(ByteArray.size a):Int) ≤ (3:Int)) = true) (h1:decide ((↑(ByteArray.size b):Int) ≤ (2:Int)) = true) (h2:gd n a b = true) (h3:decide (SB.cmpN (M.V a) (Int.toNat (1000000:Int)) ≤ (0:Int)) = true) (h4:decide (SB.cmpN (M.V b) (Int.toNat (1000:Int)) ≤ (0:Int)) = false):CSpec Tryd.prog 102 #[(rv n a b)] (.bool false):=by
  exact fn_ok Tryd.func102 (sc:=[(1,3,.is (.c (.bool true))),(1,8,.is (.c (.bool true))),(1,12,.fix (.bool true)),(1,17,.fix (.string (M.B (Int.toNat (1000000:Int))))),(1,18,.fix (.int IntKind.i64 (SB.cmpN (M.V a) (Int.toNat (1000000:Int))))),(1,19,.is (.c (.bool true))),(1,24,.fix (.string (M.B (Int.toNat (1000:Int))))),(1,25,.fix (.int IntKind.i64 (SB.cmpN (M.V b) (Int.toNat (1000:Int))))),(1,26,.is (.c (.bool false)))]) (sb:=[]) (by kernel_rfl) (hP (isB h0) (hP (isB h1) (hC (cbool (goodr_k (n:=n) (a:=a) (b:=b) (by omega) (by omega)) h2) (hC (nofl_k (n:=(1000000:Int)) (by decide +kernel) (by decide +kernel)) (hC (ncmpr_k (a:=a) (k:=Int.toNat (1000000:Int))) (hP (isB h3) (hC (nofl_k (n:=(1000:Int)) (by decide +kernel) (by decide +kernel)) (hC (ncmpr_k (a:=b) (k:=Int.toNat (1000:Int))) (hP (isB h4) hN)))))))))
theorem small6 {n:Bool} {a b:ByteArray} {K:Nat} (ha:a.size ≤ K) (hb:b.size ≤ K) (k1:K ≤ 1000000000) (h0:decide ((↑(ByteArray.size a):Int) ≤ (3:Int)) = true) (h1:decide ((↑(ByteArray.size b):Int) ≤ (2:Int)) = true) (h2:gd n a b = true) (h3:decide (SB.cmpN (M.V a) (Int.toNat (1000000:Int)) ≤ (0:Int)) = true) (h4:decide (SB.cmpN (M.V b) (Int.toNat (1000:Int)) ≤ (0:Int)) = true):CSpec Tryd.prog 102 #[(rv n a b)] (.bool true):=by
  exact fn_ok Tryd.func102 (sc:=[(1,3,.is (.c (.bool true))),(1,8,.is (.c (.bool true))),(1,12,.fix (.bool true)),(1,17,.fix (.string (M.B (Int.toNat (1000000:Int))))),(1,18,.fix (.int IntKind.i64 (SB.cmpN (M.V a) (Int.toNat (1000000:Int))))),(1,19,.is (.c (.bool true))),(1,24,.fix (.string (M.B (Int.toNat (1000:Int))))),(1,25,.fix (.int IntKind.i64 (SB.cmpN (M.V b) (Int.toNat (1000:Int))))),(1,26,.is (.c (.bool true)))]) (sb:=[]) (by kernel_rfl) (hP (isB h0) (hP (isB h1) (hC (cbool (goodr_k (n:=n) (a:=a) (b:=b) (by omega) (by omega)) h2) (hC (nofl_k (n:=(1000000:Int)) (by decide +kernel) (by decide +kernel)) (hC (ncmpr_k (a:=a) (k:=Int.toNat (1000000:Int))) (hP (isB h3) (hC (nofl_k (n:=(1000:Int)) (by decide +kernel) (by decide +kernel)) (hC (ncmpr_k (a:=b) (k:=Int.toNat (1000:Int))) (hP (isB h4) hN)))))))))
def flN (s:Bool) (k d:Nat):Nat:=if s = true ∧ k % d ≠ 0 then k / d + 1 else k / d
theorem fln_s {s:Bool} {k d K:Nat} (h:SzN k K):SzN (flN s k d) (K + 1):=by
  have h1:=divn_s (l:=d) h
  have h2:=add1n_s h1
  unfold flN
  split
  · exact h2
  unfold SzN at *
  omega
theorem flN_sgn (s:Bool) (k:Nat) {d:Nat} (hd:d ≠ 0):sgn s (flN s k d) = sgn s k / (d:Int):=by
  unfold flN
  cases s with
  | false=>simp [sgn]
  | true =>
    have hd':(0:Int) < d:=by omega
    simp only [sgn,if_true,true_and]
    rw [Int.neg_ediv]
    by_cases h2:k % d = 0
    · rw [if_neg (fun h=>h h2),if_pos (Int.natCast_dvd_natCast.2 (Nat.dvd_of_mod_eq_zero h2))]
      simp
    rw [if_pos h2,if_neg (fun hh=>h2 (Nat.mod_eq_zero_of_dvd (Int.natCast_dvd_natCast.1 hh))),Int.sign_eq_one_of_pos hd']
    simp
    omega
theorem fl_mk (m:Int) {e:Nat} (h:e ≠ 0):fl (mkRat m e) = m / (e:Int):=by
  unfold fl
  rw [← Rat.normalize_eq_mkRat h,Rat.num_normalize,Rat.den_normalize]
  have hg:0 < Nat.gcd m.natAbs e:=Nat.gcd_pos_of_pos_right _ (by omega)
  have h1:((Nat.gcd m.natAbs e:Nat):Int) ∣ m:=Int.ofNat_dvd_left.2 (Nat.gcd_dvd_left _ _)
  have h2:Nat.gcd m.natAbs e ∣ e:=Nat.gcd_dvd_right _ _
  generalize Nat.gcd m.natAbs e = g at *
  obtain ⟨m',rfl⟩:=h1
  obtain ⟨e',rfl⟩:=h2
  have hg':(0:Int) < g:=by omega
  rw [Int.mul_ediv_cancel_left _ (by omega),Nat.mul_div_cancel_left _ hg,Int.natCast_mul,Int.mul_ediv_mul_of_pos _ _ hg']
theorem flN_abs (x:Rat):flN (decide (x.num < 0)) x.num.natAbs x.den = (fl x).natAbs:=by
  have:=flN_sgn (decide (x.num < 0)) x.num.natAbs x.den_nz
  rw [sgn_num] at this
  unfold fl
  rw [← this,sgn_abs]
theorem flN_fl (x:Rat):sgn (decide (x.num < 0)) (flN (decide (x.num < 0)) x.num.natAbs x.den) = fl x:=by
  rw [flN_sgn _ _ x.den_nz,sgn_num]
  rfl
theorem qfloor_k {s:Bool} {k d K D:Nat} (h1':SzN k K) (h2':SzN d D) (k1:K + D ≤ 2000000000) (hd:NZ d):CSpec Tryd.prog 96 #[rv s (M.B k) (M.B d)] (rv s (M.B (flN s k d)) (M.B 1)):=by
  rw [B_one1]
  unfold flN
  cases s with
  | false =>
    rw [if_neg (fun h=>by cases h.1)]
    exact qfl1 h1' h2' k1 hd rfl
  | true =>
    by_cases h:k % d = 0
    · rw [if_neg (fun g=>g.2 h)]
      exact qfl2 h1' h2' k1 hd rfl (by rw [str_neq]; exact decide_eq_false (fun g=>g (B_nil h)))
    rw [if_pos ⟨rfl,h⟩]
    exact qfl3 h1' h2' k1 hd rfl (by rw [str_neq]; exact decide_eq_true (B_ne h))
def FlOk (x:Rat):Prop:=(fl x).natAbs ≤ 9223372036854775807
section
variable {n:Bool} {a b:ByteArray} {x:Rat} {K:Nat}
theorem floora_k (h:IsR n a b x K) (k1:K ≤ 1000000000) (hs:FlOk x):CSpec Tryd.prog 95 #[rv n a b] (.tuple #[.int .i64 (fl x),.int .i64 0]):=by
  unfold FlOk at hs
  have hs':(Rat.num (↑(fl x):Rat)).natAbs ≤ 9223372036854775807:=by rw [Rat.num_intCast]; exact hs
  by_cases g:fl x < 0
  · have:=floor1 h k1 hs' (by rw [Rat.num_intCast]; exact decide_eq_true g)
    rw [Rat.num_intCast] at this
    have e:IntKind.wrap .i64 ((0:Int) - ((fl x).natAbs:Int)) = fl x:=by
      simp [IntKind.wrap,IntKind.signed,IntKind.bits]
      omega
    rwa [e] at this
  have:=floor2 h k1 hs' (by rw [Rat.num_intCast]; exact decide_eq_false g)
  rw [Rat.num_intCast] at this
  have e:((fl x).natAbs:Int) = fl x:=by omega
  rwa [e] at this
theorem floorb_k (h:IsR n a b x K) (k1:K ≤ 1000000000) (hs:¬ FlOk x):CSpec Tryd.prog 95 #[rv n a b] (.tuple #[.int .i64 0,.int .i64 2]):=by
  have hs':¬ (Rat.num (↑(fl x):Rat)).natAbs ≤ 9223372036854775807:=by rw [Rat.num_intCast]; exact hs
  by_cases g:fl x < 0
  · exact floor3 h k1 hs' (by rw [Rat.num_intCast]; exact decide_eq_true g)
  exact floor4 h k1 hs' (by rw [Rat.num_intCast]; exact decide_eq_false g)
theorem whfl_k (hs:FlOk x):CSpec Tryd.prog 93 #[.int .i64 (fl x)] (rv (decide (fl x < 0)) (M.B (fl x).natAbs) (M.B 1)):=by
  unfold FlOk at hs
  exact whole_q (by omega) (by omega)
theorem flabs_s (h:Sz x K):SzN (fl x).natAbs (K + 1):=by
  have:=szfl_s h
  unfold SzI Sz at this
  rw [Rat.num_intCast] at this
  exact this.1
noncomputable def smB (n:Bool) (a b:ByteArray):Bool:=gd n a b && (decide (M.V a ≤ 1000000) && decide (M.V b ≤ 1000))
open Classical in
theorem gd_of {n:Bool} {a b:ByteArray} (h:gd n a b = true):Can n a b:=by
  unfold gd at h
  exact of_decide_eq_true h
theorem cmpN_le {a b:Nat}:decide (SB.cmpN a b ≤ 0) = decide (a ≤ b):=by
  refine decide_eq_decide.2 ?_
  unfold SB.cmpN
  (repeat' split) <;> omega
theorem small_k (h:IsR n a b x K) (k1:K ≤ 1000000000):CSpec Tryd.prog 102 #[rv n a b] (.bool (smB n a b)):=by
  have ha:=h.sa
  have hb:=h.sb
  unfold smB
  by_cases sa:a.size ≤ 3
  case neg =>
    have g0:decide ((a.size:Int) ≤ 3) = false:=decide_eq_false (by omega)
    refine cbool (small1 ha hb k1 g0) ?_
    cases hg:gd n a b
    · rfl
    have hc:=gd_of hg
    have:¬ M.V a ≤ 1000000:=fun p=>sa (by rw [← hc.la]; exact M.size_B_le (Nat.lt_of_le_of_lt p (by decide)))
    rw [decide_eq_false this]
    rfl
  have g0:decide ((a.size:Int) ≤ 3) = true:=decide_eq_true (by omega)
  by_cases sb:b.size ≤ 2
  case neg =>
    have g1:decide ((b.size:Int) ≤ 2) = false:=decide_eq_false (by omega)
    refine cbool (small2 ha hb k1 g0 g1) ?_
    cases hg:gd n a b
    · rfl
    have hc:=gd_of hg
    have:¬ M.V b ≤ 1000:=fun p=>sb (by rw [← hc.lb]; exact M.size_B_le (Nat.lt_of_le_of_lt p (by decide)))
    rw [decide_eq_false this,Bool.and_false]
    rfl
  have g1:decide ((b.size:Int) ≤ 2) = true:=decide_eq_true (by omega)
  cases hg:gd n a b with
  | false=>exact small3 ha hb k1 g0 g1 hg
  | true =>
    by_cases p:M.V a ≤ 1000000
    · have g3:decide (SB.cmpN (M.V a) (Int.toNat 1000000) ≤ 0) = true:=by rw [cmpN_le]; exact decide_eq_true p
      rw [decide_eq_true p]
      by_cases q:M.V b ≤ 1000
      · rw [decide_eq_true q]
        exact small6 ha hb k1 g0 g1 hg g3 (by rw [cmpN_le]; exact decide_eq_true q)
      rw [decide_eq_false q]
      exact small5 ha hb k1 g0 g1 hg g3 (by rw [cmpN_le]; exact decide_eq_false q)
    rw [decide_eq_false p]
    exact small4 ha hb k1 g0 g1 hg (by rw [cmpN_le]; exact decide_eq_false p)
end
theorem rcmax_k {k K:Nat} (h:SzN k K) (k1:K ≤ 3000000000):CSpec Tryd.prog 97 #[.string (M.B k),.string ⟨#[127,255,255,255,255,255,255,255]⟩] (.int .i64 (SB.cmpN k 9223372036854775807)):=by
  have:=rcomp_k (l:=9223372036854775807) (L:=8) h (by unfold SzN; decide) (by omega)
  rwa [← SB.B_max] at this
theorem rcompr_k {a:ByteArray} {k L:Nat} (ha:a.size ≤ 2000000000) (h2:SzN k L) (hs:L ≤ 2000000000):CSpec Tryd.prog 97 #[.string a,.string (M.B k)] (.int .i64 (SB.cmpN (M.V a) k)):=fun w _=>by
  obtain ⟨i,hi⟩:=ev_some (SB.compare_spec a (M.B k) (by omega) (by have:=h2.size; omega))
  rw [M.V_B] at hi
  exact gantref1_Compare.calls i _ _ _ w hi
theorem c6_s:SzN (Int.toNat 1000000) 8:=by unfold SzN; decide
theorem c3_s:SzN (Int.toNat 1000) 8:=by unfold SzN; decide
theorem whmax_k {n:Int} (h:n ≤ 9223372036854775807):CSpec Tryd.prog 93 #[.int .i64 (if n > (1:Int) then n else (1:Int))] (rv false (M.B (if (1:Int) > n then (1:Int) else n).toNat) (M.B 1)):=by
  have h1:=m1_1 n
  have h2:=m1_2 h
  have e:(if n > (1:Int) then n else (1:Int)) = (if (1:Int) > n then (1:Int) else n):=by split <;> split <;> omega
  rw [e]
  clear e
  generalize (if (1:Int) > n then (1:Int) else n) = m at *
  have:=whole_q (n:=m) (by omega) h2
  rw [decide_eq_false (by omega),show m.natAbs = m.toNat by omega] at this
  exact this
theorem nzd_s {n:Int}:NZ (if (1:Int) > n then (1:Int) else n).toNat:=by
  have:=m1_1 n
  unfold NZ
  omega
end Go.Proofs.YtikepohhmagdpaaDoor.G
end
section
namespace Go.Proofs.YtikepohhmagdpaaDoor.G
open Go.Proofs.YtikepohhmagdpaaDoor.U Go.RowKit
set_option linter.unusedVariables false
set_option maxRecDepth 100000
noncomputable def ratFloors_w_sc (n1:Bool) (a1 b1:ByteArray) (x:Rat) (K:Nat) (n:Int):Script:=[(1,0,.fix (.bool true)),(3,1,.fix (Rv x)),(5,1,.fix (ag [[.bool (decide (Rat.num x < (0:Int)))],[.string (M.B (flN (decide (Rat.num x < (0:Int))) (Int.natAbs (Rat.num x)) (Rat.den x)))],[.string (M.B (1:Nat))]])),(6,2,.fix (.int IntKind.i64 (SB.cmpN (flN (decide (Rat.num x < (0:Int))) (Int.natAbs (Rat.num x)) (Rat.den x)) (9223372036854775807:Nat)))),(9,4,.fix (ag [[.bool (decide (fl x < (0:Int)))],[.string (M.B (Int.natAbs (fl x)))],[.string (M.B (1:Nat))]])),(9,6,.fix (.int IntKind.i64 (cmpI (sgn (decide (fl x < (0:Int))) (Int.natAbs (fl x)) * (1:Int)) (sgn (decide (Rat.num x < (0:Int))) (flN (decide (Rat.num x < (0:Int))) (Int.natAbs (Rat.num x)) (Rat.den x)) * (1:Int))))),(11,2,.fix (ag [[.bool false],[.string (M.B (Int.toNat (if (1:Int) > n then (1:Int) else n)))],[.string (M.B (1:Nat))]])),(12,2,.fix (ag [[.bool (decide (Rat.num x < (0:Int)) != false)],[.string (M.B (Int.natAbs (Rat.num x) * Int.toNat (if (1:Int) > n then (1:Int) else n)))],[.string (M.B (Rat.den x * (1:Nat)))]])),(12,3,.fix (ag [[.bool (decide (Rat.num x < (0:Int)) != false)],[.string (M.B (flN (decide (Rat.num x < (0:Int)) != false) (Int.natAbs (Rat.num x) * Int.toNat (if (1:Int) > n then (1:Int) else n)) (Rat.den x * (1:Nat))))],[.string (M.B (1:Nat))]])),(13,1,.fix (ag [[.bool (!decide (Rat.num x < (0:Int)))],[.string (M.B (Int.natAbs (Rat.num x)))],[.string (M.B (Rat.den x))]])),(13,3,.fix (ag [[.bool ((!decide (Rat.num x < (0:Int))) != false)],[.string (M.B (Int.natAbs (Rat.num x) * Int.toNat (if (1:Int) > n then (1:Int) else n)))],[.string (M.B (Rat.den x * (1:Nat)))]])),(13,4,.fix (ag [[.bool ((!decide (Rat.num x < (0:Int))) != false)],[.string (M.B (flN ((!decide (Rat.num x < (0:Int))) != false) (Int.natAbs (Rat.num x) * Int.toNat (if (1:Int) > n then (1:Int) else n)) (Rat.den x * (1:Nat))))],[.string (M.B (1:Nat))]])),(13,5,.fix (ag [[.bool (!(!decide (Rat.num x < (0:Int))) != false)],[.string (M.B (flN ((!decide (Rat.num x < (0:Int))) != false) (Int.natAbs (Rat.num x) * Int.toNat (if (1:Int) > n then (1:Int) else n)) (Rat.den x * (1:Nat))))],[.string (M.B (1:Nat))]])),(14,5,.fix (.string (M.B (Int.toNat (1000000:Int))))),(14,6,.fix (.int IntKind.i64 (SB.cmpN (M.V a1) (Int.toNat (1000000:Int))))),(14,12,.fix (.string (M.B (Int.toNat (1000:Int))))),(14,13,.fix (.int IntKind.i64 (SB.cmpN (M.V b1) (Int.toNat (1000:Int))))),(15,9,.fix (Rv (dn x n))),(15,10,.fix (.bool true)),(15,21,.fix (Rv (-dn (-x) n))),(15,22,.fix (.bool true)),(15,26,.fix (.bool (smB n1 a1 b1))),(15,28,.is (.c (.bool true)))]
theorem ratFloors_w {n1:Bool} {a1 b1:ByteArray} {x:Rat} {K:Nat} {n:Int} (h1':IsR n1 a1 b1 x K) (k1:K ≤ 2000000) (ha:a1.size ≤ 2000000) (hb:b1.size ≤ 2000000) (hn:n ≤ 9223372036854775807) (g5:mkRat (sgn (decide (Rat.num x < (0:Int)) != false) (flN (decide (Rat.num x < (0:Int)) != false) (Int.natAbs (Rat.num x) * Int.toNat (if (1:Int) > n then (1:Int) else n)) (Rat.den x * (1:Nat)))) (Int.toNat (if (1:Int) > n then (1:Int) else n)) = dn x n) (g6:mkRat (sgn (!(!decide (Rat.num x < (0:Int))) != false) (flN ((!decide (Rat.num x < (0:Int))) != false) (Int.natAbs (Rat.num x) * Int.toNat (if (1:Int) > n then (1:Int) else n)) (Rat.den x * (1:Nat)))) (Int.toNat (if (1:Int) > n then (1:Int) else n)) = -dn (-x) n):((FlOk x) → (decide ((0:Int) < SB.cmpN (flN (decide (Rat.num x < (0:Int))) (Int.natAbs (Rat.num x)) (Rat.den x)) (9223372036854775807:Nat)) = false) → ((!decide (cmpI (sgn (decide (fl x < (0:Int))) (Int.natAbs (fl x)) * (1:Int)) (sgn (decide (Rat.num x < (0:Int))) (flN (decide (Rat.num x < (0:Int))) (Int.natAbs (Rat.num x)) (Rat.den x)) * (1:Int)) = (0:Int))) = false) → (gd n1 a1 b1 = true) → (decide (SB.cmpN (M.V a1) (Int.toNat (1000000:Int)) ≤ (0:Int)) = true) → ((smB n1 a1 b1 == decide (SB.cmpN (M.V b1) (Int.toNat (1000:Int)) ≤ (0:Int))) = true) → CSpec Tryd.prog 13 #[(rv n1 a1 b1),(.int .i64 n)] (.bool true)) ∧ ((FlOk x) → (decide ((0:Int) < SB.cmpN (flN (decide (Rat.num x < (0:Int))) (Int.natAbs (Rat.num x)) (Rat.den x)) (9223372036854775807:Nat)) = false) → ((!decide (cmpI (sgn (decide (fl x < (0:Int))) (Int.natAbs (fl x)) * (1:Int)) (sgn (decide (Rat.num x < (0:Int))) (flN (decide (Rat.num x < (0:Int))) (Int.natAbs (Rat.num x)) (Rat.den x)) * (1:Int)) = (0:Int))) = false) → (gd n1 a1 b1 = true) → (decide (SB.cmpN (M.V a1) (Int.toNat (1000000:Int)) ≤ (0:Int)) = false) → ((smB n1 a1 b1 == false) = true) → CSpec Tryd.prog 13 #[(rv n1 a1 b1),(.int .i64 n)] (.bool true)) ∧ ((FlOk x) → (decide ((0:Int) < SB.cmpN (flN (decide (Rat.num x < (0:Int))) (Int.natAbs (Rat.num x)) (Rat.den x)) (9223372036854775807:Nat)) = false) → ((!decide (cmpI (sgn (decide (fl x < (0:Int))) (Int.natAbs (fl x)) * (1:Int)) (sgn (decide (Rat.num x < (0:Int))) (flN (decide (Rat.num x < (0:Int))) (Int.natAbs (Rat.num x)) (Rat.den x)) * (1:Int)) = (0:Int))) = false) → (gd n1 a1 b1 = false) → ((smB n1 a1 b1 == false) = true) → CSpec Tryd.prog 13 #[(rv n1 a1 b1),(.int .i64 n)] (.bool true)) ∧ ((¬FlOk x) → (decide ((0:Int) < SB.cmpN (flN (decide (Rat.num x < (0:Int))) (Int.natAbs (Rat.num x)) (Rat.den x)) (9223372036854775807:Nat)) = true) → (gd n1 a1 b1 = true) → (decide (SB.cmpN (M.V a1) (Int.toNat (1000000:Int)) ≤ (0:Int)) = true) → ((smB n1 a1 b1 == decide (SB.cmpN (M.V b1) (Int.toNat (1000:Int)) ≤ (0:Int))) = true) → CSpec Tryd.prog 13 #[(rv n1 a1 b1),(.int .i64 n)] (.bool true)) ∧ ((¬FlOk x) → (decide ((0:Int) < SB.cmpN (flN (decide (Rat.num x < (0:Int))) (Int.natAbs (Rat.num x)) (Rat.den x)) (9223372036854775807:Nat)) = true) → (gd n1 a1 b1 = true) → (decide (SB.cmpN (M.V a1) (Int.toNat (1000000:Int)) ≤ (0:Int)) = false) → ((smB n1 a1 b1 == false) = true) → CSpec Tryd.prog 13 #[(rv n1 a1 b1),(.int .i64 n)] (.bool true)) ∧ ((¬FlOk x) → (decide ((0:Int) < SB.cmpN (flN (decide (Rat.num x < (0:Int))) (Int.natAbs (Rat.num x)) (Rat.den x)) (9223372036854775807:Nat)) = true) → (gd n1 a1 b1 = false) → ((smB n1 a1 b1 == false) = true) → CSpec Tryd.prog 13 #[(rv n1 a1 b1),(.int .i64 n)] (.bool true)):=by
  have w0:=(num_s (szr h1'))
  have w1:=(den_s (szr h1'))
  have w2:=(nzden_s (x:=x))
  have w3:=(fln_s (s:=decide (Rat.num x < (0:Int))) (d:=Rat.den x) w0)
  have w4:=(flabs_s (szr h1'))
  have w5:=one_s
  have w6:=(szd_s hn)
  have w7:=(muln_s w0 w6)
  have w8:=(muln_s w1 w5)
  have w9:=nz1_s
  have w10:=(nzmul_s w2 w9)
  have w11:=(fln_s (s:=(!decide (Rat.num x < (0:Int))) != false) (d:=Rat.den x * (1:Nat)) w7)
  have w12:=c6_s
  have w13:=c3_s
  have w14:=(fln_s (s:=decide (Rat.num x < (0:Int)) != false) (d:=Rat.den x * (1:Nat)) w7)
  have w15:=(nzd_s (n:=n))
  have e0:=fun (r:List Ob) (t:Holds Tryd.prog r)=>(hC (whmax_k hn) (hC (qmul_k (s:=decide (Rat.num x < (0:Int))) (t:=false) w0 w1 w6 w5 (by omega)) (hC (qfloor_k (s:=decide (Rat.num x < (0:Int)) != false) w7 w8 (by omega) w10) (hC (qneg_k (s:=decide (Rat.num x < (0:Int))) w0 w1 (by omega)) (hC (qmul_k (s:=!decide (Rat.num x < (0:Int))) (t:=false) w0 w1 w6 w5 (by omega)) (hC (qfloor_k (s:=(!decide (Rat.num x < (0:Int))) != false) w7 w8 (by omega) w10) (hC (qneg_k (s:=(!decide (Rat.num x < (0:Int))) != false) w11 w5 (by omega)) t)))))))
  have e1:=fun (r:List Ob) (t:Holds Tryd.prog r)=>(hC (down_k h1' (by omega) hn) (hC (is_k w14 w6 (by omega) w15 g5) (hC (up_k h1' (by omega) hn) (hC (is_k w11 w6 (by omega) w15 g6) (hC (small_k h1' (by omega)) t)))))
  refine ⟨?_,?_,?_,?_,?_,?_⟩
  · intro g0 g1 g2 g3 g4 g7
    exact fn_ok Tryd.func13 (sc:=[(4,1,.fix (.tuple #[.int IntKind.i64 (fl x),.int IntKind.i64 (0:Int)])),(6,3,.is (.c (.bool false))),(9,7,.is (.c (.bool false))),(14,1,.fix (.bool true)),(14,7,.is (.c (.bool true)))] ++ ratFloors_w_sc n1 a1 b1 x K n) (sb:=[]) (by kernel_rfl) (hC ratBegun_k (hC (qof_k h1' (by omega)) (hC (floora_k h1' (by omega) g0) (hC (qfloor_k (s:=decide (Rat.num x < (0:Int))) w0 w1 (by omega) w2) (hC (rcmax_k w3 (by omega)) (hP (isB g1) (hC (whfl_k g0) (hC (qcmp_k (s:=decide (fl x < (0:Int))) (t:=decide (Rat.num x < (0:Int))) w4 w5 w3 w5 (by omega)) (hP (isB g2) (e0 _ (hC (cbool (fine_k h1' (by omega)) g3) (hC (rsmall_k (n:=(1000000:Int)) (by decide +kernel) (by decide +kernel)) (hC (rcompr_k (a:=a1) (by omega) w12 (by decide +kernel)) (hP (isB g4) (hC (rsmall_k (n:=(1000:Int)) (by decide +kernel) (by decide +kernel)) (hC (rcompr_k (a:=b1) (by omega) w13 (by decide +kernel)) (e1 _ (hP (isB g7) hN))))))))))))))))))
  · intro g0 g1 g2 g3 g8 g9
    exact fn_ok Tryd.func13 (sc:=[(4,1,.fix (.tuple #[.int IntKind.i64 (fl x),.int IntKind.i64 (0:Int)])),(6,3,.is (.c (.bool false))),(9,7,.is (.c (.bool false))),(14,1,.fix (.bool true)),(14,7,.is (.c (.bool false)))] ++ ratFloors_w_sc n1 a1 b1 x K n) (sb:=[]) (by kernel_rfl) (hC ratBegun_k (hC (qof_k h1' (by omega)) (hC (floora_k h1' (by omega) g0) (hC (qfloor_k (s:=decide (Rat.num x < (0:Int))) w0 w1 (by omega) w2) (hC (rcmax_k w3 (by omega)) (hP (isB g1) (hC (whfl_k g0) (hC (qcmp_k (s:=decide (fl x < (0:Int))) (t:=decide (Rat.num x < (0:Int))) w4 w5 w3 w5 (by omega)) (hP (isB g2) (e0 _ (hC (cbool (fine_k h1' (by omega)) g3) (hC (rsmall_k (n:=(1000000:Int)) (by decide +kernel) (by decide +kernel)) (hC (rcompr_k (a:=a1) (by omega) w12 (by decide +kernel)) (hP (isB g8) (e1 _ (hP (isB g9) hN))))))))))))))))
  · intro g0 g1 g2 g10 g9
    exact fn_ok Tryd.func13 (sc:=[(4,1,.fix (.tuple #[.int IntKind.i64 (fl x),.int IntKind.i64 (0:Int)])),(6,3,.is (.c (.bool false))),(9,7,.is (.c (.bool false))),(14,1,.fix (.bool false))] ++ ratFloors_w_sc n1 a1 b1 x K n) (sb:=[]) (by kernel_rfl) (hC ratBegun_k (hC (qof_k h1' (by omega)) (hC (floora_k h1' (by omega) g0) (hC (qfloor_k (s:=decide (Rat.num x < (0:Int))) w0 w1 (by omega) w2) (hC (rcmax_k w3 (by omega)) (hP (isB g1) (hC (whfl_k g0) (hC (qcmp_k (s:=decide (fl x < (0:Int))) (t:=decide (Rat.num x < (0:Int))) w4 w5 w3 w5 (by omega)) (hP (isB g2) (e0 _ (hC (cbool (fine_k h1' (by omega)) g10) (e1 _ (hP (isB g9) hN)))))))))))))
  · intro g11 g12 g3 g4 g7
    exact fn_ok Tryd.func13 (sc:=[(4,1,.fix (.tuple #[.int IntKind.i64 (0:Int),.int IntKind.i64 (2:Int)])),(6,3,.is (.c (.bool true))),(14,1,.fix (.bool true)),(14,7,.is (.c (.bool true)))] ++ ratFloors_w_sc n1 a1 b1 x K n) (sb:=[]) (by kernel_rfl) (hC ratBegun_k (hC (qof_k h1' (by omega)) (hC (floorb_k h1' (by omega) g11) (hC (qfloor_k (s:=decide (Rat.num x < (0:Int))) w0 w1 (by omega) w2) (hC (rcmax_k w3 (by omega)) (hP (isB g12) (e0 _ (hC (cbool (fine_k h1' (by omega)) g3) (hC (rsmall_k (n:=(1000000:Int)) (by decide +kernel) (by decide +kernel)) (hC (rcompr_k (a:=a1) (by omega) w12 (by decide +kernel)) (hP (isB g4) (hC (rsmall_k (n:=(1000:Int)) (by decide +kernel) (by decide +kernel)) (hC (rcompr_k (a:=b1) (by omega) w13 (by decide +kernel)) (e1 _ (hP (isB g7) hN)))))))))))))))
  · intro g11 g12 g3 g8 g9
    exact fn_ok Tryd.func13 (sc:=[(4,1,.fix (.tuple #[.int IntKind.i64 (0:Int),.int IntKind.i64 (2:Int)])),(6,3,.is (.c (.bool true))),(14,1,.fix (.bool true)),(14,7,.is (.c (.bool false)))] ++ ratFloors_w_sc n1 a1 b1 x K n) (sb:=[]) (by kernel_rfl) (hC ratBegun_k (hC (qof_k h1' (by omega)) (hC (floorb_k h1' (by omega) g11) (hC (qfloor_k (s:=decide (Rat.num x < (0:Int))) w0 w1 (by omega) w2) (hC (rcmax_k w3 (by omega)) (hP (isB g12) (e0 _ (hC (cbool (fine_k h1' (by omega)) g3) (hC (rsmall_k (n:=(1000000:Int)) (by decide +kernel) (by decide +kernel)) (hC (rcompr_k (a:=a1) (by omega) w12 (by decide +kernel)) (hP (isB g8) (e1 _ (hP (isB g9) hN)))))))))))))
  intro g11 g12 g10 g9
  exact fn_ok Tryd.func13 (sc:=[(4,1,.fix (.tuple #[.int IntKind.i64 (0:Int),.int IntKind.i64 (2:Int)])),(6,3,.is (.c (.bool true))),(14,1,.fix (.bool false))] ++ ratFloors_w_sc n1 a1 b1 x K n) (sb:=[]) (by kernel_rfl) (hC ratBegun_k (hC (qof_k h1' (by omega)) (hC (floorb_k h1' (by omega) g11) (hC (qfloor_k (s:=decide (Rat.num x < (0:Int))) w0 w1 (by omega) w2) (hC (rcmax_k w3 (by omega)) (hP (isB g12) (e0 _ (hC (cbool (fine_k h1' (by omega)) g10) (e1 _ (hP (isB g9) hN))))))))))
section
variable {x:Rat} {n:Int}
theorem dn_mk:mkRat (sgn (decide (Rat.num x < 0) != false) (flN (decide (Rat.num x < 0) != false) (Int.natAbs (Rat.num x) * Int.toNat (if (1:Int) > n then (1:Int) else n)) (Rat.den x * 1))) (Int.toNat (if (1:Int) > n then (1:Int) else n)) = dn x n:=by
  unfold dn
  generalize Int.toNat (if (1:Int) > n then (1:Int) else n) = D
  have hd:x.den * 1 ≠ 0:=by rw [Nat.mul_one]; exact x.den_nz
  rw [flN_sgn _ _ hd]
  congr 1
  rw [Rat.mul_def',Rat.num_natCast,Rat.den_natCast,fl_mk _ hd,sgn_mul,sgn_num]
  rfl
theorem up_mk:mkRat (sgn (!(!decide (Rat.num x < 0)) != false) (flN ((!decide (Rat.num x < 0)) != false) (Int.natAbs (Rat.num x) * Int.toNat (if (1:Int) > n then (1:Int) else n)) (Rat.den x * 1))) (Int.toNat (if (1:Int) > n then (1:Int) else n)) = -dn (-x) n:=by
  unfold dn
  generalize Int.toNat (if (1:Int) > n then (1:Int) else n) = D
  have hd:x.den * 1 ≠ 0:=by rw [Nat.mul_one]; exact x.den_nz
  rw [sgn_not,flN_sgn _ _ hd,← Rat.neg_mkRat]
  congr 2
  rw [Rat.mul_def',Rat.num_natCast,Rat.den_natCast,Rat.neg_den,fl_mk _ hd,sgn_mul,sgn_not,sgn_num,Rat.neg_num]
  rfl
theorem cmpN_gt {a b:Nat}:decide (0 < SB.cmpN a b) = decide (b < a):=by
  refine decide_eq_decide.2 ?_
  unfold SB.cmpN
  (repeat' split) <;> omega
theorem sgn_int (m:Int):sgn (decide (m < 0)) m.natAbs = m:=by
  unfold sgn
  by_cases h:m < 0
  · rw [decide_eq_true h,if_pos rfl]; omega
  rw [decide_eq_false h]; simp; omega
theorem qc_self:(!decide (cmpI (sgn (decide (fl x < 0)) (Int.natAbs (fl x)) * (1:Int)) (sgn (decide (Rat.num x < 0)) (flN (decide (Rat.num x < 0)) (Int.natAbs (Rat.num x)) (Rat.den x)) * (1:Int)) = 0)) = false:=by
  rw [flN_fl,sgn_int]
  unfold cmpI
  simp
end
theorem ratFloors_law (n1:Bool) (a1 b1:ByteArray) (n:Int) (s1:a1.size ≤ 1048576) (t1:b1.size ≤ 1048576) (hn:(-9223372036854775808:Int) ≤ n ∧ n ≤ 9223372036854775807):CSpec Tryd.prog 13 #[ag [rr n1 a1 b1],.int .i64 n] (.bool true):=by
  have i1:=IsR.raw n1 a1 b1 s1 t1 (by decide)
  generalize qv n1 a1 b1 = x at *
  obtain ⟨c0,c1,c2,c3,c4,c5⟩:=ratFloors_w i1 (by decide) (by omega) (by omega) hn.2 dn_mk up_mk
  have p1:∀ q,decide (SB.cmpN (M.V a1) (Int.toNat 1000000) ≤ 0) = q → decide (M.V a1 ≤ 1000000) = q:=fun q h=>by rw [cmpN_le] at h; exact h
  have p2:decide (SB.cmpN (M.V b1) (Int.toNat 1000) ≤ 0) = decide (M.V b1 ≤ 1000):=cmpN_le
  have kA:gd n1 a1 b1 = true → decide (SB.cmpN (M.V a1) (Int.toNat 1000000) ≤ 0) = true → (smB n1 a1 b1 == decide (SB.cmpN (M.V b1) (Int.toNat 1000) ≤ 0)) = true:=fun h g=>by
    rw [p2]
    unfold smB
    rw [h,p1 _ g]
    simp
  have kB:decide (SB.cmpN (M.V a1) (Int.toNat 1000000) ≤ 0) = false → (smB n1 a1 b1 == false) = true:=fun g=>by
    unfold smB
    rw [p1 _ g]
    simp
  have kC:gd n1 a1 b1 = false → (smB n1 a1 b1 == false) = true:=fun h=>by
    unfold smB
    rw [h]
    rfl
  have fN:=flN_abs x
  by_cases hf:FlOk x
  · have m1 : decide (0 < SB.cmpN (flN (decide (Rat.num x < 0)) (Int.natAbs (Rat.num x)) (Rat.den x)) 9223372036854775807) = false := by
      rw [cmpN_gt,fN]
      unfold FlOk at hf
      exact decide_eq_false (by omega)
    cases h:gd n1 a1 b1 with
    | false=>exact c2 hf m1 qc_self h (kC h)
    | true =>
      cases g:decide (SB.cmpN (M.V a1) (Int.toNat 1000000) ≤ 0) with
      | false=>exact c1 hf m1 qc_self h g (kB g)
      | true=>exact c0 hf m1 qc_self h g (kA h g)
  have m1:decide (0 < SB.cmpN (flN (decide (Rat.num x < 0)) (Int.natAbs (Rat.num x)) (Rat.den x)) 9223372036854775807) = true:=by
    rw [cmpN_gt,fN]
    unfold FlOk at hf
    exact decide_eq_true (by omega)
  cases h:gd n1 a1 b1 with
  | false=>exact c5 hf m1 h (kC h)
  | true =>
    cases g:decide (SB.cmpN (M.V a1) (Int.toNat 1000000) ≤ 0) with
    | false=>exact c4 hf m1 h g (kB g)
    | true=>exact c3 hf m1 h g (kA h g)
end Go.Proofs.YtikepohhmagdpaaDoor.G
end
