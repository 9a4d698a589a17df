import Derived.Test.YtkpeembfagcpcaaDoorYKA
namespace Go.Proofs.YtkpeembfagcpcaaDoor.G
open Go.Proofs.YtkpeembfagcpcaaDoor.U Go.RowKit
set_option linter.unusedVariables false
set_option maxRecDepth 100000
def SzN (m K:Nat):Prop:=m < 256^K
theorem szq_s {x:Rat} {K:Nat} (h:Sz x K):SzN (x.num.natAbs/x.den) K:=Nat.lt_of_le_of_lt (Nat.div_le_self _ _) h.1
theorem szq1_s {x:Rat} {K:Nat} (h:Sz x K):SzN (x.num.natAbs/x.den+1) (K+1):=by
  have h1:=szq_s h
  unfold SzN at *
  have:256^K*256=256^(K+1):=(Nat.pow_succ ..).symm
  have:0 < 256^K:=Nat.pow_pos (by decide)
  omega
theorem ndivx_k {x:Rat} {K:Nat} (h:Sz x K) (hK:K≤17179869184):CSpec Tryd.prog 131 #[.string (M.B x.num.natAbs),.string (M.B x.den)] (.tuple #[.string (M.B (x.num.natAbs/x.den)),.string (M.B (x.num.natAbs%x.den)),.int .i64 0]):=by
  have:=div_c (M.B x.num.natAbs) (M.B x.den) (Nat.le_trans h.num (by omega)) (Nat.le_trans h.den (by omega)) (by rw [M.V_B]; exact x.den_nz)
  rwa [M.V_B,M.V_B] at this
theorem nadd1_k {x:Rat} {K:Nat} (h:Sz x K) (hK:K≤17179869184):CSpec Tryd.prog 121 #[.string (M.B (x.num.natAbs/x.den)),.string ⟨#[1]⟩] (.string (M.B (x.num.natAbs/x.den+1))):=by
  have:=add_c (M.B (x.num.natAbs/x.den)) (M.B 1) (Nat.le_trans (M.size_B_le (szq_s h)) (by omega)) (by rw [B_one1]; decide)
  rw [M.V_B,M.V_B] at this
  rw [B_one1] at this
  exact this
theorem made1_k {n:Bool} {m K:Nat} (hm:SzN m K) (hK:K≤17179869184):CSpec Tryd.prog 81 #[.bool n,.string (M.B m),.string ⟨#[1]⟩] (Rv ((sgn n m:Int):Rat)):=by
  have:=made_c n m 1 (by decide) (Nat.le_trans (M.size_B_le hm) (by omega)) (by rw [B_one1]; decide)
  rw [B_one1] at this
  rw [Rat.mkRat_one] at this
  exact this
theorem whole1 {x:Rat} {K:Nat} (h1':Sz x K) (k1:K≤4000000000) (h0:decide (Rat.num x < (0:Int))=false):CSpec Tryd.prog 155 #[(Rv x)] (Rv ((↑(sgn false (Int.natAbs (Rat.num x)/Rat.den x)):Rat))):=by
  have s1:=(szq_s h1')
  exact fn_ok Tryd.func155 (sc:=[(1,4,.fix (.tuple #[.string (M.B (Int.natAbs (Rat.num x)/Rat.den x)),.string (M.B (Int.natAbs (Rat.num x)%Rat.den x)),.int IntKind.i64 (0:Int)])),(2,1,.is (.c (.bool false))),(4,1,.is (.c (.bool false))),(4,3,.fix (Rv ((↑(sgn false (Int.natAbs (Rat.num x)/Rat.den x)):Rat))))]) (sb:=[]) (by kernel_rfl) (hC (ndivx_k h1' (by omega)) (hP (isB h0) (hP (isB h0) (hC (made1_k (n:=false) s1 (by omega)) hN))))
theorem whole2 {x:Rat} {K:Nat} (h1':Sz x K) (k1:K≤4000000000) (h0:decide (Rat.num x < (0:Int))=true) (h1:(!ByteArray.toList (M.B (Int.natAbs (Rat.num x)%Rat.den x))==ByteArray.toList { data:=#[] })=false):CSpec Tryd.prog 155 #[(Rv x)] (Rv ((↑(sgn true (Int.natAbs (Rat.num x)/Rat.den x)):Rat))):=by
  have s2:=(szq_s h1')
  exact fn_ok Tryd.func155 (sc:=[(1,4,.fix (.tuple #[.string (M.B (Int.natAbs (Rat.num x)/Rat.den x)),.string (M.B (Int.natAbs (Rat.num x)%Rat.den x)),.int IntKind.i64 (0:Int)])),(2,1,.is (.c (.bool true))),(2,4,.is (.c (.bool false))),(4,1,.is (.c (.bool true))),(4,3,.fix (Rv ((↑(sgn true (Int.natAbs (Rat.num x)/Rat.den x)):Rat))))]) (sb:=[]) (by kernel_rfl) (hC (ndivx_k h1' (by omega)) (hP (isB h0) (hP (isB h1) (hP (isB h0) (hC (made1_k (n:=true) s2 (by omega)) hN)))))
theorem whole3 {x:Rat} {K:Nat} (h1':Sz x K) (k1:K≤4000000000) (h0:decide (Rat.num x < (0:Int))=true) (h1:(!ByteArray.toList (M.B (Int.natAbs (Rat.num x)%Rat.den x))==ByteArray.toList { data:=#[] })=true):CSpec Tryd.prog 155 #[(Rv x)] (Rv ((↑(sgn true (Int.natAbs (Rat.num x)/Rat.den x+(1:Nat))):Rat))):=by
  have s2:=(szq1_s h1')
  exact fn_ok Tryd.func155 (sc:=[(1,4,.fix (.tuple #[.string (M.B (Int.natAbs (Rat.num x)/Rat.den x)),.string (M.B (Int.natAbs (Rat.num x)%Rat.den x)),.int IntKind.i64 (0:Int)])),(2,1,.is (.c (.bool true))),(2,4,.is (.c (.bool true))),(3,1,.fix (.string (M.B (Int.natAbs (Rat.num x)/Rat.den x+(1:Nat))))),(4,1,.is (.c (.bool true))),(4,3,.fix (Rv ((↑(sgn true (Int.natAbs (Rat.num x)/Rat.den x+(1:Nat))):Rat))))]) (sb:=[]) (by kernel_rfl) (hC (ndivx_k h1' (by omega)) (hP (isB h0) (hP (isB h1) (hC (nadd1_k h1' (by omega)) (hP (isB h0) (hC (made1_k (n:=true) s2 (by omega)) hN))))))
def fl (x:Rat):Int:=x.num/(x.den:Int)
theorem Bn0 {n:Nat}:(!(M.B n).toList==ByteArray.toList { data:=#[] })=decide (n≠0):=by
  by_cases h:n=0
  · have:=str_ne_f (B_nil h)
    rw [decide_eq_false (fun hh=>hh h)]
    injection this with h1
    injection h1
  have:=str_ne_t (B_ne h)
  rw [decide_eq_true h]
  injection this with h1
  injection h1
theorem fl_eq (x:Rat):fl x=if x.num < 0 then (if x.num.natAbs%x.den=0 then sgn true (x.num.natAbs/x.den) else sgn true (x.num.natAbs/x.den+1)) else sgn false (x.num.natAbs/x.den):=by
  unfold fl
  have hd:(0:Int) < x.den:=by have:=x.den_pos; omega
  split
  · rename_i h
    have e:x.num = -(x.num.natAbs:Int):=by omega
    generalize x.num.natAbs=a at *
    rw [e,Int.neg_ediv]
    by_cases h2:a%x.den=0
    · rw [if_pos h2,if_pos (Int.natCast_dvd_natCast.2 (Nat.dvd_of_mod_eq_zero h2))]
      simp [sgn]
    rw [if_neg h2,if_neg (fun hh=>h2 (Nat.mod_eq_zero_of_dvd (Int.natCast_dvd_natCast.1 hh))),Int.sign_eq_one_of_pos hd]
    simp [sgn]
    omega
  rename_i h
  have e:x.num=(x.num.natAbs:Int):=by omega
  generalize x.num.natAbs=a at *
  rw [e]
  simp [sgn]
theorem whole_k {x:Rat} {K:Nat} (h1':Sz x K) (k1:K≤4000000000):CSpec Tryd.prog 155 #[Rv x] (Rv ((fl x:Int):Rat)):=by
  rw [fl_eq]
  by_cases h:x.num < 0
  · rw [if_pos h]
    by_cases h2:x.num.natAbs%x.den=0
    · rw [if_pos h2]
      exact whole2 h1' k1 (decide_eq_true h) (by rw [Bn0]; exact decide_eq_false (fun hh=>hh h2))
    rw [if_neg h2]
    exact whole3 h1' k1 (decide_eq_true h) (by rw [Bn0]; exact decide_eq_true h2)
  rw [if_neg h]
  exact whole1 h1' k1 (decide_eq_false h)
end Go.Proofs.YtkpeembfagcpcaaDoor.G
