import Derived.Test.YtkpeembfagcpcaaDoorYFL
namespace Go.Proofs.YtkpeembfagcpcaaDoor.G
open Go.Proofs.YtkpeembfagcpcaaDoor.U Go.RowKit
set_option linter.unusedVariables false
set_option maxRecDepth 100000
theorem ffit_k {n:Bool} {a b:ByteArray} {x:Rat} {K:Nat} (h:IsR n a b x K) (k1:K≤1000000000):CSpec Tryd.prog 71 #[rv n a b] (Rv x):=h.fit (by omega)
theorem inta_k {k:Nat} (h:k≤9223372036854775807):CSpec Tryd.prog 156 #[.string (M.B k)] (.tuple #[.int .i64 (k:Int),.int .i64 0]):=by
  have:=int_c (M.B k)
  rwa [M.V_B,if_pos h] at this
theorem intb_k {k:Nat} (h:¬ k≤9223372036854775807):CSpec Tryd.prog 156 #[.string (M.B k)] (.tuple #[.int .i64 0,.int .i64 2]):=by
  have:=int_c (M.B k)
  rwa [M.V_B,if_neg h] at this
theorem floor1 {n:Bool} {a b:ByteArray} {x:Rat} {K:Nat} (h:IsR n a b x K) (k1:K≤1000000000) (hs:(Rat.num (↑(fl x):Rat)).natAbs≤9223372036854775807) (h0:decide (Rat.num (↑(fl x):Rat) < (0:Int))=true):CSpec Tryd.prog 114 #[(rv n a b)] (.tuple #[.int .i64 (IntKind.wrap .i64 ((0:Int) - (↑(Int.natAbs (Rat.num (↑(fl x):Rat))):Int))),.int .i64 (0:Int)]):=by
  exact fn_ok Tryd.func114 (sc:=[(1,1,.fix (Rv x)),(1,2,.fix (Rv ((↑(fl x):Rat)))),(2,2,.fix (.tuple #[.int .i64 ((↑(Int.natAbs (Rat.num (↑(fl x):Rat))):Int)),.int .i64 (0:Int)])),(3,1,.is (.c (.bool true)))]) (sb:=[]) (by kernel_rfl) (hC (ffit_k h k1) (hC (whole_k (szr h) (by omega)) (hC (inta_k hs) (hP (isB h0) hN))))
theorem floor2 {n:Bool} {a b:ByteArray} {x:Rat} {K:Nat} (h:IsR n a b x K) (k1:K≤1000000000) (hs:(Rat.num (↑(fl x):Rat)).natAbs≤9223372036854775807) (h0:decide (Rat.num (↑(fl x):Rat) < (0:Int))=false):CSpec Tryd.prog 114 #[(rv n a b)] (.tuple #[.int .i64 ((↑(Int.natAbs (Rat.num (↑(fl x):Rat))):Int)),.int .i64 (0:Int)]):=by
  exact fn_ok Tryd.func114 (sc:=[(1,1,.fix (Rv x)),(1,2,.fix (Rv ((↑(fl x):Rat)))),(2,2,.fix (.tuple #[.int .i64 ((↑(Int.natAbs (Rat.num (↑(fl x):Rat))):Int)),.int .i64 (0:Int)])),(3,1,.is (.c (.bool false)))]) (sb:=[]) (by kernel_rfl) (hC (ffit_k h k1) (hC (whole_k (szr h) (by omega)) (hC (inta_k hs) (hP (isB h0) hN))))
theorem floor3 {n:Bool} {a b:ByteArray} {x:Rat} {K:Nat} (h:IsR n a b x K) (k1:K≤1000000000)  (h0:¬Int.natAbs (Rat.num (↑(fl x):Rat))≤(9223372036854775807:Nat)) (h1:decide (Rat.num (↑(fl x):Rat) < (0:Int))=true):CSpec Tryd.prog 114 #[(rv n a b)] (.tuple #[.int .i64 (0:Int),.int .i64 (2:Int)]):=by
  exact fn_ok Tryd.func114 (sc:=[(1,1,.fix (Rv x)),(1,2,.fix (Rv ((↑(fl x):Rat)))),(2,2,.fix (.tuple #[.int .i64 (0:Int),.int .i64 (2:Int)])),(3,1,.is (.c (.bool true)))]) (sb:=[]) (by kernel_rfl) (hC (ffit_k h k1) (hC (whole_k (szr h) (by omega)) (hC (intb_k h0) (hP (isB h1) hN))))
theorem floor4 {n:Bool} {a b:ByteArray} {x:Rat} {K:Nat} (h:IsR n a b x K) (k1:K≤1000000000)  (h0:¬Int.natAbs (Rat.num (↑(fl x):Rat))≤(9223372036854775807:Nat)) (h1:decide (Rat.num (↑(fl x):Rat) < (0:Int))=false):CSpec Tryd.prog 114 #[(rv n a b)] (.tuple #[.int .i64 (0:Int),.int .i64 (2:Int)]):=by
  exact fn_ok Tryd.func114 (sc:=[(1,1,.fix (Rv x)),(1,2,.fix (Rv ((↑(fl x):Rat)))),(2,2,.fix (.tuple #[.int .i64 (0:Int),.int .i64 (2:Int)])),(3,1,.is (.c (.bool false)))]) (sb:=[]) (by kernel_rfl) (hC (ffit_k h k1) (hC (whole_k (szr h) (by omega)) (hC (intb_k h0) (hP (isB h1) hN))))
def FlOk (x:Rat):Prop:=(fl x).natAbs≤9223372036854775807
instance (x:Rat):Decidable (FlOk x):=inferInstanceAs (Decidable ((fl x).natAbs≤9223372036854775807))
def flv (x:Rat):Int:=if FlOk x then fl x else 0
def fle (x:Rat):Int:=if FlOk x then 0 else 2
section
variable {n:Bool} {a b:ByteArray} {x:Rat} {K:Nat}
theorem floora_k (h:IsR n a b x K) (k1:K≤1000000000) (hs:FlOk x):CSpec Tryd.prog 114 #[rv n a b] (.tuple #[.int .i64 (fl x),.int .i64 0]):=by
  unfold FlOk at hs
  have hs':(Rat.num (↑(fl x):Rat)).natAbs≤9223372036854775807:=by rw [Rat.num_intCast]; exact hs
  by_cases g:fl x < 0
  · have:=floor1 h k1 hs' (by rw [Rat.num_intCast]; exact decide_eq_true g)
    rw [Rat.num_intCast] at this
    have e:IntKind.wrap .i64 ((0:Int) - ((fl x).natAbs:Int))=fl x:=by
      simp [IntKind.wrap,IntKind.signed,IntKind.bits]
      omega
    rwa [e] at this
  have:=floor2 h k1 hs' (by rw [Rat.num_intCast]; exact decide_eq_false g)
  rw [Rat.num_intCast] at this
  have e:((fl x).natAbs:Int)=fl x:=by omega
  rwa [e] at this
theorem floorb_k (h:IsR n a b x K) (k1:K≤1000000000) (hs:¬ FlOk x):CSpec Tryd.prog 114 #[rv n a b] (.tuple #[.int .i64 0,.int .i64 2]):=by
  have hs':¬ (Rat.num (↑(fl x):Rat)).natAbs≤9223372036854775807:=by rw [Rat.num_intCast]; exact hs
  by_cases g:fl x < 0
  · exact floor3 h k1 hs' (by rw [Rat.num_intCast]; exact decide_eq_true g)
  exact floor4 h k1 hs' (by rw [Rat.num_intCast]; exact decide_eq_false g)
theorem floor_k (h:IsR n a b x K) (k1:K≤1000000000):CSpec Tryd.prog 114 #[rv n a b] (.tuple #[.int .i64 (flv x),.int .i64 (fle x)]):=by
  unfold flv fle
  by_cases hs:FlOk x
  · rw [if_pos hs,if_pos hs]
    exact floora_k h k1 hs
  rw [if_neg hs,if_neg hs]
  exact floorb_k h k1 hs
end
end Go.Proofs.YtkpeembfagcpcaaDoor.G
