import Derived.Test.YtikepohhmagdpaaDoorYKA
import Derived.Test.YtikepohhmagdpaaDoorYX0
import Derived.Test.YtikepohhmagdpaaDoorYX1
section
namespace Go.Proofs.YtikepohhmagdpaaDoor.G
open Go.Proofs.YtikepohhmagdpaaDoor.U Go.RowKit
set_option linter.unusedVariables false
set_option maxRecDepth 100000
theorem mi_self_k {n:Bool} {a b:ByteArray} {x:Rat} {K:Nat} (h:IsR n a b x K) (hs:K ≤ 8589934592):CSpec Tryd.prog 104 #[rv n a b,rv n a b] (Rv x):=by
  have:=min_k h h (by omega)
  rwa [mn_self] at this
theorem of0_k:CSpec Tryd.prog 94 #[.int .i64 0] (Rv 0):=of_r 0 (by decide) (by decide)
theorem of1_k:CSpec Tryd.prog 94 #[.int .i64 1] (Rv 1):=of_r 1 (by decide) (by decide)
theorem of2_k:CSpec Tryd.prog 94 #[.int .i64 2] (Rv 2):=of_r 2 (by decide) (by decide)
theorem of0m1_k:CSpec Tryd.prog 94 #[.int .i64 (-1)] (Rv (-1)):=of_r (-1) (by decide) (by decide)
theorem sz0_s:Sz 0 1:=⟨by decide,by decide⟩
theorem sz1_s:Sz 1 1:=⟨by decide,by decide⟩
theorem sz2_s:Sz 2 1:=⟨by decide,by decide⟩
theorem szm1_s:Sz (-1) 1:=⟨by decide,by decide⟩
theorem isR0_s:IsR false ⟨#[]⟩ ⟨#[]⟩ 0 1:=⟨dif_neg (fun h=>h.nz rfl),by decide,by decide,sz0_s⟩
theorem sq_pos (x:Rat):0 ≤ x * x:=by
  rcases Rat.le_total (a:=0) (b:=x) with h | h
  · exact Rat.mul_nonneg h h
  have h2:0 ≤ -x:=by grind
  have:=Rat.mul_nonneg h2 h2
  grind
theorem sq_nn (x:Rat):1 + x * x ≠ 0:=by
  have:=sq_pos x
  grind
theorem tof_k {n:Bool} {a b:ByteArray} {x:Rat} {K:Nat} (hx:IsR n a b x K) (hK:K ≤ 8000000000)  : CSpec Tryd.prog 42 #[(rv n a b)] (ag [[.bool false],rc x]):=by
  exact fn_ok Tryd.func42 (sc:=[(1,2,.fix (Rv x))]) (sb:=[]) (by kernel_rfl) (hC (mi_self_k hx (by omega)) hN)
theorem thalf_k    : CSpec Tryd.prog 132 #[] (ag [[.bool true],rc (0:Rat)]):=by
  exact fn_ok Tryd.func132 (sc:=[(1,0,.fix (Rv (0:Rat)))]) (sb:=[]) (by kernel_rfl) (hC of0_k hN)
theorem tfitf_k {n:Bool} {a b:ByteArray} {x:Rat} {K:Nat} (hx:IsR n a b x K) (hK:K ≤ 8000000000)  : CSpec Tryd.prog 130 #[(ag [[.bool false],rr n a b])] (ag [[.bool false],rc x]):=by
  exact fn_ok Tryd.func130 (sc:=[(3,2,.fix (ag [[.bool false],rc x]))]) (sb:=[]) (by kernel_rfl) (hC (tof_k hx hK) hN)
theorem tfith_k {n:Bool} {a b:ByteArray}   : CSpec Tryd.prog 130 #[(ag [[.bool true],rr n a b])] (ag [[.bool true],rc (0:Rat)]):=by
  exact fn_ok Tryd.func130 (sc:=[(2,0,.fix (ag [[.bool true],rc (0:Rat)]))]) (sb:=[]) (by kernel_rfl) (hC thalf_k hN)
theorem cosf {n:Bool} {a b:ByteArray} {x:Rat} {K:Nat} (hx:IsR n a b x K) (hK:K ≤ 2000000000) (h9:(1:Rat) + x * x ≠ (0:Rat)):CSpec Tryd.prog 43 #[(ag [[.bool false],rr n a b])] (Rv (((1:Rat) - x * x) / ((1:Rat) + x * x))):=by
  have s0:=(isR_s (szr hx))
  have s1:=sz1_s
  have s2:=(isR_s s1)
  have s3:=(mul_s (szr hx) (szr hx))
  have s4:=(isR_s s3)
  have s5:=(sub_s s1 s3)
  have s6:=(isR_s s5)
  have s7:=(add_s s1 s3)
  have s8:=(isR_s s7)
  exact fn_ok Tryd.func43 (sc:=[(1,1,.fix (ag [[.bool false],rc x])),(4,4,.fix (Rv (x * x))),(5,0,.fix (Rv (1:Rat))),(5,2,.fix (Rv ((1:Rat) - x * x))),(5,3,.fix (Rv (1:Rat))),(5,5,.fix (Rv ((1:Rat) + x * x))),(5,6,.fix (.tuple #[Rv (((1:Rat) - x * x) / ((1:Rat) + x * x)),.int IntKind.i64 (0:Int)]))]) (sb:=[]) (by kernel_rfl) (hC (tfitf_k hx (by omega)) (hC (mul_k s0 s0 (by omega)) (hC of1_k (hC (sub_k s2 s4 (by omega)) (hC of1_k (hC (add_k s2 s4 (by omega)) (hC (div_k s6 s8 (by omega) h9) hN)))))))
theorem cosh {n:Bool} {a b:ByteArray}   : CSpec Tryd.prog 43 #[(ag [[.bool true],rr n a b])] (Rv (-1:Rat)):=by
  exact fn_ok Tryd.func43 (sc:=[(1,1,.fix (ag [[.bool true],rc (0:Rat)])),(3,0,.fix (Rv (-1:Rat)))]) (sb:=[]) (by kernel_rfl) (hC (tfith_k (n:=n) (a:=a) (b:=b)) (hC of0m1_k hN))
theorem sinf {n:Bool} {a b:ByteArray} {x:Rat} {K:Nat} (hx:IsR n a b x K) (hK:K ≤ 2000000000) (h9:(1:Rat) + x * x ≠ (0:Rat)):CSpec Tryd.prog 44 #[(ag [[.bool false],rr n a b])] (Rv ((x + x) / ((1:Rat) + x * x))):=by
  have s0:=(isR_s (szr hx))
  have s1:=sz1_s
  have s2:=(isR_s s1)
  have s3:=(mul_s (szr hx) (szr hx))
  have s4:=(isR_s s3)
  have s5:=(add_s (szr hx) (szr hx))
  have s6:=(isR_s s5)
  have s7:=(add_s s1 s3)
  have s8:=(isR_s s7)
  exact fn_ok Tryd.func44 (sc:=[(1,1,.fix (ag [[.bool false],rc x])),(2,4,.fix (Rv (x + x))),(2,5,.fix (Rv (1:Rat))),(2,10,.fix (Rv (x * x))),(2,11,.fix (Rv ((1:Rat) + x * x))),(2,12,.fix (.tuple #[Rv ((x + x) / ((1:Rat) + x * x)),.int IntKind.i64 (0:Int)]))]) (sb:=[]) (by kernel_rfl) (hC (tfitf_k hx (by omega)) (hC (add_k s0 s0 (by omega)) (hC of1_k (hC (mul_k s0 s0 (by omega)) (hC (add_k s2 s4 (by omega)) (hC (div_k s6 s8 (by omega) h9) hN))))))
theorem sinh {n:Bool} {a b:ByteArray}   : CSpec Tryd.prog 44 #[(ag [[.bool true],rr n a b])] (Rv (((0:Rat) + (0:Rat)) / ((1:Rat) + (0:Rat) * (0:Rat)))):=by
  have s0:=sz0_s
  have s1:=(isR_s s0)
  have s2:=sz1_s
  have s3:=(isR_s s2)
  have s4:=(mul_s s0 s0)
  have s5:=(isR_s s4)
  have s6:=(add_s s0 s0)
  have s7:=(isR_s s6)
  have s8:=(add_s s2 s4)
  have s9:=(isR_s s8)
  exact fn_ok Tryd.func44 (sc:=[(1,1,.fix (ag [[.bool true],rc (0:Rat)])),(2,4,.fix (Rv ((0:Rat) + (0:Rat)))),(2,5,.fix (Rv (1:Rat))),(2,10,.fix (Rv ((0:Rat) * (0:Rat)))),(2,11,.fix (Rv ((1:Rat) + (0:Rat) * (0:Rat)))),(2,12,.fix (.tuple #[Rv (((0:Rat) + (0:Rat)) / ((1:Rat) + (0:Rat) * (0:Rat))),.int IntKind.i64 (0:Int)]))]) (sb:=[]) (by kernel_rfl) (hC (tfith_k (n:=n) (a:=a) (b:=b)) (hC (add_k s1 s1 (by decide +kernel)) (hC of1_k (hC (mul_k s1 s1 (by decide +kernel)) (hC (add_k s3 s5 (by decide +kernel)) (hC (div_k s7 s9 (by decide +kernel) (by decide +kernel)) hN))))))
def cosT (h:Bool) (x:Rat):Rat:=if h then -1 else (1 - x * x) / (1 + x * x)
def sinT (h:Bool) (x:Rat):Rat:=if h then 0 else (x + x) / (1 + x * x)
section
variable {n n' h h':Bool} {a b a' b':ByteArray} {x y:Rat} {K L:Nat}
theorem tcos_k (hx:IsR n a b x K) (hK:K ≤ 2000000000):CSpec Tryd.prog 43 #[ag [[.bool h],rr n a b]] (Rv (cosT h x)):=by
  cases h
  · exact cosf hx hK (sq_nn x)
  exact cosh
theorem tsin_k (hx:IsR n a b x K) (hK:K ≤ 2000000000):CSpec Tryd.prog 44 #[ag [[.bool h],rr n a b]] (Rv (sinT h x)):=by
  cases h
  · exact sinf hx hK (sq_nn x)
  have:=sinh (n:=n) (a:=a) (b:=b)
  have e:((0:Rat) + 0) / (1 + 0 * 0) = 0:=by decide +kernel
  rw [e] at this
  exact this
theorem cosT_s (hx:Sz x K):Sz (cosT h x) (4 * K + 8):=by
  unfold cosT
  split
  · exact szm1_s.mono (by omega)
  exact (div_s (sub_s sz1_s (hx.mul hx)) (sz1_s.add (hx.mul hx))).mono (by omega)
theorem sinT_s (hx:Sz x K):Sz (sinT h x) (4 * K + 8):=by
  unfold sinT
  split
  · exact sz0_s.mono (by omega)
  exact (div_s (hx.add hx) (sz1_s.add (hx.mul hx))).mono (by omega)
end
end Go.Proofs.YtikepohhmagdpaaDoor.G
end
section
namespace Go.Proofs.YtikepohhmagdpaaDoor.G
open Go.Proofs.YtikepohhmagdpaaDoor.U Go.RowKit
set_option linter.unusedVariables false
set_option maxRecDepth 100000
theorem ri_k {n:Int} (h1:-9223372036854775808 ≤ n) (h2:n ≤ 9223372036854775807)  : CSpec Tryd.prog 21 #[(.int .i64 n)] (Rv (↑n:Rat)):=by
  exact fn_ok Tryd.func21 (sc:=[(1,1,.fix (Rv (↑n:Rat)))]) (sb:=[]) (by kernel_rfl) (hC (of_k h1 h2) hN)
theorem ri0_k    : CSpec Tryd.prog 21 #[(.int .i64 0)] (Rv (0:Rat)):=by
  exact fn_ok Tryd.func21 (sc:=[(1,1,.fix (Rv (0:Rat)))]) (sb:=[]) (by kernel_rfl) (hC of0_k hN)
theorem ri1_k    : CSpec Tryd.prog 21 #[(.int .i64 1)] (Rv (1:Rat)):=by
  exact fn_ok Tryd.func21 (sc:=[(1,1,.fix (Rv (1:Rat)))]) (sb:=[]) (by kernel_rfl) (hC of1_k hN)
theorem ri2_k    : CSpec Tryd.prog 21 #[(.int .i64 2)] (Rv (2:Rat)):=by
  exact fn_ok Tryd.func21 (sc:=[(1,1,.fix (Rv (2:Rat)))]) (sb:=[]) (by kernel_rfl) (hC of2_k hN)
theorem ri0m1_k    : CSpec Tryd.prog 21 #[(.int .i64 (-1))] (Rv (-1:Rat)):=by
  exact fn_ok Tryd.func21 (sc:=[(1,1,.fix (Rv (-1:Rat)))]) (sb:=[]) (by kernel_rfl) (hC of0m1_k hN)
theorem pl0 {n1:Bool} {a1 b1:ByteArray} {x1:Rat} {K1:Nat} (h1':IsR n1 a1 b1 x1 K1) (k1:K1 ≤ 2000000000)  : CSpec Tryd.prog 128 #[(rv n1 a1 b1)] (Rv (x1 + (0:Rat))):=by
  have s0:=sz0_s
  have s1:=(isR_s s0)
  exact fn_ok Tryd.func128 (sc:=[(1,1,.fix (Rv (0:Rat))),(1,2,.fix (Rv (x1 + (0:Rat))))]) (sb:=[]) (by kernel_rfl) (hC ri0_k (hC (add_k h1' s1 (by omega)) hN))
theorem plain_k {n1:Bool} {a1 b1:ByteArray} {x1:Rat} {K1:Nat} (h1':IsR n1 a1 b1 x1 K1) (k1:K1 ≤ 2000000000):CSpec Tryd.prog 128 #[rv n1 a1 b1] (Rv x1):=by
  have:=pl0 h1' k1
  rwa [Rat.add_zero] at this
theorem vadd_k {n1:Bool} {a1 b1:ByteArray} {x1:Rat} {K1:Nat}{n2:Bool} {a2 b2:ByteArray} {x2:Rat} {K2:Nat}{n3:Bool} {a3 b3:ByteArray} {x3:Rat} {K3:Nat}{n4:Bool} {a4 b4:ByteArray} {x4:Rat} {K4:Nat} (h1':IsR n1 a1 b1 x1 K1) (k1:K1 ≤ 2000000000) (h2':IsR n2 a2 b2 x2 K2) (k2:K2 ≤ 2000000000) (h3':IsR n3 a3 b3 x3 K3) (k3:K3 ≤ 2000000000) (h4':IsR n4 a4 b4 x4 K4) (k4:K4 ≤ 2000000000)  : CSpec Tryd.prog 25 #[(ag [rr n1 a1 b1,rr n2 a2 b2]),(ag [rr n3 a3 b3,rr n4 a4 b4])] (ag [rc (x1 + x3),rc (x2 + x4)]):=by
  exact fn_ok Tryd.func25 (sc:=[(1,4,.fix (Rv (x1 + x3))),(1,9,.fix (Rv (x2 + x4)))]) (sb:=[]) (by kernel_rfl) (hC (add_k h1' h3' (by omega)) (hC (add_k h2' h4' (by omega)) hN))
theorem vturn_k {n1:Bool} {a1 b1:ByteArray} {x1:Rat} {K1:Nat}{n2:Bool} {a2 b2:ByteArray} {x2:Rat} {K2:Nat}{n5:Bool} {a5 b5:ByteArray} {x5:Rat} {K5:Nat}{g:Bool} (h1':IsR n1 a1 b1 x1 K1) (k1:K1 ≤ 500000000) (h2':IsR n2 a2 b2 x2 K2) (k2:K2 ≤ 500000000) (h5':IsR n5 a5 b5 x5 K5) (k5:K5 ≤ 500000000)  : CSpec Tryd.prog 32 #[(ag [rr n1 a1 b1,rr n2 a2 b2]),(ag [[.bool g],rr n5 a5 b5])] (ag [rc (x1 * cosT g x5 - x2 * sinT g x5),rc (x1 * sinT g x5 + x2 * cosT g x5)]):=by
  have s0:=(cosT_s (h:=g) (szr h5'))
  have s1:=(isR_s s0)
  have s2:=(sinT_s (h:=g) (szr h5'))
  have s3:=(isR_s s2)
  have s4:=(mul_s (szr h1') s0)
  have s5:=(isR_s s4)
  have s6:=(mul_s (szr h2') s2)
  have s7:=(isR_s s6)
  have s8:=(mul_s (szr h1') s2)
  have s9:=(isR_s s8)
  have s10:=(mul_s (szr h2') s0)
  have s11:=(isR_s s10)
  exact fn_ok Tryd.func32 (sc:=[(1,1,.fix (Rv (cosT g x5))),(1,3,.fix (Rv (sinT g x5))),(2,4,.fix (Rv (x1 * cosT g x5))),(2,9,.fix (Rv (x2 * sinT g x5))),(2,10,.fix (Rv (x1 * cosT g x5 - x2 * sinT g x5))),(2,15,.fix (Rv (x1 * sinT g x5))),(2,20,.fix (Rv (x2 * cosT g x5))),(2,21,.fix (Rv (x1 * sinT g x5 + x2 * cosT g x5)))]) (sb:=[]) (by kernel_rfl) (hC (tcos_k (h:=g) h5' (by omega)) (hC (tsin_k (h:=g) h5' (by omega)) (hC (mul_k h1' s1 (by omega)) (hC (mul_k h2' s3 (by omega)) (hC (sub_k s5 s7 (by omega)) (hC (mul_k h1' s3 (by omega)) (hC (mul_k h2' s1 (by omega)) (hC (add_k s9 s11 (by omega)) hN))))))))
theorem circf {n5:Bool} {a5 b5:ByteArray} {x5:Rat} {K5:Nat} (h5':IsR n5 a5 b5 x5 K5) (k5:K5 ≤ 500000000) (h9:(1:Rat) + x5 * x5 ≠ (0:Rat)):CSpec Tryd.prog 37 #[(ag [[.bool false],rr n5 a5 b5])] (.tuple #[Rv ((2:Rat) / ((1:Rat) + x5 * x5) - (1:Rat)),Rv (x5 * ((2:Rat) / ((1:Rat) + x5 * x5)))]):=by
  have s0:=(isR_s (szr h5'))
  have s1:=sz1_s
  have s2:=(isR_s s1)
  have s3:=(mul_s (szr h5') (szr h5'))
  have s4:=(isR_s s3)
  have s5:=sz2_s
  have s6:=(isR_s s5)
  have s7:=(add_s s1 s3)
  have s8:=(isR_s s7)
  have s10:=(div_s s5 s7)
  have s11:=(isR_s s10)
  exact fn_ok Tryd.func37 (sc:=[(3,2,.fix (Rv x5)),(4,0,.fix (Rv (2:Rat))),(4,1,.fix (Rv (1:Rat))),(4,4,.fix (Rv (x5 * x5))),(4,5,.fix (Rv ((1:Rat) + x5 * x5))),(4,6,.fix (.tuple #[Rv ((2:Rat) / ((1:Rat) + x5 * x5)),.int IntKind.i64 (0:Int)])),(5,1,.fix (Rv (1:Rat))),(5,2,.fix (Rv ((2:Rat) / ((1:Rat) + x5 * x5) - (1:Rat)))),(5,5,.fix (Rv (x5 * ((2:Rat) / ((1:Rat) + x5 * x5)))))]) (sb:=[]) (by kernel_rfl) (hC (plain_k h5' (by omega)) (hC ri2_k (hC ri1_k (hC (mul_k s0 s0 (by omega)) (hC (add_k s2 s4 (by omega)) (hC (div_k s6 s8 (by omega) h9) (hC ri1_k (hC (sub_k s11 s2 (by omega)) (hC (mul_k s0 s11 (by omega)) hN)))))))))
theorem circh {n5:Bool} {a5 b5:ByteArray}   : CSpec Tryd.prog 37 #[(ag [[.bool true],rr n5 a5 b5])] (.tuple #[Rv (-1:Rat),Rv (0:Rat)]):=by
  exact fn_ok Tryd.func37 (sc:=[(2,0,.fix (Rv (-1:Rat))),(2,1,.fix (Rv (0:Rat)))]) (sb:=[]) (by kernel_rfl) (hC ri0m1_k (hC ri0_k hN))
section
variable {g:Bool} {x y t:Rat} {K:Nat}
theorem circ_x:2 / (1 + x * x) - 1 = cosT false x:=by
  have:=sq_nn x
  simp only [cosT,Bool.false_eq_true,if_false]
  grind
theorem circ_y:x * (2 / (1 + x * x)) = sinT false x:=by
  have:=sq_nn x
  simp only [sinT,Bool.false_eq_true,if_false]
  grind
end
theorem circle_k {g:Bool} {n5:Bool} {a5 b5:ByteArray} {x5:Rat} {K5:Nat} (h5':IsR n5 a5 b5 x5 K5) (k5:K5 ≤ 500000000):CSpec Tryd.prog 37 #[ag [[.bool g],rr n5 a5 b5]] (.tuple #[Rv (cosT g x5),Rv (sinT g x5)]):=by
  cases g
  · have:=circf h5' k5 (sq_nn x5)
    rwa [circ_x,circ_y] at this
  exact circh
theorem moved_k {n1:Bool} {a1 b1:ByteArray} {x1:Rat} {K1:Nat}{n2:Bool} {a2 b2:ByteArray} {x2:Rat} {K2:Nat}{n3:Bool} {a3 b3:ByteArray} {x3:Rat} {K3:Nat}{n4:Bool} {a4 b4:ByteArray} {x4:Rat} {K4:Nat}{n5:Bool} {a5 b5:ByteArray} {x5:Rat} {K5:Nat}{g:Bool} (h1':IsR n1 a1 b1 x1 K1) (k1:K1 ≤ 500000000) (h2':IsR n2 a2 b2 x2 K2) (k2:K2 ≤ 500000000) (h3':IsR n3 a3 b3 x3 K3) (k3:K3 ≤ 500000000) (h4':IsR n4 a4 b4 x4 K4) (k4:K4 ≤ 500000000) (h5':IsR n5 a5 b5 x5 K5) (k5:K5 ≤ 500000000)  : CSpec Tryd.prog 24 #[(ag [rr n3 a3 b3,rr n4 a4 b4,[.bool g],rr n5 a5 b5]),(ag [rr n1 a1 b1,rr n2 a2 b2])] (ag [rc (x3 + (x1 * cosT g x5 - x2 * sinT g x5)),rc (x4 + (x1 * sinT g x5 + x2 * cosT g x5))]):=by
  have s0:=(cosT_s (h:=g) (szr h5'))
  have s1:=(isR_s s0)
  have s2:=(sinT_s (h:=g) (szr h5'))
  have s3:=(isR_s s2)
  have s4:=(mul_s (szr h1') s0)
  have s5:=(isR_s s4)
  have s6:=(mul_s (szr h2') s2)
  have s7:=(isR_s s6)
  have s8:=(sub_s s4 s6)
  have s9:=(isR_s s8)
  have s10:=(mul_s (szr h1') s2)
  have s11:=(isR_s s10)
  have s12:=(mul_s (szr h2') s0)
  have s13:=(isR_s s12)
  have s14:=(add_s s10 s12)
  have s15:=(isR_s s14)
  exact fn_ok Tryd.func24 (sc:=[(1,2,.fix (.tuple #[Rv (cosT g x5),Rv (sinT g x5)])),(2,6,.fix (Rv (x1 * cosT g x5))),(2,10,.fix (Rv (x2 * sinT g x5))),(2,11,.fix (Rv (x1 * cosT g x5 - x2 * sinT g x5))),(2,12,.fix (Rv (x3 + (x1 * cosT g x5 - x2 * sinT g x5)))),(2,19,.fix (Rv (x1 * sinT g x5))),(2,23,.fix (Rv (x2 * cosT g x5))),(2,24,.fix (Rv (x1 * sinT g x5 + x2 * cosT g x5))),(2,25,.fix (Rv (x4 + (x1 * sinT g x5 + x2 * cosT g x5))))]) (sb:=[]) (by kernel_rfl) (hC (circle_k (g:=g) h5' k5) (hC (mul_k h1' s1 (by omega)) (hC (mul_k h2' s3 (by omega)) (hC (sub_k s5 s7 (by omega)) (hC (add_k h3' s9 (by omega)) (hC (mul_k h1' s3 (by omega)) (hC (mul_k h2' s1 (by omega)) (hC (add_k s11 s13 (by omega)) (hC (add_k h4' s15 (by omega)) hN)))))))))
theorem eq1 {n1:Bool} {a1 b1:ByteArray} {x1:Rat} {K1:Nat}{n2:Bool} {a2 b2:ByteArray} {x2:Rat} {K2:Nat}{n3:Bool} {a3 b3:ByteArray} {x3:Rat} {K3:Nat}{n4:Bool} {a4 b4:ByteArray} {x4:Rat} {K4:Nat} (h1':IsR n1 a1 b1 x1 K1) (k1:K1 ≤ 2000000000) (h2':IsR n2 a2 b2 x2 K2) (k2:K2 ≤ 2000000000) (h3':IsR n3 a3 b3 x3 K3) (k3:K3 ≤ 2000000000) (h4':IsR n4 a4 b4 x4 K4) (k4:K4 ≤ 2000000000) (h2:decide (Int.sign (Rat.num (x1 - x3)) = (0:Int)) = true):CSpec Tryd.prog 34 #[(ag [rr n1 a1 b1,rr n2 a2 b2]),(ag [rr n3 a3 b3,rr n4 a4 b4])] (.bool (decide (Int.sign (Rat.num (x2 - x4)) = (0:Int)))):=by
  have s0:=(sub_s (szr h1') (szr h3'))
  have s1:=(isR_s s0)
  have s3:=(sub_s (szr h2') (szr h4'))
  have s4:=(isR_s s3)
  exact fn_ok Tryd.func34 (sc:=[(1,4,.fix (Rv (x1 - x3))),(1,5,.fix (.int IntKind.i64 (Int.sign (Rat.num (x1 - x3))))),(1,6,.is (.c (.bool true))),(1,12,.fix (Rv (x2 - x4))),(1,13,.fix (.int IntKind.i64 (Int.sign (Rat.num (x2 - x4)))))]) (sb:=[]) (by kernel_rfl) (hC (sub_k h1' h3' (by omega)) (hC (sign_k s1 (by omega)) (hP (isB h2) (hC (sub_k h2' h4' (by omega)) (hC (sign_k s4 (by omega)) hN)))))
theorem eq2 {n1:Bool} {a1 b1:ByteArray} {x1:Rat} {K1:Nat}{n2:Bool} {a2 b2:ByteArray} {x2:Rat} {K2:Nat}{n3:Bool} {a3 b3:ByteArray} {x3:Rat} {K3:Nat}{n4:Bool} {a4 b4:ByteArray} {x4:Rat} {K4:Nat} (h1':IsR n1 a1 b1 x1 K1) (k1:K1 ≤ 2000000000) (h2':IsR n2 a2 b2 x2 K2) (k2:K2 ≤ 2000000000) (h3':IsR n3 a3 b3 x3 K3) (k3:K3 ≤ 2000000000) (h4':IsR n4 a4 b4 x4 K4) (k4:K4 ≤ 2000000000) (h2:decide (Int.sign (Rat.num (x1 - x3)) = (0:Int)) = false):CSpec Tryd.prog 34 #[(ag [rr n1 a1 b1,rr n2 a2 b2]),(ag [rr n3 a3 b3,rr n4 a4 b4])] (.bool false):=by
  have s0:=(sub_s (szr h1') (szr h3'))
  have s1:=(isR_s s0)
  exact fn_ok Tryd.func34 (sc:=[(1,4,.fix (Rv (x1 - x3))),(1,5,.fix (.int IntKind.i64 (Int.sign (Rat.num (x1 - x3))))),(1,6,.is (.c (.bool false)))]) (sb:=[]) (by kernel_rfl) (hC (sub_k h1' h3' (by omega)) (hC (sign_k s1 (by omega)) (hP (isB h2) hN)))
theorem fput_k {n1:Bool} {a1 b1:ByteArray} {x1:Rat} {K1:Nat}{n2:Bool} {a2 b2:ByteArray} {x2:Rat} {K2:Nat}{n3:Bool} {a3 b3:ByteArray} {x3:Rat} {K3:Nat}{n4:Bool} {a4 b4:ByteArray} {x4:Rat} {K4:Nat}{n5:Bool} {a5 b5:ByteArray} {x5:Rat} {K5:Nat}{g:Bool} (h1':IsR n1 a1 b1 x1 K1) (k1:K1 ≤ 100000000) (h2':IsR n2 a2 b2 x2 K2) (k2:K2 ≤ 100000000) (h3':IsR n3 a3 b3 x3 K3) (k3:K3 ≤ 100000000) (h4':IsR n4 a4 b4 x4 K4) (k4:K4 ≤ 100000000) (h5':IsR n5 a5 b5 x5 K5) (k5:K5 ≤ 100000000)  : CSpec Tryd.prog 35 #[(ag [rr n3 a3 b3,rr n4 a4 b4,[.bool g],rr n5 a5 b5]),(ag [rr n1 a1 b1,rr n2 a2 b2])] (ag [rc (x3 + (x1 * cosT g x5 - x2 * sinT g x5)),rc (x4 + (x1 * sinT g x5 + x2 * cosT g x5))]):=by
  have s0:=(cosT_s (h:=g) (szr h5'))
  have s1:=(mul_s (szr h1') s0)
  have s2:=(sinT_s (h:=g) (szr h5'))
  have s3:=(mul_s (szr h2') s2)
  have s4:=(sub_s s1 s3)
  have s5:=(isR_s s4)
  have s6:=(mul_s (szr h1') s2)
  have s7:=(mul_s (szr h2') s0)
  have s8:=(add_s s6 s7)
  have s9:=(isR_s s8)
  exact fn_ok Tryd.func35 (sc:=[(1,5,.fix (ag [rc (x1 * cosT g x5 - x2 * sinT g x5),rc (x1 * sinT g x5 + x2 * cosT g x5)])),(1,6,.fix (ag [rc (x3 + (x1 * cosT g x5 - x2 * sinT g x5)),rc (x4 + (x1 * sinT g x5 + x2 * cosT g x5))]))]) (sb:=[]) (by kernel_rfl) (hC (vturn_k (g:=g) h1' (by omega) h2' (by omega) h5' (by omega)) (hC (vadd_k h3' (by omega) h4' (by omega) s5 (by omega) s9 (by omega)) hN))
end Go.Proofs.YtikepohhmagdpaaDoor.G
end
section
namespace Go.Proofs.YtikepohhmagdpaaDoor.G
open Go.Proofs.YtikepohhmagdpaaDoor.U Go.RowKit Go.Proofs.YtikepohhmagdpaaDoor.A Go.Proofs.YtikepohhmagdpaaDoor.X
set_option linter.unusedVariables false
set_option maxRecDepth 100000
theorem nt1_k {n:Nat} (h:n = 1):CSpec Tryd.prog 112 #[.string (M.B n)] (.string ⟨#[49]⟩):=fun w _=>by
  subst h
  rw [B_one1]
  exact nat_Text.calls 40 one1 ⟨#[49]⟩ w (by decide +kernel)
theorem B_two1:M.B 2 = ⟨#[2]⟩:=by
  have h:M.B (M.V ⟨#[2]⟩) = ⟨#[2]⟩:=SA.lead_of _ (.inr (by decide))
  exact h
theorem nt2_k {n:Nat} (h:n = 2):CSpec Tryd.prog 112 #[.string (M.B n)] (.string ⟨#[50]⟩):=fun w _=>by
  subst h
  rw [B_two1]
  exact nat_Text.calls 40 ⟨#[2]⟩ ⟨#[50]⟩ w (by decide +kernel)
theorem fitR_k {x:Rat} {K:Nat} (h:Sz x K) (hK:K ≤ 68719476736):CSpec Tryd.prog 124 #[Rv x] (Rv x):=fit_Rv x (h.mono hK)
theorem rtx    : CSpec Tryd.prog 118 #[(Rv (-1/2))] (.string ({ data:=#[(45:UInt8)] } ++ { data:=#[(49:UInt8)] } ++ ({ data:=#[(47:UInt8)] } ++ { data:=#[(50:UInt8)] }))):=by
  have s0:=szm1_s
  have s1:=sz2_s
  have s2:=(div_s s0 s1)
  exact fn_ok Tryd.func118 (sc:=[(1,1,.fix (Rv (-1 / 2:Rat))),(2,2,.fix (.string ({ data:=#[(49:UInt8)] }))),(6,3,.fix (.string ({ data:=#[(50:UInt8)] })))]) (sb:=[]) (by kernel_rfl) (hC (fitR_k s2 (by decide +kernel)) (hC (nt1_k (n:=Int.natAbs (Rat.num (-1 / 2:Rat))) (by decide +kernel)) (hC (nt2_k (n:=Rat.den (-1 / 2:Rat)) (by decide +kernel)) hN)))
theorem rtext_k {x:Rat} (h:x = -1/2):CSpec Tryd.prog 118 #[Rv x] (.string ⟨#[45,49,47,50]⟩):=by
  subst h
  exact rtx
theorem num_k {n m:Int} (hn:-9223372036854775808 ≤ n) (hn2:n ≤ 9223372036854775807) (hm:-9223372036854775808 ≤ m) (hm2:m ≤ 9223372036854775807) (h0:m ≠ 0)  : CSpec Tryd.prog 123 #[(.int .i64 n),(.int .i64 m)] (Rv ((↑n:Rat) / (↑m:Rat))):=by
  exact fn_ok Tryd.func123 (sc:=[(1,2,.fix (.tuple #[Rv ((↑n:Rat) / (↑m:Rat)),.int IntKind.i64 (0:Int)]))]) (sb:=[]) (by kernel_rfl) (hC (make_k hn hn2 hm hm2 h0) hN)
theorem ratBegun_k    : CSpec Tryd.prog 86 #[] (.bool true):=by
  have s0:=(int_s (n:=(2:Int)) (by decide +kernel))
  have s1:=(int_s (n:=(-4:Int)) (by decide +kernel))
  have s2:=(div_s s0 s1)
  exact fn_ok Tryd.func86 (sc:=[(1,0,.fix (.tuple #[Rv ((↑(2:Int):Rat) / (↑(-4:Int):Rat)),.int IntKind.i64 (0:Int)])),(2,4,.fix (.string ({ data:=#[(45:UInt8),(49:UInt8),(47:UInt8),(50:UInt8)] }))),(2,9,.fix (.bool true))]) (sb:=[]) (by kernel_rfl) (hC (make_k (n:=(2:Int)) (m:=(-4:Int)) (by decide +kernel) (by decide +kernel) (by decide +kernel) (by decide +kernel) (by decide +kernel)) (hC (rtext_k (x:=(↑(2:Int):Rat) / (↑(-4:Int):Rat)) (by decide +kernel)) (hC (gooda_k s2 (by decide +kernel)) hN)))
theorem turnBegun_k    : CSpec Tryd.prog 19 #[] (.bool true):=by
  have s0:=(int_s (n:=(1:Int)) (by decide +kernel))
  have s1:=(int_s (n:=(2:Int)) (by decide +kernel))
  have s2:=(div_s s0 s1)
  have s3:=(isR_s s2)
  exact fn_ok Tryd.func19 (sc:=[(1,0,.fix (Rv ((↑(1:Int):Rat) / (↑(2:Int):Rat)))),(1,1,.fix (ag [[.bool false],rc ((↑(1:Int):Rat) / (↑(2:Int):Rat))])),(2,0,.fix (.bool true)),(2,3,.fix (Rv (cosT false ((↑(1:Int):Rat) / (↑(2:Int):Rat))))),(2,4,.fix (Rv ((↑(3:Int):Rat) / (↑(5:Int):Rat)))),(2,9,.fix (Rv (sinT false ((↑(1:Int):Rat) / (↑(2:Int):Rat))))),(2,10,.fix (Rv ((↑(4:Int):Rat) / (↑(5:Int):Rat))))]) (sb:=[]) (by kernel_rfl) (hC (num_k (n:=(1:Int)) (m:=(2:Int)) (by decide +kernel) (by decide +kernel) (by decide +kernel) (by decide +kernel) (by decide +kernel)) (hC (tof_k s3 (by decide +kernel)) (hC ratBegun_k (hC (tcos_k (h:=false) s3 (by decide +kernel)) (hC (num_k (n:=(3:Int)) (m:=(5:Int)) (by decide +kernel) (by decide +kernel) (by decide +kernel) (by decide +kernel) (by decide +kernel)) (hC (tsin_k (h:=false) s3 (by decide +kernel)) (hC (num_k (n:=(4:Int)) (m:=(5:Int)) (by decide +kernel) (by decide +kernel) (by decide +kernel) (by decide +kernel) (by decide +kernel)) hN)))))))
end Go.Proofs.YtikepohhmagdpaaDoor.G
end
