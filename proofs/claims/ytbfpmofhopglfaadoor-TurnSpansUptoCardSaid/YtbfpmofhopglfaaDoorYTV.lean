import Derived.Test.YtbfpmofhopglfaaDoorYKA
import Derived.Test.YtbfpmofhopglfaaDoorYU5
import Derived.Test.YtbfpmofhopglfaaDoorYX0
import Derived.Test.YtbfpmofhopglfaaDoorYX1
section
namespace Go.Proofs.YtbfpmofhopglfaaDoor.G
open Go.Proofs.YtbfpmofhopglfaaDoor.U Go.RowKit
set_option linter.unusedVariables false
set_option maxRecDepth 100000
theorem mi_self_k {n:Bool} {a b:ByteArray} {x:Rat} {K:Nat} (h:IsR n a b x K) (hs:K≤8589934592):CSpec Tryd.prog 120 #[rv n a b,rv n a b] (Rv x):=by
  have:=min_k h h (by omega)
  rwa [mn_self] at this
theorem of0_k:CSpec Tryd.prog 147 #[.int .i64 0] (Rv 0):=of_r 0 (by decide) (by decide)
theorem of1_k:CSpec Tryd.prog 147 #[.int .i64 1] (Rv 1):=of_r 1 (by decide) (by decide)
theorem of2_k:CSpec Tryd.prog 147 #[.int .i64 2] (Rv 2):=of_r 2 (by decide) (by decide)
theorem of0m1_k:CSpec Tryd.prog 147 #[.int .i64 (-1)] (Rv (-1)):=of_r (-1) (by decide) (by decide)
theorem sz0_s:Sz 0 1:=⟨by decide,by decide⟩
theorem sz1_s:Sz 1 1:=⟨by decide,by decide⟩
theorem sz2_s:Sz 2 1:=⟨by decide,by decide⟩
theorem szm1_s:Sz (-1) 1:=⟨by decide,by decide⟩
theorem sq_pos (x:Rat):0≤x*x:=by
  rcases Rat.le_total (a:=0) (b:=x) with h | h
  · exact Rat.mul_nonneg h h
  have h2:0 ≤ -x:=by grind
  have:=Rat.mul_nonneg h2 h2
  grind
theorem sq_nn (x:Rat):1+x*x≠0:=by
  have:=sq_pos x
  grind
theorem tof_k {n:Bool} {a b:ByteArray} {x:Rat} {K:Nat} (hx:IsR n a b x K) (hK:K≤8000000000)  : CSpec Tryd.prog 143 #[(rv n a b)] (ag [[.bool false],rc x]):=by
  exact fn_ok Tryd.func143 (sc:=[(1,2,.fix (Rv x))]) (sb:=[]) (by kernel_rfl) (hC (mi_self_k hx (by omega)) hN)
theorem thalf_k    : CSpec Tryd.prog 209 #[] (ag [[.bool true],rc (0:Rat)]):=by
  exact fn_ok Tryd.func209 (sc:=[(1,0,.fix (Rv (0:Rat)))]) (sb:=[]) (by kernel_rfl) (hC of0_k hN)
theorem tfitf_k {n:Bool} {a b:ByteArray} {x:Rat} {K:Nat} (hx:IsR n a b x K) (hK:K≤8000000000)  : CSpec Tryd.prog 190 #[(ag [[.bool false],rr n a b])] (ag [[.bool false],rc x]):=by
  exact fn_ok Tryd.func190 (sc:=[(3,2,.fix (ag [[.bool false],rc x]))]) (sb:=[]) (by kernel_rfl) (hC (tof_k hx hK) hN)
theorem tfith_k {n:Bool} {a b:ByteArray}   : CSpec Tryd.prog 190 #[(ag [[.bool true],rr n a b])] (ag [[.bool true],rc (0:Rat)]):=by
  exact fn_ok Tryd.func190 (sc:=[(2,0,.fix (ag [[.bool true],rc (0:Rat)]))]) (sb:=[]) (by kernel_rfl) (hC thalf_k hN)
theorem cosf {n:Bool} {a b:ByteArray} {x:Rat} {K:Nat} (hx:IsR n a b x K) (hK:K≤2000000000) (h9:(1:Rat)+x*x≠(0:Rat)):CSpec Tryd.prog 144 #[(ag [[.bool false],rr n a b])] (Rv (((1:Rat) - x*x)/((1:Rat)+x*x))):=by
  have s0:=(isR_s (szr hx))
  have s1:=sz1_s
  have s2:=(isR_s s1)
  have s3:=(mul_s (szr hx) (szr hx))
  have s4:=(isR_s s3)
  have s5:=(sub_s s1 s3)
  have s6:=(isR_s s5)
  have s7:=(add_s s1 s3)
  have s8:=(isR_s s7)
  exact fn_ok Tryd.func144 (sc:=[(1,1,.fix (ag [[.bool false],rc x])),(4,4,.fix (Rv (x*x))),(5,0,.fix (Rv (1:Rat))),(5,2,.fix (Rv ((1:Rat) - x*x))),(5,3,.fix (Rv (1:Rat))),(5,5,.fix (Rv ((1:Rat)+x*x))),(5,6,.fix (.tuple #[Rv (((1:Rat) - x*x)/((1:Rat)+x*x)),.int IntKind.i64 (0:Int)]))]) (sb:=[]) (by kernel_rfl) (hC (tfitf_k hx (by omega)) (hC (mul_k s0 s0 (by omega)) (hC of1_k (hC (sub_k s2 s4 (by omega)) (hC of1_k (hC (add_k s2 s4 (by omega)) (hC (div_k s6 s8 (by omega) h9) hN)))))))
theorem cosh {n:Bool} {a b:ByteArray}   : CSpec Tryd.prog 144 #[(ag [[.bool true],rr n a b])] (Rv (-1:Rat)):=by
  exact fn_ok Tryd.func144 (sc:=[(1,1,.fix (ag [[.bool true],rc (0:Rat)])),(3,0,.fix (Rv (-1:Rat)))]) (sb:=[]) (by kernel_rfl) (hC (tfith_k (n:=n) (a:=a) (b:=b)) (hC of0m1_k hN))
theorem sinf {n:Bool} {a b:ByteArray} {x:Rat} {K:Nat} (hx:IsR n a b x K) (hK:K≤2000000000) (h9:(1:Rat)+x*x≠(0:Rat)):CSpec Tryd.prog 145 #[(ag [[.bool false],rr n a b])] (Rv ((x+x)/((1:Rat)+x*x))):=by
  have s0:=(isR_s (szr hx))
  have s1:=sz1_s
  have s2:=(isR_s s1)
  have s3:=(mul_s (szr hx) (szr hx))
  have s4:=(isR_s s3)
  have s5:=(add_s (szr hx) (szr hx))
  have s6:=(isR_s s5)
  have s7:=(add_s s1 s3)
  have s8:=(isR_s s7)
  exact fn_ok Tryd.func145 (sc:=[(1,1,.fix (ag [[.bool false],rc x])),(2,4,.fix (Rv (x+x))),(2,5,.fix (Rv (1:Rat))),(2,10,.fix (Rv (x*x))),(2,11,.fix (Rv ((1:Rat)+x*x))),(2,12,.fix (.tuple #[Rv ((x+x)/((1:Rat)+x*x)),.int IntKind.i64 (0:Int)]))]) (sb:=[]) (by kernel_rfl) (hC (tfitf_k hx (by omega)) (hC (add_k s0 s0 (by omega)) (hC of1_k (hC (mul_k s0 s0 (by omega)) (hC (add_k s2 s4 (by omega)) (hC (div_k s6 s8 (by omega) h9) hN))))))
theorem sinh {n:Bool} {a b:ByteArray}   : CSpec Tryd.prog 145 #[(ag [[.bool true],rr n a b])] (Rv (((0:Rat)+(0:Rat))/((1:Rat)+(0:Rat)*(0:Rat)))):=by
  have s0:=sz0_s
  have s1:=(isR_s s0)
  have s2:=sz1_s
  have s3:=(isR_s s2)
  have s4:=(mul_s s0 s0)
  have s5:=(isR_s s4)
  have s6:=(add_s s0 s0)
  have s7:=(isR_s s6)
  have s8:=(add_s s2 s4)
  have s9:=(isR_s s8)
  exact fn_ok Tryd.func145 (sc:=[(1,1,.fix (ag [[.bool true],rc (0:Rat)])),(2,4,.fix (Rv ((0:Rat)+(0:Rat)))),(2,5,.fix (Rv (1:Rat))),(2,10,.fix (Rv ((0:Rat)*(0:Rat)))),(2,11,.fix (Rv ((1:Rat)+(0:Rat)*(0:Rat)))),(2,12,.fix (.tuple #[Rv (((0:Rat)+(0:Rat))/((1:Rat)+(0:Rat)*(0:Rat))),.int IntKind.i64 (0:Int)]))]) (sb:=[]) (by kernel_rfl) (hC (tfith_k (n:=n) (a:=a) (b:=b)) (hC (add_k s1 s1 (by decide +kernel)) (hC of1_k (hC (mul_k s1 s1 (by decide +kernel)) (hC (add_k s3 s5 (by decide +kernel)) (hC (div_k s7 s9 (by decide +kernel) (by decide +kernel)) hN))))))
def cosT (h:Bool) (x:Rat):Rat:=if h then -1 else (1 - x*x)/(1+x*x)
def sinT (h:Bool) (x:Rat):Rat:=if h then 0 else (x+x)/(1+x*x)
section
variable {n n' h h':Bool} {a b a' b':ByteArray} {x y:Rat} {K L:Nat}
theorem tcos_k (hx:IsR n a b x K) (hK:K≤2000000000):CSpec Tryd.prog 144 #[ag [[.bool h],rr n a b]] (Rv (cosT h x)):=by
  cases h
  · exact cosf hx hK (sq_nn x)
  exact cosh
theorem tsin_k (hx:IsR n a b x K) (hK:K≤2000000000):CSpec Tryd.prog 145 #[ag [[.bool h],rr n a b]] (Rv (sinT h x)):=by
  cases h
  · exact sinf hx hK (sq_nn x)
  have:=sinh (n:=n) (a:=a) (b:=b)
  have e:((0:Rat)+0)/(1+0*0)=0:=by decide +kernel
  rw [e] at this
  exact this
theorem cosT_s (hx:Sz x K):Sz (cosT h x) (4*K+8):=by
  unfold cosT
  split
  · exact szm1_s.mono (by omega)
  exact (div_s (sub_s sz1_s (hx.mul hx)) (sz1_s.add (hx.mul hx))).mono (by omega)
theorem sinT_s (hx:Sz x K):Sz (sinT h x) (4*K+8):=by
  unfold sinT
  split
  · exact sz0_s.mono (by omega)
  exact (div_s (hx.add hx) (sz1_s.add (hx.mul hx))).mono (by omega)
end
end Go.Proofs.YtbfpmofhopglfaaDoor.G
end
section
namespace Go.Proofs.YtbfpmofhopglfaaDoor.G
open Go.Proofs.YtbfpmofhopglfaaDoor.U Go.RowKit
set_option linter.unusedVariables false
set_option maxRecDepth 100000
theorem ri0_k    : CSpec Tryd.prog 33 #[(.int .i64 0)] (Rv (0:Rat)):=by
  exact fn_ok Tryd.func33 (sc:=[(1,1,.fix (Rv (0:Rat)))]) (sb:=[]) (by kernel_rfl) (hC of0_k hN)
theorem ri1_k    : CSpec Tryd.prog 33 #[(.int .i64 1)] (Rv (1:Rat)):=by
  exact fn_ok Tryd.func33 (sc:=[(1,1,.fix (Rv (1:Rat)))]) (sb:=[]) (by kernel_rfl) (hC of1_k hN)
theorem ri2_k    : CSpec Tryd.prog 33 #[(.int .i64 2)] (Rv (2:Rat)):=by
  exact fn_ok Tryd.func33 (sc:=[(1,1,.fix (Rv (2:Rat)))]) (sb:=[]) (by kernel_rfl) (hC of2_k hN)
theorem ri0m1_k    : CSpec Tryd.prog 33 #[(.int .i64 (-1))] (Rv (-1:Rat)):=by
  exact fn_ok Tryd.func33 (sc:=[(1,1,.fix (Rv (-1:Rat)))]) (sb:=[]) (by kernel_rfl) (hC of0m1_k hN)
theorem pl0 {n1:Bool} {a1 b1:ByteArray} {x1:Rat} {K1:Nat} (h1':IsR n1 a1 b1 x1 K1) (k1:K1≤2000000000)  : CSpec Tryd.prog 148 #[(rv n1 a1 b1)] (Rv (x1+(0:Rat))):=by
  have s0:=sz0_s
  have s1:=(isR_s s0)
  exact fn_ok Tryd.func148 (sc:=[(1,1,.fix (Rv (0:Rat))),(1,2,.fix (Rv (x1+(0:Rat))))]) (sb:=[]) (by kernel_rfl) (hC ri0_k (hC (add_k h1' s1 (by omega)) hN))
theorem plain_k {n1:Bool} {a1 b1:ByteArray} {x1:Rat} {K1:Nat} (h1':IsR n1 a1 b1 x1 K1) (k1:K1≤2000000000):CSpec Tryd.prog 148 #[rv n1 a1 b1] (Rv x1):=by
  have:=pl0 h1' k1
  rwa [Rat.add_zero] at this
theorem circf {n5:Bool} {a5 b5:ByteArray} {x5:Rat} {K5:Nat} (h5':IsR n5 a5 b5 x5 K5) (k5:K5≤500000000) (h9:(1:Rat)+x5*x5≠(0:Rat)):CSpec Tryd.prog 80 #[(ag [[.bool false],rr n5 a5 b5])] (.tuple #[Rv ((2:Rat)/((1:Rat)+x5*x5) - (1:Rat)),Rv (x5*((2:Rat)/((1:Rat)+x5*x5)))]):=by
  have s0:=(isR_s (szr h5'))
  have s1:=sz1_s
  have s2:=(isR_s s1)
  have s3:=(mul_s (szr h5') (szr h5'))
  have s4:=(isR_s s3)
  have s5:=sz2_s
  have s6:=(isR_s s5)
  have s7:=(add_s s1 s3)
  have s8:=(isR_s s7)
  have s10:=(div_s s5 s7)
  have s11:=(isR_s s10)
  exact fn_ok Tryd.func80 (sc:=[(3,2,.fix (Rv x5)),(4,0,.fix (Rv (2:Rat))),(4,1,.fix (Rv (1:Rat))),(4,4,.fix (Rv (x5*x5))),(4,5,.fix (Rv ((1:Rat)+x5*x5))),(4,6,.fix (.tuple #[Rv ((2:Rat)/((1:Rat)+x5*x5)),.int IntKind.i64 (0:Int)])),(5,1,.fix (Rv (1:Rat))),(5,2,.fix (Rv ((2:Rat)/((1:Rat)+x5*x5) - (1:Rat)))),(5,5,.fix (Rv (x5*((2:Rat)/((1:Rat)+x5*x5)))))]) (sb:=[]) (by kernel_rfl) (hC (plain_k h5' (by omega)) (hC ri2_k (hC ri1_k (hC (mul_k s0 s0 (by omega)) (hC (add_k s2 s4 (by omega)) (hC (div_k s6 s8 (by omega) h9) (hC ri1_k (hC (sub_k s11 s2 (by omega)) (hC (mul_k s0 s11 (by omega)) hN)))))))))
theorem circh {n5:Bool} {a5 b5:ByteArray}   : CSpec Tryd.prog 80 #[(ag [[.bool true],rr n5 a5 b5])] (.tuple #[Rv (-1:Rat),Rv (0:Rat)]):=by
  exact fn_ok Tryd.func80 (sc:=[(2,0,.fix (Rv (-1:Rat))),(2,1,.fix (Rv (0:Rat)))]) (sb:=[]) (by kernel_rfl) (hC ri0m1_k (hC ri0_k hN))
section
variable {g:Bool} {x y t:Rat} {K:Nat}
theorem circ_x:2/(1+x*x) - 1=cosT false x:=by
  have:=sq_nn x
  simp only [cosT,Bool.false_eq_true,if_false]
  grind
theorem circ_y:x*(2/(1+x*x))=sinT false x:=by
  have:=sq_nn x
  simp only [sinT,Bool.false_eq_true,if_false]
  grind
end
theorem circle_k {g:Bool} {n5:Bool} {a5 b5:ByteArray} {x5:Rat} {K5:Nat} (h5':IsR n5 a5 b5 x5 K5) (k5:K5≤500000000):CSpec Tryd.prog 80 #[ag [[.bool g],rr n5 a5 b5]] (.tuple #[Rv (cosT g x5),Rv (sinT g x5)]):=by
  cases g
  · have:=circf h5' k5 (sq_nn x5)
    rwa [circ_x,circ_y] at this
  exact circh
theorem eq1 {n1:Bool} {a1 b1:ByteArray} {x1:Rat} {K1:Nat}{n2:Bool} {a2 b2:ByteArray} {x2:Rat} {K2:Nat}{n3:Bool} {a3 b3:ByteArray} {x3:Rat} {K3:Nat}{n4:Bool} {a4 b4:ByteArray} {x4:Rat} {K4:Nat} (h1':IsR n1 a1 b1 x1 K1) (k1:K1≤2000000000) (h2':IsR n2 a2 b2 x2 K2) (k2:K2≤2000000000) (h3':IsR n3 a3 b3 x3 K3) (k3:K3≤2000000000) (h4':IsR n4 a4 b4 x4 K4) (k4:K4≤2000000000) (h2:decide (Int.sign (Rat.num (x1 - x3))=(0:Int))=true):CSpec Tryd.prog 75 #[(ag [rr n1 a1 b1,rr n2 a2 b2]),(ag [rr n3 a3 b3,rr n4 a4 b4])] (.bool (decide (Int.sign (Rat.num (x2 - x4))=(0:Int)))):=by
  have s0:=(sub_s (szr h1') (szr h3'))
  have s1:=(isR_s s0)
  have s3:=(sub_s (szr h2') (szr h4'))
  have s4:=(isR_s s3)
  exact fn_ok Tryd.func75 (sc:=[(1,4,.fix (Rv (x1 - x3))),(1,5,.fix (.int IntKind.i64 (Int.sign (Rat.num (x1 - x3))))),(1,6,.is (.c (.bool true))),(1,12,.fix (Rv (x2 - x4))),(1,13,.fix (.int IntKind.i64 (Int.sign (Rat.num (x2 - x4)))))]) (sb:=[]) (by kernel_rfl) (hC (sub_k h1' h3' (by omega)) (hC (sign_k s1 (by omega)) (hP (isB h2) (hC (sub_k h2' h4' (by omega)) (hC (sign_k s4 (by omega)) hN)))))
theorem eq2 {n1:Bool} {a1 b1:ByteArray} {x1:Rat} {K1:Nat}{n2:Bool} {a2 b2:ByteArray} {x2:Rat} {K2:Nat}{n3:Bool} {a3 b3:ByteArray} {x3:Rat} {K3:Nat}{n4:Bool} {a4 b4:ByteArray} {x4:Rat} {K4:Nat} (h1':IsR n1 a1 b1 x1 K1) (k1:K1≤2000000000) (h2':IsR n2 a2 b2 x2 K2) (k2:K2≤2000000000) (h3':IsR n3 a3 b3 x3 K3) (k3:K3≤2000000000) (h4':IsR n4 a4 b4 x4 K4) (k4:K4≤2000000000) (h2:decide (Int.sign (Rat.num (x1 - x3))=(0:Int))=false):CSpec Tryd.prog 75 #[(ag [rr n1 a1 b1,rr n2 a2 b2]),(ag [rr n3 a3 b3,rr n4 a4 b4])] (.bool false):=by
  have s0:=(sub_s (szr h1') (szr h3'))
  have s1:=(isR_s s0)
  exact fn_ok Tryd.func75 (sc:=[(1,4,.fix (Rv (x1 - x3))),(1,5,.fix (.int IntKind.i64 (Int.sign (Rat.num (x1 - x3))))),(1,6,.is (.c (.bool false)))]) (sb:=[]) (by kernel_rfl) (hC (sub_k h1' h3' (by omega)) (hC (sign_k s1 (by omega)) (hP (isB h2) hN)))
end Go.Proofs.YtbfpmofhopglfaaDoor.G
end
section
namespace Go.Proofs.YtbfpmofhopglfaaDoor.G
open Go.Proofs.YtbfpmofhopglfaaDoor.U Go.RowKit
set_option linter.unusedVariables false
set_option maxRecDepth 100000
theorem sg1 {n1:Bool} {a1 b1:ByteArray} {x1:Rat} {K1:Nat}{n2:Bool} {a2 b2:ByteArray} {x2:Rat} {K2:Nat} (h1':IsR n1 a1 b1 x1 K1) (k1:K1≤2000000000) (h2':IsR n2 a2 b2 x2 K2) (k2:K2≤2000000000) (h0:gd n1 a1 b1=true) (h1:gd n2 a2 b2=true):CSpec Tryd.prog 99 #[(ag [rr n1 a1 b1,rr n2 a2 b2])] (.bool (decide (cmpR x1 x2≤(0:Int)))):=by
  exact fn_ok Tryd.func99 (sc:=[(1,2,.fix (.bool true)),(1,6,.fix (.bool true)),(1,13,.fix (.int IntKind.i64 (cmpR x1 x2)))]) (sb:=[]) (by kernel_rfl) (hC (cbool (goodb_k h1' (by omega)) h0) (hC (cbool (goodb_k h2' (by omega)) h1) (hC (cmp_k h1' h2' (by omega)) hN)))
theorem sg2 {n1:Bool} {a1 b1:ByteArray} {x1:Rat} {K1:Nat}{n2:Bool} {a2 b2:ByteArray} {x2:Rat} {K2:Nat} (h1':IsR n1 a1 b1 x1 K1) (k1:K1≤2000000000) (h2':IsR n2 a2 b2 x2 K2) (k2:K2≤2000000000) (h0:gd n1 a1 b1=true) (h1:gd n2 a2 b2=false):CSpec Tryd.prog 99 #[(ag [rr n1 a1 b1,rr n2 a2 b2])] (.bool false):=by
  exact fn_ok Tryd.func99 (sc:=[(1,2,.fix (.bool true)),(1,6,.fix (.bool false))]) (sb:=[]) (by kernel_rfl) (hC (cbool (goodb_k h1' (by omega)) h0) (hC (cbool (goodb_k h2' (by omega)) h1) hN))
theorem sg3 {n1:Bool} {a1 b1:ByteArray} {x1:Rat} {K1:Nat}{n2:Bool} {a2 b2:ByteArray} {x2:Rat} {K2:Nat} (h1':IsR n1 a1 b1 x1 K1) (k1:K1≤2000000000) (h2':IsR n2 a2 b2 x2 K2) (k2:K2≤2000000000) (h0:gd n1 a1 b1=false):CSpec Tryd.prog 99 #[(ag [rr n1 a1 b1,rr n2 a2 b2])] (.bool false):=by
  exact fn_ok Tryd.func99 (sc:=[(1,2,.fix (.bool false))]) (sb:=[]) (by kernel_rfl) (hC (cbool (goodb_k h1' (by omega)) h0) hN)
noncomputable def gs (n1:Bool) (a1 b1:ByteArray) (n2:Bool) (a2 b2:ByteArray):Bool:=gd n1 a1 b1&&(gd n2 a2 b2&&decide (qv n1 a1 b1≤qv n2 a2 b2))
theorem sgood_k {n1:Bool} {a1 b1:ByteArray} {x1:Rat} {K1:Nat}{n2:Bool} {a2 b2:ByteArray} {x2:Rat} {K2:Nat} (h1':IsR n1 a1 b1 x1 K1) (k1:K1≤2000000000) (h2':IsR n2 a2 b2 x2 K2) (k2:K2≤2000000000):CSpec Tryd.prog 99 #[ag [rr n1 a1 b1,rr n2 a2 b2]] (.bool (gs n1 a1 b1 n2 a2 b2)):=by
  have e1:=h1'.eq
  have e2:=h2'.eq
  unfold gs
  rw [e1,e2]
  cases g1:gd n1 a1 b1 with
  | false=>exact sg3 h1' k1 h2' k2 g1
  | true=>cases g2:gd n2 a2 b2 with
    | false=>exact sg2 h1' k1 h2' k2 g1 g2
    | true =>
      have:=sg1 h1' k1 h2' k2 g1 g2
      simpa only [cmpR_le,Bool.true_and] using this
theorem sof_k {n1:Bool} {a1 b1:ByteArray} {x1:Rat} {K1:Nat} (h1':IsR n1 a1 b1 x1 K1) (k1:K1≤2000000000)  : CSpec Tryd.prog 100 #[(rv n1 a1 b1)] (ag [rc x1,rc x1]):=by
  exact fn_ok Tryd.func100 (sc:=[(1,2,.fix (Rv x1))]) (sb:=[]) (by kernel_rfl) (hC (mi_self_k h1' (by omega)) hN)
theorem sf1 {n1:Bool} {a1 b1:ByteArray} {x1:Rat} {K1:Nat}{n2:Bool} {a2 b2:ByteArray} {x2:Rat} {K2:Nat} (h1':IsR n1 a1 b1 x1 K1) (k1:K1≤2000000000) (h2':IsR n2 a2 b2 x2 K2) (k2:K2≤2000000000) (h0:gs n1 a1 b1 n2 a2 b2=true):CSpec Tryd.prog 167 #[(ag [rr n1 a1 b1,rr n2 a2 b2])] (ag [rr n1 a1 b1,rr n2 a2 b2]):=by
  exact fn_ok Tryd.func167 (sc:=[(1,1,.fix (.bool true))]) (sb:=[]) (by kernel_rfl) (hC (cbool (sgood_k h1' k1 h2' k2) h0) hN)
theorem sf2 {n1:Bool} {a1 b1:ByteArray} {x1:Rat} {K1:Nat}{n2:Bool} {a2 b2:ByteArray} {x2:Rat} {K2:Nat} (h1':IsR n1 a1 b1 x1 K1) (k1:K1≤2000000000) (h2':IsR n2 a2 b2 x2 K2) (k2:K2≤2000000000) (h0:gs n1 a1 b1 n2 a2 b2=false):CSpec Tryd.prog 167 #[(ag [rr n1 a1 b1,rr n2 a2 b2])] (ag [rc (0:Rat),rc (0:Rat)]):=by
  have s1:=sz0_s
  have s2:=(isR_s s1)
  exact fn_ok Tryd.func167 (sc:=[(1,1,.fix (.bool false)),(2,0,.fix (Rv (0:Rat))),(2,1,.fix (ag [rc (0:Rat),rc (0:Rat)]))]) (sb:=[]) (by kernel_rfl) (hC (cbool (sgood_k h1' k1 h2' k2) h0) (hC of0_k (hC (sof_k s2 (by decide +kernel)) hN)))
theorem pr1 {n1:Bool} {a1 b1:ByteArray} {x1:Rat} {K1:Nat}{n2:Bool} {a2 b2:ByteArray} {x2:Rat} {K2:Nat} (h1':IsR n1 a1 b1 x1 K1) (k1:K1≤2000000000) (h2':IsR n2 a2 b2 x2 K2) (k2:K2≤2000000000) (h0:gd n1 a1 b1=true) (h1:gd n2 a2 b2=true) (h4:decide ((0:Int)≤Int.sign (Rat.num (x2 - x1)))=true):CSpec Tryd.prog 85 #[(ag [rr n1 a1 b1,rr n2 a2 b2])] (ag [rr n1 a1 b1,rr n2 a2 b2]):=by
  have s2:=(sub_s (szr h2') (szr h1'))
  have s3:=(isR_s s2)
  exact fn_ok Tryd.func85 (sc:=[(1,2,.fix (.bool true)),(1,6,.fix (.bool true)),(1,13,.fix (Rv (x2 - x1))),(1,14,.fix (.int IntKind.i64 (Int.sign (Rat.num (x2 - x1))))),(1,15,.is (.c (.bool true)))]) (sb:=[]) (by kernel_rfl) (hC (cbool (goodb_k h1' (by omega)) h0) (hC (cbool (goodb_k h2' (by omega)) h1) (hC (sub_k h2' h1' (by omega)) (hC (sign_k s3 (by omega)) (hP (isB h4) hN)))))
theorem pr2 {n1:Bool} {a1 b1:ByteArray} {x1:Rat} {K1:Nat}{n2:Bool} {a2 b2:ByteArray} {x2:Rat} {K2:Nat} (h1':IsR n1 a1 b1 x1 K1) (k1:K1≤2000000000) (h2':IsR n2 a2 b2 x2 K2) (k2:K2≤2000000000) (h0:gd n1 a1 b1=true) (h1:gd n2 a2 b2=true) (h4:decide ((0:Int)≤Int.sign (Rat.num (x2 - x1)))=false):CSpec Tryd.prog 85 #[(ag [rr n1 a1 b1,rr n2 a2 b2])] (ag [rc (0:Rat),rc (0:Rat)]):=by
  have s2:=(sub_s (szr h2') (szr h1'))
  have s3:=(isR_s s2)
  exact fn_ok Tryd.func85 (sc:=[(1,2,.fix (.bool true)),(1,6,.fix (.bool true)),(1,13,.fix (Rv (x2 - x1))),(1,14,.fix (.int IntKind.i64 (Int.sign (Rat.num (x2 - x1))))),(1,15,.is (.c (.bool false))),(3,0,.fix (Rv (0:Rat))),(3,1,.fix (Rv (0:Rat)))]) (sb:=[]) (by kernel_rfl) (hC (cbool (goodb_k h1' (by omega)) h0) (hC (cbool (goodb_k h2' (by omega)) h1) (hC (sub_k h2' h1' (by omega)) (hC (sign_k s3 (by omega)) (hP (isB h4) (hC ri0_k (hC ri0_k hN)))))))
theorem pr3 {n1:Bool} {a1 b1:ByteArray} {x1:Rat} {K1:Nat}{n2:Bool} {a2 b2:ByteArray} {x2:Rat} {K2:Nat} (h1':IsR n1 a1 b1 x1 K1) (k1:K1≤2000000000) (h2':IsR n2 a2 b2 x2 K2) (k2:K2≤2000000000) (h0:gd n1 a1 b1=true) (h1:gd n2 a2 b2=false):CSpec Tryd.prog 85 #[(ag [rr n1 a1 b1,rr n2 a2 b2])] (ag [rc (0:Rat),rc (0:Rat)]):=by
  exact fn_ok Tryd.func85 (sc:=[(1,2,.fix (.bool true)),(1,6,.fix (.bool false)),(3,0,.fix (Rv (0:Rat))),(3,1,.fix (Rv (0:Rat)))]) (sb:=[]) (by kernel_rfl) (hC (cbool (goodb_k h1' (by omega)) h0) (hC (cbool (goodb_k h2' (by omega)) h1) (hC ri0_k (hC ri0_k hN))))
theorem pr4 {n1:Bool} {a1 b1:ByteArray} {x1:Rat} {K1:Nat}{n2:Bool} {a2 b2:ByteArray} {x2:Rat} {K2:Nat} (h1':IsR n1 a1 b1 x1 K1) (k1:K1≤2000000000) (h2':IsR n2 a2 b2 x2 K2) (k2:K2≤2000000000) (h0:gd n1 a1 b1=false):CSpec Tryd.prog 85 #[(ag [rr n1 a1 b1,rr n2 a2 b2])] (ag [rc (0:Rat),rc (0:Rat)]):=by
  exact fn_ok Tryd.func85 (sc:=[(1,2,.fix (.bool false)),(3,0,.fix (Rv (0:Rat))),(3,1,.fix (Rv (0:Rat)))]) (sb:=[]) (by kernel_rfl) (hC (cbool (goodb_k h1' (by omega)) h0) (hC ri0_k (hC ri0_k hN)))
end Go.Proofs.YtbfpmofhopglfaaDoor.G
end
section
namespace Go.Proofs.YtbfpmofhopglfaaDoor.G
open Go.Proofs.YtbfpmofhopglfaaDoor.U Go.RowKit
set_option linter.unusedVariables false
set_option maxRecDepth 100000
def numC (l:List Rat):List V:=nv (l.map rc)
theorem numC_cons (x:Rat) (l:List Rat):numC (x::l)=(rc x).map V.c++numC l:=by simp [numC,nv]
theorem numC_at:∀ {l:List Rat} {i:Nat} {x:Rat},l[i]? = some x→((numC l).drop (i*3)).take 3=(rc x).map V.c
  | [],i,x,h=>by simp at h
  | y::l,0,x,h=>by
    simp only [List.getElem?_cons_zero,Option.some.injEq] at h
    subst h
    rw [numC_cons]
    rfl
  | y::l,i+1,x,h=>by
    rw [numC_cons,show (i+1)*3=3+i*3 by omega,← List.drop_drop]
    exact numC_at (by simpa using h)
theorem numC_ld {l:List Rat} {o i:Nat} {x:Rat} (h:l[i]? = some x) (ho:o=i*3):((numC l).drop o).take 3=(rc x).map V.c∧(rc x).toArray.size=3:=by
  subst ho
  exact ⟨numC_at h,rfl⟩
theorem numC_flat (l:List Rat):∀ v:V,v∈numC l→v.isC=true:=by
  intro v hv
  obtain ⟨u,_,rfl⟩:=List.mem_map.1 hv
  rfl
theorem inc_i {i n:Nat} (h:i < n) (hn:n < 4611686018427387904):V.c (.int .i64 (IntKind.wrap .i64 ((i:Int)+1)))=V.c (.int .i64 ((i+1:Nat):Int)):=by
  congr 2
  rw [IntKind.wrap_i64]
  push_cast
  omega
theorem mn_sz {x y:Rat} {K:Nat} (hx:Sz x K) (hy:Sz y K):Sz (mn x y) K:=by unfold mn; split<;>assumption
theorem mx_sz {x y:Rat} {K:Nat} (hx:Sz x K) (hy:Sz y K):Sz (mx x y) K:=by unfold mx; split<;>assumption
def zr:List Value:=[.bool false,.string ⟨#[]⟩,.string ⟨#[]⟩]
def arS (l:List Rat) (i m:Nat) (lo hi:Rat):St:=⟨slots 29 0 [(2,.p 1 0),(3,.p 2 0),(11,.sl 0 3 m m),(12,vI (m:Nat)),(13,vI (i:Nat))],[some ⟨false,numC l⟩,some ⟨true,nv [zr,zr]⟩,some ⟨true,nv [rc lo,rc hi]⟩]⟩
section
variable {l:List Rat} {i m n K:Nat} {lo hi x:Rat}
theorem ar_go (hx:l[i+1]? = some x) (hi':i < m) (hm:m < 4611686018427387904) (s1:Sz lo K) (s2:Sz hi K) (s3:Sz x K) (hK:K≤1000000000):TSpec Tryd.prog (loopOf Tryd.f168 0) (arS l i m lo hi) .normal (arS l (i+1) m (mn lo x) (mx hi x)) :=
  tspec_dim (sc:=[(3,0,.is vT),(4,1,.fix (Rv x)),(5,3,.fix (Rv (mn lo x))),(5,7,.fix (Rv (mx hi x))),(6,0,.is (vI ((i+1:Nat):Int)))]) (sb:=[]) (mask 29 0 [2,3,11,12,13]) 3 (by kernel_rfl)
    (hP (isB (decide_eq_true (show (i:Int) < (m:Int) by omega))) (hP (show (0:Int)≤(i:Int)∧(i:Int) < (m:Int) by omega) (hP (numC_ld (o:=3+i*3) hx (by omega)) (hC (min_k (isR_s s1) (isR_s s3) (by omega)) (hC (max_k (isR_s s2) (isR_s s3) (by omega)) (hP (inc_i hi' hm) hN))))))
    ⟨numC_flat l,flatB_flat rfl⟩
theorem ar_end:TSpec Tryd.prog (loopOf Tryd.f168 0) (arS l m m lo hi) (.exit 0) (arS l m m lo hi) :=
  tspec_dim (sc:=[(3,0,.is vF)]) (sb:=[]) (mask 29 0 [2,3,11,12,13]) 3 (by kernel_rfl) (hP (isB (decide_eq_false (show ¬ (m:Int) < (m:Int) by omega))) hN) ⟨numC_flat l,flatB_flat rfl⟩
theorem ar_loop (hm:m < 4611686018427387904) (hK:K≤1000000000):∀ (r:List Rat) (i:Nat) (lo hi:Rat),l.drop (i+1)=r→i+r.length=m→(∀ y∈r,Sz y K)→Sz lo K→Sz hi K →
    Rounds Tryd.prog (loopOf Tryd.f168 0) 0 (arS l i m lo hi) .normal (arS l m m (r.foldl mn lo) (r.foldl mx hi))
  | [],i,lo,hi,_,hl,_,_,_=>by
    have:i=m:=by simpa using hl
    subst this
    exact .stop ar_end
  | x::r,i,lo,hi,hd,hl,hs,s1,s2=>by
    have hx:l[i+1]? = some x:=by
      have:=congrArg (fun q=>q[0]?) hd
      simpa [List.getElem?_drop] using this
    have s3:=hs x List.mem_cons_self
    simp only [List.length_cons] at hl
    refine .step (ar_go hx (by omega) hm s1 s2 s3 hK) (ar_loop hm hK r (i+1) _ _ ?_ (by omega) (fun y hy=>hs y (List.mem_cons_of_mem _ hy)) (mn_sz s1 s3) (mx_sz s2 s3))
    have:=congrArg (List.drop 1) hd
    rwa [List.drop_drop] at this
theorem sl_from1 (hm:0 < m):V.sl 0 (0+(if m+1=Int.toNat 1 then 0 else Int.toNat 1*3)) (Int.toNat ((m+1:Nat):Int) - Int.toNat 1) (m+1 - Int.toNat 1)=V.sl 0 3 m m:=by
  rw [if_neg (by simp; omega)]
  simp
theorem around_g (r:List Rat) (h0:0 < r.length) (hn:r.length < 1000000000) (s0:Sz x K) (hs:∀ y∈r,Sz y K) (hK:K≤1000000000):FSpec Tryd.prog 168 [.sl 0 0 (r.length+1) (r.length+1)] [some ⟨false,numC (x::r)⟩] (.c (ag [rc (r.foldl mn x),rc (r.foldl mx x)])) [some ⟨false,numC (x::r)⟩] :=
  fspec_ok Tryd.func168 (sc:=[(1,2,.fix (Rv x)),(1,3,.fix (ag [rc x,rc x])),(2,1,.is (.sl 0 3 r.length r.length)),(0,99999,.mask (mask 29 0 [2,3,11,12,13]))]) (sb:=[(0,.normal,arS (x::r) r.length r.length (r.foldl mn x) (r.foldl mx x))]) (keep:=[]) (by kernel_rfl)
    (hP (show Flat [some ⟨false,numC (x::r)⟩] from ⟨numC_flat _,trivial⟩) (hP (show (0:Int)≤0∧(0:Int) < ((r.length+1:Nat):Int) by omega) (hP (numC_ld (l:=x::r) (o:=0) (i:=0) rfl rfl) (hC (sof_k (isR_s s0) (by omega)) (hP (sl_from1 h0)
      (hP (show (0:Int)≤1∧(1:Int)≤((r.length+1:Nat):Int)∧((r.length+1:Nat):Int)≤((r.length+1:Nat):Int) by omega)
      (hP (show Flat (arS (x::r) 0 r.length x x).m from ⟨numC_flat _,flatB_flat rfl⟩) (hP (ar_loop (l:=x::r) (m:=r.length) (by omega) hK r 0 x x rfl (by omega) hs s0 s0).spec hN))))))))
end
def brS (cp:Nat) (l:List Rat) (i n:Nat) (lo hi:Rat):St:=⟨slots 35 0 [(2,.p 1 0),(3,.p 2 0),(13,.sl 0 0 n cp),(14,vI (n:Nat)),(15,vI (i:Nat))],[some ⟨false,numC l⟩,some ⟨true,nv [zr,zr]⟩,some ⟨true,nv [rc lo,rc hi]⟩]⟩
section
variable {l:List Rat} {i m n K cp:Nat} {lo hi x:Rat}
theorem br_1 (hx:l[i]? = some x) (hi':i < n) (hm:n < 4611686018427387904) (s1:Sz lo K) (s2:Sz hi K) (s3:Sz x K) (hK:K≤1000000000) (c1:x < lo) (c2:hi < x):TSpec Tryd.prog (loopOf Tryd.f91 0) (brS cp l i n lo hi) .normal (brS cp l (i+1) n x x) :=
  tspec_dim (sc:=[(3,0,.is vT),(4,1,.fix (Rv x)),(5,3,.fix (.int .i64 (cmpR x lo))),(5,4,.is vT),(7,3,.fix (.int .i64 (cmpR x hi))),(7,4,.is vT),(9,0,.is (vI ((i+1:Nat):Int)))]) (sb:=[]) (mask 35 0 [2,3,13,14,15]) 3 (by kernel_rfl)
    (hP (isB (decide_eq_true (show (i:Int) < (n:Int) by omega))) (hP (show (0:Int)≤(i:Int)∧(i:Int) < (n:Int) by omega) (hP (numC_ld (o:=0+i*3) hx (by omega)) (hC (cmp_k (isR_s s3) (isR_s s1) (by omega)) (hP (isB (decide_eq_true (cmpR_lt.2 c1)))
      (hC (cmp_k (isR_s s3) (isR_s s2) (by omega)) (hP (isB (decide_eq_true (cmpR_gt.2 c2))) (hP (inc_i hi' hm) hN)))))))) ⟨numC_flat l,flatB_flat rfl⟩
theorem br_2 (hx:l[i]? = some x) (hi':i < n) (hm:n < 4611686018427387904) (s1:Sz lo K) (s2:Sz hi K) (s3:Sz x K) (hK:K≤1000000000) (c1:x < lo) (c2:¬ hi < x):TSpec Tryd.prog (loopOf Tryd.f91 0) (brS cp l i n lo hi) .normal (brS cp l (i+1) n x hi) :=
  tspec_dim (sc:=[(3,0,.is vT),(4,1,.fix (Rv x)),(5,3,.fix (.int .i64 (cmpR x lo))),(5,4,.is vT),(7,3,.fix (.int .i64 (cmpR x hi))),(7,4,.is vF),(9,0,.is (vI ((i+1:Nat):Int)))]) (sb:=[]) (mask 35 0 [2,3,13,14,15]) 3 (by kernel_rfl)
    (hP (isB (decide_eq_true (show (i:Int) < (n:Int) by omega))) (hP (show (0:Int)≤(i:Int)∧(i:Int) < (n:Int) by omega) (hP (numC_ld (o:=0+i*3) hx (by omega)) (hC (cmp_k (isR_s s3) (isR_s s1) (by omega)) (hP (isB (decide_eq_true (cmpR_lt.2 c1)))
      (hC (cmp_k (isR_s s3) (isR_s s2) (by omega)) (hP (isB (decide_eq_false (fun h=>c2 (cmpR_gt.1 h)))) (hP (inc_i hi' hm) hN)))))))) ⟨numC_flat l,flatB_flat rfl⟩
theorem br_3 (hx:l[i]? = some x) (hi':i < n) (hm:n < 4611686018427387904) (s1:Sz lo K) (s2:Sz hi K) (s3:Sz x K) (hK:K≤1000000000) (c1:¬ x < lo) (c2:hi < x):TSpec Tryd.prog (loopOf Tryd.f91 0) (brS cp l i n lo hi) .normal (brS cp l (i+1) n lo x) :=
  tspec_dim (sc:=[(3,0,.is vT),(4,1,.fix (Rv x)),(5,3,.fix (.int .i64 (cmpR x lo))),(5,4,.is vF),(7,3,.fix (.int .i64 (cmpR x hi))),(7,4,.is vT),(9,0,.is (vI ((i+1:Nat):Int)))]) (sb:=[]) (mask 35 0 [2,3,13,14,15]) 3 (by kernel_rfl)
    (hP (isB (decide_eq_true (show (i:Int) < (n:Int) by omega))) (hP (show (0:Int)≤(i:Int)∧(i:Int) < (n:Int) by omega) (hP (numC_ld (o:=0+i*3) hx (by omega)) (hC (cmp_k (isR_s s3) (isR_s s1) (by omega)) (hP (isB (decide_eq_false (fun h=>c1 (cmpR_lt.1 h))))
      (hC (cmp_k (isR_s s3) (isR_s s2) (by omega)) (hP (isB (decide_eq_true (cmpR_gt.2 c2))) (hP (inc_i hi' hm) hN)))))))) ⟨numC_flat l,flatB_flat rfl⟩
theorem br_4 (hx:l[i]? = some x) (hi':i < n) (hm:n < 4611686018427387904) (s1:Sz lo K) (s2:Sz hi K) (s3:Sz x K) (hK:K≤1000000000) (c1:¬ x < lo) (c2:¬ hi < x):TSpec Tryd.prog (loopOf Tryd.f91 0) (brS cp l i n lo hi) .normal (brS cp l (i+1) n lo hi) :=
  tspec_dim (sc:=[(3,0,.is vT),(4,1,.fix (Rv x)),(5,3,.fix (.int .i64 (cmpR x lo))),(5,4,.is vF),(7,3,.fix (.int .i64 (cmpR x hi))),(7,4,.is vF),(9,0,.is (vI ((i+1:Nat):Int)))]) (sb:=[]) (mask 35 0 [2,3,13,14,15]) 3 (by kernel_rfl)
    (hP (isB (decide_eq_true (show (i:Int) < (n:Int) by omega))) (hP (show (0:Int)≤(i:Int)∧(i:Int) < (n:Int) by omega) (hP (numC_ld (o:=0+i*3) hx (by omega)) (hC (cmp_k (isR_s s3) (isR_s s1) (by omega)) (hP (isB (decide_eq_false (fun h=>c1 (cmpR_lt.1 h))))
      (hC (cmp_k (isR_s s3) (isR_s s2) (by omega)) (hP (isB (decide_eq_false (fun h=>c2 (cmpR_gt.1 h)))) (hP (inc_i hi' hm) hN)))))))) ⟨numC_flat l,flatB_flat rfl⟩
theorem mn_if (lo x:Rat):mn lo x=if x < lo then x else lo:=by
  unfold mn
  by_cases h:x < lo
  · rw [if_pos h,if_neg (Rat.not_le.2 h)]
  rw [if_neg h,if_pos (Rat.not_lt.1 h)]
theorem mx_if (hi x:Rat):mx hi x=if hi < x then x else hi:=by
  unfold mx
  by_cases h:hi < x
  · rw [if_pos h,if_neg (Rat.not_le.2 h)]
  rw [if_neg h,if_pos (Rat.not_lt.1 h)]
theorem br_go (hx:l[i]? = some x) (hi':i < n) (hm:n < 4611686018427387904) (s1:Sz lo K) (s2:Sz hi K) (s3:Sz x K) (hK:K≤1000000000):TSpec Tryd.prog (loopOf Tryd.f91 0) (brS cp l i n lo hi) .normal (brS cp l (i+1) n (mn lo x) (mx hi x)):=by
  rw [mn_if,mx_if]
  by_cases c1:x < lo<;>by_cases c2:hi < x
  · rw [if_pos c1,if_pos c2]; exact br_1 hx hi' hm s1 s2 s3 hK c1 c2
  · rw [if_pos c1,if_neg c2]; exact br_2 hx hi' hm s1 s2 s3 hK c1 c2
  · rw [if_neg c1,if_pos c2]; exact br_3 hx hi' hm s1 s2 s3 hK c1 c2
  rw [if_neg c1,if_neg c2]; exact br_4 hx hi' hm s1 s2 s3 hK c1 c2
theorem br_end:TSpec Tryd.prog (loopOf Tryd.f91 0) (brS cp l n n lo hi) (.exit 0) (brS cp l n n lo hi) :=
  tspec_dim (sc:=[(3,0,.is vF)]) (sb:=[]) (mask 35 0 [2,3,13,14,15]) 3 (by kernel_rfl) (hP (isB (decide_eq_false (show ¬ (n:Int) < (n:Int) by omega))) hN) ⟨numC_flat l,flatB_flat rfl⟩
theorem br_loop (hm:n < 4611686018427387904) (hK:K≤1000000000):∀ (r:List Rat) (i:Nat) (lo hi:Rat),l.drop i=r→i+r.length=n→(∀ y∈r,Sz y K)→Sz lo K→Sz hi K →
    Rounds Tryd.prog (loopOf Tryd.f91 0) 0 (brS cp l i n lo hi) .normal (brS cp l n n (r.foldl mn lo) (r.foldl mx hi))
  | [],i,lo,hi,_,hl,_,_,_=>by
    have:i=n:=by simpa using hl
    subst this
    exact .stop br_end
  | x::r,i,lo,hi,hd,hl,hs,s1,s2=>by
    have hx:l[i]? = some x:=by
      have:=congrArg (fun q=>q[0]?) hd
      simpa [List.getElem?_drop] using this
    have s3:=hs x List.mem_cons_self
    simp only [List.length_cons] at hl
    refine .step (br_go hx (by omega) hm s1 s2 s3 hK) (br_loop hm hK r (i+1) _ _ ?_ (by omega) (fun y hy=>hs y (List.mem_cons_of_mem _ hy)) (mn_sz s1 s3) (mx_sz s2 s3))
    have:=congrArg (List.drop 1) hd
    rwa [List.drop_drop] at this
theorem rAround_g (r:List Rat) (hn:r.length < 1000000000) (s0:Sz x K) (hs:∀ y∈r,Sz y K) (hK:K≤1000000000):FSpec Tryd.prog 91 [.sl 0 0 (r.length+1) cp] [some ⟨false,numC (x::r)⟩] (.c (ag [rc (r.foldl mn x),rc (r.foldl mx x)])) [some ⟨false,numC (x::r)⟩]:=by
  have hl:=(br_loop (cp:=cp) (l:=x::r) (n:=r.length+1) (by omega) hK (x::r) 0 x x rfl (by simp) (fun y hy=>by
    rcases List.mem_cons.1 hy with rfl | hy
    · exact s0
    exact hs y hy) s0 s0).spec
  simp only [List.foldl_cons,mn_self,mx_self] at hl
  exact fspec_ok Tryd.func91 (sc:=[(1,2,.fix (Rv x)),(1,5,.fix (Rv x)),(0,99999,.mask (mask 35 0 [2,3,13,14,15]))]) (sb:=[(0,.normal,brS cp (x::r) (r.length+1) (r.length+1) (r.foldl mn x) (r.foldl mx x))]) (keep:=[]) (by kernel_rfl)
    (hP (show Flat [some ⟨false,numC (x::r)⟩] from ⟨numC_flat _,trivial⟩) (hP (show (0:Int)≤0∧(0:Int) < ((r.length+1:Nat):Int) by omega) (hP (numC_ld (l:=x::r) (o:=0) (i:=0) rfl rfl) (hP (show (0:Int)≤0∧(0:Int) < ((r.length+1:Nat):Int) by omega) (hP (numC_ld (l:=x::r) (o:=0) (i:=0) rfl rfl)
      (hP (show Flat (brS cp (x::r) 0 (r.length+1) x x).m from ⟨numC_flat _,flatB_flat rfl⟩) (hP hl hN)))))))
end
section
variable {x y z u:Rat} {K L M N cp:Nat}
theorem around2_k (h1:Sz x K) (h2:Sz y L) (hs:K+L≤1000000000):FSpec Tryd.prog 168 [.sl 0 0 2 2] [some ⟨false,nv [rc x,rc y]⟩] (.c (ag [rc (mn x y),rc (mx x y)])) [some ⟨false,nv [rc x,rc y]⟩] :=
  around_g (K:=K+L) [y] (by simp) (by simp) (h1.mono (by omega)) (by intro w hw; simp at hw; subst hw; exact h2.mono (by omega)) hs
theorem rAround2_k (h1:Sz x K) (h2:Sz y L) (hs:K+L≤1000000000):FSpec Tryd.prog 91 [.sl 0 0 2 cp] [some ⟨false,nv [rc x,rc y]⟩] (.c (ag [rc (mn x y),rc (mx x y)])) [some ⟨false,nv [rc x,rc y]⟩] :=
  rAround_g (K:=K+L) [y] (by simp) (h1.mono (by omega)) (by intro w hw; simp at hw; subst hw; exact h2.mono (by omega)) hs
theorem rAround3_k (h1:Sz x K) (h2:Sz y L) (h3:Sz z M) (hs:K+L+M≤1000000000):FSpec Tryd.prog 91 [.sl 0 0 3 cp] [some ⟨false,nv [rc x,rc y,rc z]⟩] (.c (ag [rc (mn (mn x y) z),rc (mx (mx x y) z)])) [some ⟨false,nv [rc x,rc y,rc z]⟩] :=
  rAround_g (K:=K+L+M) [y,z] (by simp) (h1.mono (by omega)) (by intro w hw; simp at hw; rcases hw with rfl | rfl<;>first | exact h2.mono (by omega) | exact h3.mono (by omega)) hs
theorem rAround4_k (h1:Sz x K) (h2:Sz y L) (h3:Sz z M) (h4:Sz u N) (hs:K+L+M+N≤1000000000):FSpec Tryd.prog 91 [.sl 0 0 4 cp] [some ⟨false,nv [rc x,rc y,rc z,rc u]⟩] (.c (ag [rc (mn (mn (mn x y) z) u),rc (mx (mx (mx x y) z) u)])) [some ⟨false,nv [rc x,rc y,rc z,rc u]⟩] :=
  rAround_g (K:=K+L+M+N) [y,z,u] (by simp) (h1.mono (by omega)) (by intro w hw; simp at hw; rcases hw with rfl | rfl | rfl<;>first | exact h2.mono (by omega) | exact h3.mono (by omega) | exact h4.mono (by omega)) hs
end
end Go.Proofs.YtbfpmofhopglfaaDoor.G
end
section
namespace Go.Proofs.YtbfpmofhopglfaaDoor.G
open Go.Proofs.YtbfpmofhopglfaaDoor.U Go.RowKit
set_option linter.unusedVariables false
set_option maxRecDepth 100000
structure IsS (n1:Bool) (a1 b1:ByteArray) (n2:Bool) (a2 b2:ByteArray) (x y:Rat) (K:Nat):Prop where
  fit:CSpec Tryd.prog 167 #[ag [rr n1 a1 b1,rr n2 a2 b2]] (ag [rc x,rc y])
  pair:CSpec Tryd.prog 85 #[ag [rr n1 a1 b1,rr n2 a2 b2]] (ag [rc x,rc y])
  le:x≤y
  sx:Sz x K
  sy:Sz y K
def sl (g:Bool) (x:Rat):Rat:=if g then x else 0
theorem rr_can {n:Bool} {a b:ByteArray} {x:Rat} (h:gd n a b=true) (e:qv n a b=x):rr n a b=rc x:=by
  have:=gd_can h
  rw [e] at this
  injection this with h1
  injection h1 with h2
theorem dif_le {x y:Rat}:0≤(y - x).num.sign↔x≤y:=by
  have h:=sign_lt (x:=y - x)
  have h2:y - x < 0↔y < x:=by constructor<;>intro h<;>grind
  rw [← Rat.not_lt,← h2,← h]
  omega
theorem IsS.raw {n1 n2:Bool} {a1 b1 a2 b2:ByteArray} {x y:Rat} {K:Nat} (h1:IsR n1 a1 b1 x K) (h2:IsR n2 a2 b2 y K) (hK:K≤2000000000) (k1:1≤K):IsS n1 a1 b1 n2 a2 b2 (sl (gs n1 a1 b1 n2 a2 b2) x) (sl (gs n1 a1 b1 n2 a2 b2) y) K:=by
  have e1:=h1.eq
  have e2:=h2.eq
  cases hg:gs n1 a1 b1 n2 a2 b2 with
  | true =>
    have hg':=hg
    unfold gs at hg'
    rw [e1,e2,Bool.and_eq_true,Bool.and_eq_true] at hg'
    obtain ⟨g1,g2,g3⟩:=hg'
    have hle:=of_decide_eq_true g3
    have c1:=rr_can g1 e1
    have c2:=rr_can g2 e2
    refine ⟨?_,?_,hle,h1.sz,h2.sz⟩
    · have:=sf1 h1 hK h2 hK hg
      show CSpec _ _ _ (ag [rc x,rc y])
      rw [← c1,← c2]
      exact this
    have:=pr1 h1 hK h2 hK g1 g2 (decide_eq_true (dif_le.2 hle))
    show CSpec _ _ _ (ag [rc x,rc y])
    rw [← c1,← c2]
    exact this
  | false =>
    have z:Sz 0 K:=sz0_s.mono k1
    refine ⟨sf2 h1 hK h2 hK hg,?_,Rat.le_refl,z,z⟩
    unfold gs at hg
    rw [e1,e2] at hg
    cases g1:gd n1 a1 b1 with
    | false=>exact pr4 h1 hK h2 hK g1
    | true=>cases g2:gd n2 a2 b2 with
      | false=>exact pr3 h1 hK h2 hK g1 g2
      | true =>
        rw [g1,g2] at hg
        have hle:¬ x≤y:=by simpa using hg
        exact pr2 h1 hK h2 hK g1 g2 (decide_eq_false (fun h=>hle (dif_le.1 h)))
theorem isS_s {x y:Rat} {K L:Nat} (h1:Sz x K) (h2:Sz y L) (hle:x≤y) (hK:K+L≤2000000000):IsS (decide (x.num < 0)) (M.B x.num.natAbs) (M.B x.den) (decide (y.num < 0)) (M.B y.num.natAbs) (M.B y.den) x y (K+L+1):=by
  have i1:IsR (decide (x.num < 0)) (M.B x.num.natAbs) (M.B x.den) x (K+L):=isR_s (h1.mono (by omega))
  have i2:IsR (decide (y.num < 0)) (M.B y.num.natAbs) (M.B y.den) y (K+L):=isR_s (h2.mono (by omega))
  have hg:gs (decide (x.num < 0)) (M.B x.num.natAbs) (M.B x.den) (decide (y.num < 0)) (M.B y.num.natAbs) (M.B y.den)=true:=by
    unfold gs
    rw [gd_Rv,gd_Rv,qv_Rv,qv_Rv,decide_eq_true hle]
    rfl
  exact ⟨sf1 i1 hK i2 hK hg,pr1 i1 hK i2 hK gd_Rv gd_Rv (decide_eq_true (dif_le.2 hle)),hle,h1.mono (by omega),h2.mono (by omega)⟩
theorem sfit_k {n1 n2:Bool} {a1 b1 a2 b2:ByteArray} {x y:Rat} {K:Nat} (h:IsS n1 a1 b1 n2 a2 b2 x y K):CSpec Tryd.prog 167 #[ag [rr n1 a1 b1,rr n2 a2 b2]] (ag [rc x,rc y]):=h.fit
theorem rpair_k {n1 n2:Bool} {a1 b1 a2 b2:ByteArray} {x y:Rat} {K:Nat} (h:IsS n1 a1 b1 n2 a2 b2 x y K):CSpec Tryd.prog 85 #[ag [rr n1 a1 b1,rr n2 a2 b2]] (ag [rc x,rc y]):=h.pair
theorem sjoin_k {n1:Bool} {a1 b1:ByteArray}{n2:Bool} {a2 b2:ByteArray}{n3:Bool} {a3 b3:ByteArray}{n4:Bool} {a4 b4:ByteArray}{x y z u:Rat} {K L J1 J3:Nat} (h1':IsS n1 a1 b1 n2 a2 b2 x y J1) (p1:Sz x K) (p2:Sz y K) (l1:x≤y) (k1:K≤100000000)(h3':IsS n3 a3 b3 n4 a4 b4 z u J3) (p3:Sz z L) (p4:Sz u L) (l3:z≤u) (k3:L≤100000000)  : CSpec Tryd.prog 104 #[(ag [rr n1 a1 b1,rr n2 a2 b2]),(ag [rr n3 a3 b3,rr n4 a4 b4])] (ag [rc (mn x z),rc (mx y u)]):=by
  have s0:=(isR_s p1)
  have s1:=(isR_s p3)
  have s2:=(isR_s p2)
  have s3:=(isR_s p4)
  exact fn_ok Tryd.func104 (sc:=[(1,1,.fix (ag [rc x,rc y])),(1,3,.fix (ag [rc z,rc u])),(2,4,.fix (Rv (mn x z))),(2,9,.fix (Rv (mx y u)))]) (sb:=[]) (by kernel_rfl) (hC (sfit_k h1') (hC (sfit_k h3') (hC (min_k s0 s1 (by omega)) (hC (max_k s2 s3 (by omega)) hN))))
theorem shas1 {n1:Bool} {a1 b1:ByteArray}{n2:Bool} {a2 b2:ByteArray}{n3:Bool} {a3 b3:ByteArray}{x y z:Rat} {K L J1:Nat} (h1':IsS n1 a1 b1 n2 a2 b2 x y J1) (p1:Sz x K) (p2:Sz y K) (l1:x≤y) (k1:K≤100000000)(h3':IsR n3 a3 b3 z L) (k3:L≤100000000) (h1:decide (cmpR x z≤(0:Int))=true):CSpec Tryd.prog 105 #[(ag [rr n1 a1 b1,rr n2 a2 b2]),(rv n3 a3 b3)] (.bool (decide (cmpR z y≤(0:Int)))):=by
  have s0:=(isR_s p1)
  have s2:=(isR_s p2)
  exact fn_ok Tryd.func105 (sc:=[(1,1,.fix (ag [rc x,rc y])),(2,3,.fix (.int IntKind.i64 (cmpR x z))),(2,4,.is (.c (.bool true))),(2,9,.fix (.int IntKind.i64 (cmpR z y)))]) (sb:=[]) (by kernel_rfl) (hC (sfit_k h1') (hC (cmp_k s0 h3' (by omega)) (hP (isB h1) (hC (cmp_k h3' s2 (by omega)) hN))))
theorem shas2 {n1:Bool} {a1 b1:ByteArray}{n2:Bool} {a2 b2:ByteArray}{n3:Bool} {a3 b3:ByteArray}{x y z:Rat} {K L J1:Nat} (h1':IsS n1 a1 b1 n2 a2 b2 x y J1) (p1:Sz x K) (p2:Sz y K) (l1:x≤y) (k1:K≤100000000)(h3':IsR n3 a3 b3 z L) (k3:L≤100000000) (h1:decide (cmpR x z≤(0:Int))=false):CSpec Tryd.prog 105 #[(ag [rr n1 a1 b1,rr n2 a2 b2]),(rv n3 a3 b3)] (.bool false):=by
  have s0:=(isR_s p1)
  exact fn_ok Tryd.func105 (sc:=[(1,1,.fix (ag [rc x,rc y])),(2,3,.fix (.int IntKind.i64 (cmpR x z))),(2,4,.is (.c (.bool false)))]) (sb:=[]) (by kernel_rfl) (hC (sfit_k h1') (hC (cmp_k s0 h3' (by omega)) (hP (isB h1) hN)))
theorem rin1 {n1:Bool} {a1 b1:ByteArray}{n2:Bool} {a2 b2:ByteArray}{n3:Bool} {a3 b3:ByteArray}{x y z:Rat} {K L M:Nat} (h1':IsR n1 a1 b1 x K) (k1:K≤100000000)(h2':IsR n2 a2 b2 y L) (k2:L≤100000000)(h3':IsR n3 a3 b3 z M) (k3:M≤100000000) (h0:decide ((0:Int)≤cmpR z x)=true):CSpec Tryd.prog 87 #[(ag [rr n1 a1 b1,rr n2 a2 b2]),(rv n3 a3 b3)] (.bool (decide (cmpR z y≤(0:Int)))):=by
  exact fn_ok Tryd.func87 (sc:=[(1,3,.fix (.int IntKind.i64 (cmpR z x))),(1,4,.is (.c (.bool true))),(1,9,.fix (.int IntKind.i64 (cmpR z y)))]) (sb:=[]) (by kernel_rfl) (hC (cmp_k h3' h1' (by omega)) (hP (isB h0) (hC (cmp_k h3' h2' (by omega)) hN)))
theorem rin2 {n1:Bool} {a1 b1:ByteArray}{n2:Bool} {a2 b2:ByteArray}{n3:Bool} {a3 b3:ByteArray}{x y z:Rat} {K L M:Nat} (h1':IsR n1 a1 b1 x K) (k1:K≤100000000)(h2':IsR n2 a2 b2 y L) (k2:L≤100000000)(h3':IsR n3 a3 b3 z M) (k3:M≤100000000) (h0:decide ((0:Int)≤cmpR z x)=false):CSpec Tryd.prog 87 #[(ag [rr n1 a1 b1,rr n2 a2 b2]),(rv n3 a3 b3)] (.bool false):=by
  exact fn_ok Tryd.func87 (sc:=[(1,3,.fix (.int IntKind.i64 (cmpR z x))),(1,4,.is (.c (.bool false)))]) (sb:=[]) (by kernel_rfl) (hC (cmp_k h3' h1' (by omega)) (hP (isB h0) hN))
theorem shas_k {n1:Bool} {a1 b1:ByteArray}{n2:Bool} {a2 b2:ByteArray}{n3:Bool} {a3 b3:ByteArray}{x y z:Rat} {K L J1:Nat} (h1':IsS n1 a1 b1 n2 a2 b2 x y J1) (p1:Sz x K) (p2:Sz y K) (l1:x≤y) (k1:K≤100000000)(h3':IsR n3 a3 b3 z L) (k3:L≤100000000):CSpec Tryd.prog 105 #[ag [rr n1 a1 b1,rr n2 a2 b2],rv n3 a3 b3] (.bool (decide (x≤z)&&decide (z≤y))):=by
  by_cases h:x≤z
  · have:=shas1 h1' p1 p2 l1 k1 h3' k3 (decide_eq_true (cmpR_le.2 h))
    simpa only [cmpR_le,h,decide_true,Bool.true_and] using this
  have:=shas2 h1' p1 p2 l1 k1 h3' k3 (decide_eq_false (fun hh=>h (cmpR_le.1 hh)))
  simpa only [h,decide_false,Bool.false_and] using this
theorem rin_k {n1:Bool} {a1 b1:ByteArray}{n2:Bool} {a2 b2:ByteArray}{n3:Bool} {a3 b3:ByteArray}{x y z:Rat} {K L M:Nat} (h1':IsR n1 a1 b1 x K) (k1:K≤100000000)(h2':IsR n2 a2 b2 y L) (k2:L≤100000000)(h3':IsR n3 a3 b3 z M) (k3:M≤100000000):CSpec Tryd.prog 87 #[ag [rr n1 a1 b1,rr n2 a2 b2],rv n3 a3 b3] (.bool (decide (x≤z)&&decide (z≤y))):=by
  by_cases h:x≤z
  · have:=rin1 h1' k1 h2' k2 h3' k3 (decide_eq_true (cmpR_ge.2 h))
    simpa only [cmpR_le,h,decide_true,Bool.true_and] using this
  have:=rin2 h1' k1 h2' k2 h3' k3 (decide_eq_false (fun hh=>h (cmpR_ge.1 hh)))
  simpa only [h,decide_false,Bool.false_and] using this
theorem ssq1 {n1:Bool} {a1 b1:ByteArray}{n2:Bool} {a2 b2:ByteArray}{x y:Rat} {K J1:Nat} (h1':IsS n1 a1 b1 n2 a2 b2 x y J1) (p1:Sz x K) (p2:Sz y K) (l1:x≤y) (k1:K≤100000000) (h7:(decide (x≤(0:Rat))&&decide ((0:Rat)≤y))=true):CSpec Tryd.prog 93 #[(ag [rr n1 a1 b1,rr n2 a2 b2])] (ag [rc (0:Rat),rc (mx (x*x) (y*y))]):=by
  have s0:=(isR_s p1)
  have s1:=(isR_s p2)
  have s2:=(mul_s p1 p1)
  have s3:=(mul_s p2 p2)
  have s4:=(isS_s p1 p2 l1 (by omega))
  have s5:=sz0_s
  have s6:=(isR_s s5)
  exact fn_ok Tryd.func93 (sc:=[(1,1,.fix (ag [rc x,rc y])),(2,4,.fix (Rv (x*x))),(2,9,.fix (Rv (y*y))),(2,11,.read (ag [rc (mn (x*x) (y*y)),rc (mx (x*x) (y*y))])),(3,1,.fix (Rv (0:Rat))),(3,2,.fix (.bool true)),(4,0,.fix (Rv (0:Rat)))]) (sb:=[]) (by kernel_rfl) (hC (sfit_k h1') (hC (mul_k s0 s0 (by omega)) (hC (mul_k s1 s1 (by omega)) (hF (around2_k s2 s3 (by omega)) (hC of0_k (hC (cbool (shas_k s4 p1 p2 l1 k1 s6 (by decide +kernel)) h7) (hC of0_k hN)))))))
theorem ssq2 {n1:Bool} {a1 b1:ByteArray}{n2:Bool} {a2 b2:ByteArray}{x y:Rat} {K J1:Nat} (h1':IsS n1 a1 b1 n2 a2 b2 x y J1) (p1:Sz x K) (p2:Sz y K) (l1:x≤y) (k1:K≤100000000) (h7:(decide (x≤(0:Rat))&&decide ((0:Rat)≤y))=false):CSpec Tryd.prog 93 #[(ag [rr n1 a1 b1,rr n2 a2 b2])] (ag [rc (mn (x*x) (y*y)),rc (mx (x*x) (y*y))]):=by
  have s0:=(isR_s p1)
  have s1:=(isR_s p2)
  have s2:=(mul_s p1 p1)
  have s3:=(mul_s p2 p2)
  have s4:=(isS_s p1 p2 l1 (by omega))
  have s5:=sz0_s
  have s6:=(isR_s s5)
  exact fn_ok Tryd.func93 (sc:=[(1,1,.fix (ag [rc x,rc y])),(2,4,.fix (Rv (x*x))),(2,9,.fix (Rv (y*y))),(2,11,.read (ag [rc (mn (x*x) (y*y)),rc (mx (x*x) (y*y))])),(3,1,.fix (Rv (0:Rat))),(3,2,.fix (.bool false))]) (sb:=[]) (by kernel_rfl) (hC (sfit_k h1') (hC (mul_k s0 s0 (by omega)) (hC (mul_k s1 s1 (by omega)) (hF (around2_k s2 s3 (by omega)) (hC of0_k (hC (cbool (shas_k s4 p1 p2 l1 k1 s6 (by decide +kernel)) h7) hN))))))
end Go.Proofs.YtbfpmofhopglfaaDoor.G
end
section
namespace Go.Proofs.YtbfpmofhopglfaaDoor.G
open Go.Proofs.YtbfpmofhopglfaaDoor.U Go.RowKit Go.Proofs.YtbfpmofhopglfaaDoor.A Go.Proofs.YtbfpmofhopglfaaDoor.X
set_option linter.unusedVariables false
set_option maxRecDepth 100000
theorem nt1_k {n:Nat} (h:n=1):CSpec Tryd.prog 39 #[.string (M.B n)] (.string ⟨#[49]⟩):=fun w _=>by
  subst h
  rw [B_one1]
  exact nat_Text.calls 40 one1 ⟨#[49]⟩ w (by decide +kernel)
theorem B_two1:M.B 2=⟨#[2]⟩:=by
  have h:M.B (M.V ⟨#[2]⟩)=⟨#[2]⟩:=SA.lead_of _ (.inr (by decide))
  exact h
theorem nt2_k {n:Nat} (h:n=2):CSpec Tryd.prog 39 #[.string (M.B n)] (.string ⟨#[50]⟩):=fun w _=>by
  subst h
  rw [B_two1]
  exact nat_Text.calls 40 ⟨#[2]⟩ ⟨#[50]⟩ w (by decide +kernel)
theorem fitR_k {x:Rat} {K:Nat} (h:Sz x K) (hK:K≤68719476736):CSpec Tryd.prog 139 #[Rv x] (Rv x):=fit_Rv x (h.mono hK)
theorem rtx    : CSpec Tryd.prog 47 #[(Rv (-1/2))] (.string ({ data:=#[(45:UInt8)] }++{ data:=#[(49:UInt8)] }++({ data:=#[(47:UInt8)] }++{ data:=#[(50:UInt8)] }))):=by
  have s0:=szm1_s
  have s1:=sz2_s
  have s2:=(div_s s0 s1)
  exact fn_ok Tryd.func47 (sc:=[(1,1,.fix (Rv (-1/2:Rat))),(2,2,.fix (.string ({ data:=#[(49:UInt8)] }))),(6,3,.fix (.string ({ data:=#[(50:UInt8)] })))]) (sb:=[]) (by kernel_rfl) (hC (fitR_k s2 (by decide +kernel)) (hC (nt1_k (n:=Int.natAbs (Rat.num (-1/2:Rat))) (by decide +kernel)) (hC (nt2_k (n:=Rat.den (-1/2:Rat)) (by decide +kernel)) hN)))
theorem rtext_k {x:Rat} (h:x = -1/2):CSpec Tryd.prog 47 #[Rv x] (.string ⟨#[45,49,47,50]⟩):=by
  subst h
  exact rtx
theorem num_k {n m:Int} (hn:-9223372036854775808≤n) (hn2:n≤9223372036854775807) (hm:-9223372036854775808≤m) (hm2:m≤9223372036854775807) (h0:m≠0)  : CSpec Tryd.prog 25 #[(.int .i64 n),(.int .i64 m)] (Rv ((↑n:Rat)/(↑m:Rat))):=by
  exact fn_ok Tryd.func25 (sc:=[(1,2,.fix (.tuple #[Rv ((↑n:Rat)/(↑m:Rat)),.int IntKind.i64 (0:Int)]))]) (sb:=[]) (by kernel_rfl) (hC (make_k hn hn2 hm hm2 h0) hN)
theorem ratBegun_k    : CSpec Tryd.prog 43 #[] (.bool true):=by
  have s0:=(int_s (n:=(2:Int)) (by decide +kernel))
  have s1:=(int_s (n:=(-4:Int)) (by decide +kernel))
  have s2:=(div_s s0 s1)
  exact fn_ok Tryd.func43 (sc:=[(1,0,.fix (.tuple #[Rv ((↑(2:Int):Rat)/(↑(-4:Int):Rat)),.int IntKind.i64 (0:Int)])),(2,4,.fix (.string ({ data:=#[(45:UInt8),(49:UInt8),(47:UInt8),(50:UInt8)] }))),(2,9,.fix (.bool true))]) (sb:=[]) (by kernel_rfl) (hC (make_k (n:=(2:Int)) (m:=(-4:Int)) (by decide +kernel) (by decide +kernel) (by decide +kernel) (by decide +kernel) (by decide +kernel)) (hC (rtext_k (x:=(↑(2:Int):Rat)/(↑(-4:Int):Rat)) (by decide +kernel)) (hC (gooda_k s2 (by decide +kernel)) hN)))
theorem turnBegun_k    : CSpec Tryd.prog 27 #[] (.bool true):=by
  have s0:=(int_s (n:=(1:Int)) (by decide +kernel))
  have s1:=(int_s (n:=(2:Int)) (by decide +kernel))
  have s2:=(div_s s0 s1)
  have s3:=(isR_s s2)
  exact fn_ok Tryd.func27 (sc:=[(1,0,.fix (Rv ((↑(1:Int):Rat)/(↑(2:Int):Rat)))),(1,1,.fix (ag [[.bool false],rc ((↑(1:Int):Rat)/(↑(2:Int):Rat))])),(2,0,.fix (.bool true)),(2,3,.fix (Rv (cosT false ((↑(1:Int):Rat)/(↑(2:Int):Rat))))),(2,4,.fix (Rv ((↑(3:Int):Rat)/(↑(5:Int):Rat)))),(2,9,.fix (Rv (sinT false ((↑(1:Int):Rat)/(↑(2:Int):Rat))))),(2,10,.fix (Rv ((↑(4:Int):Rat)/(↑(5:Int):Rat))))]) (sb:=[]) (by kernel_rfl) (hC (num_k (n:=(1:Int)) (m:=(2:Int)) (by decide +kernel) (by decide +kernel) (by decide +kernel) (by decide +kernel) (by decide +kernel)) (hC (tof_k s3 (by decide +kernel)) (hC ratBegun_k (hC (tcos_k (h:=false) s3 (by decide +kernel)) (hC (num_k (n:=(3:Int)) (m:=(5:Int)) (by decide +kernel) (by decide +kernel) (by decide +kernel) (by decide +kernel) (by decide +kernel)) (hC (tsin_k (h:=false) s3 (by decide +kernel)) (hC (num_k (n:=(4:Int)) (m:=(5:Int)) (by decide +kernel) (by decide +kernel) (by decide +kernel) (by decide +kernel) (by decide +kernel)) hN)))))))
end Go.Proofs.YtbfpmofhopglfaaDoor.G
end
section
namespace Go.Proofs.YtbfpmofhopglfaaDoor.G
open Go.Proofs.YtbfpmofhopglfaaDoor.U Go.RowKit
set_option linter.unusedVariables false
set_option maxRecDepth 100000
theorem ssqz_k {n1:Bool} {a1 b1:ByteArray}{n2:Bool} {a2 b2:ByteArray}{x y:Rat} {K J1:Nat} (h1':IsS n1 a1 b1 n2 a2 b2 x y J1) (p1:Sz x K) (p2:Sz y K) (l1:x≤y) (k1:K≤100000000) (hz:(decide (x≤0)&&decide (0≤y))=true):CSpec Tryd.prog 93 #[ag [rr n1 a1 b1,rr n2 a2 b2]] (ag [rc 0,rc (mx (x*x) (y*y))]):=ssq1 h1' p1 p2 l1 k1 hz
end Go.Proofs.YtbfpmofhopglfaaDoor.G
end
section
namespace Go.Proofs.YtbfpmofhopglfaaDoor.G
set_option linter.unusedVariables false
theorem cos_f (x:Rat):cosT false x=(1 - x*x)/(1+x*x):=rfl
end Go.Proofs.YtbfpmofhopglfaaDoor.G
end
section
namespace Go.Proofs.YtbfpmofhopglfaaDoor.G
open Go.Proofs.YtbfpmofhopglfaaDoor.U Go.RowKit
set_option linter.unusedVariables false
set_option maxRecDepth 100000
def sqL (x y:Rat):Rat:=if (decide (x≤0)&&decide (0≤y))=true then 0 else mn (x*x) (y*y)
def sqH (x y:Rat):Rat:=mx (x*x) (y*y)
def csL (x y:Rat):Rat:=(1 - sqH x y)/(1+sqH x y)
def csH (x y:Rat):Rat:=(1 - sqL x y)/(1+sqL x y)
theorem sqHn_s {x y:Rat}:1+sqH x y≠0:=by
  have h1:=sq_pos x
  have h2:=sq_pos y
  unfold sqH mx
  split<;>grind
theorem sqLn_s {x y:Rat}:1+sqL x y≠0:=by
  have h1:=sq_pos x
  have h2:=sq_pos y
  unfold sqL mn
  split
  · decide +kernel
  split<;>grind
theorem rlr_s {x:Rat}:x≤x:=Rat.le_refl
theorem mnmx_s {a b c d:Rat} (h:a≤c):mn a b≤mx c d:=by
  unfold mn mx
  grind
theorem sqH_s {x y:Rat} {K:Nat} (hx:Sz x K) (hy:Sz y K):Sz (sqH x y) (2*K):=mx_sz ((hx.mul hx).mono (by omega)) ((hy.mul hy).mono (by omega))
theorem sqL_s {x y:Rat} {K:Nat} (hx:Sz x K) (hy:Sz y K):Sz (sqL x y) (2*K+1):=by
  unfold sqL
  split
  · exact sz0_s.mono (by omega)
  exact mn_sz ((hx.mul hx).mono (by omega)) ((hy.mul hy).mono (by omega))
theorem ssqa_k {n1:Bool} {a1 b1:ByteArray}{n2:Bool} {a2 b2:ByteArray}{x y:Rat} {K J1:Nat} (h1':IsS n1 a1 b1 n2 a2 b2 x y J1) (p1:Sz x K) (p2:Sz y K) (l1:x≤y) (k1:K≤10000000):CSpec Tryd.prog 93 #[ag [rr n1 a1 b1,rr n2 a2 b2]] (ag [rc (sqL x y),rc (sqH x y)]):=by
  cases hz:(decide (x≤0)&&decide (0≤y)) with
  | true =>
    have:=ssqz_k h1' p1 p2 l1 (Nat.le_trans k1 (by decide)) hz
    unfold sqL sqH
    rw [if_pos hz]
    exact this
  | false =>
    have:=ssq2 h1' p1 p2 l1 (Nat.le_trans k1 (by decide)) hz
    unfold sqL sqH
    rw [if_neg (by rw [hz]; decide)]
    exact this
theorem sj0_k {n1:Bool} {a1 b1:ByteArray}{n2:Bool} {a2 b2:ByteArray}{x y:Rat} {K J1:Nat} (h1':IsS n1 a1 b1 n2 a2 b2 x y J1) (p1:Sz x K) (p2:Sz y K) (l1:x≤y) (k1:K≤10000000):CSpec Tryd.prog 104 #[ag [rr n1 a1 b1,rr n2 a2 b2],ag [rr n1 a1 b1,rr n2 a2 b2]] (ag [rc x,rc y]):=by
  have:=sjoin_k h1' p1 p2 l1 (Nat.le_trans k1 (by decide)) h1' p1 p2 l1 (Nat.le_trans k1 (by decide))
  rw [mn_self,mx_self] at this
  exact this
theorem cosf_k {n1:Bool} {a1 b1:ByteArray}{x:Rat} {K:Nat} (h1':IsR n1 a1 b1 x K) (k1:K≤1000000000)(h0:(1:Rat)+x≠0)  : CSpec Tryd.prog 146 #[(rv n1 a1 b1)] (Rv (((1:Rat) - x)/((1:Rat)+x))):=by
  have s0:=sz1_s
  have s1:=(isR_s s0)
  have s2:=(sub_s s0 (szr h1'))
  have s3:=(isR_s s2)
  have s4:=(add_s s0 (szr h1'))
  have s5:=(isR_s s4)
  exact fn_ok Tryd.func146 (sc:=[(1,0,.fix (Rv (1:Rat))),(1,2,.fix (Rv ((1:Rat) - x))),(1,3,.fix (Rv (1:Rat))),(1,5,.fix (Rv ((1:Rat)+x))),(1,6,.fix (.tuple #[Rv (((1:Rat) - x)/((1:Rat)+x)),.int IntKind.i64 (0:Int)]))]) (sb:=[]) (by kernel_rfl) (hC of1_k (hC (sub_k s1 h1' (by omega)) (hC of1_k (hC (add_k s1 h1' (by omega)) (hC (div_k s3 s5 (by omega) h0) hN)))))
theorem cospan_k {n1:Bool} {a1 b1:ByteArray}{n2:Bool} {a2 b2:ByteArray}{x y:Rat} {K J1:Nat} (h1':IsS n1 a1 b1 n2 a2 b2 x y J1) (p1:Sz x K) (p2:Sz y K) (l1:x≤y) (k1:K≤10000000)  : CSpec Tryd.prog 28 #[(ag [rr n1 a1 b1,rr n2 a2 b2])] (ag [rc (((1:Rat) - sqH x y)/((1:Rat)+sqH x y)),rc (((1:Rat) - sqL x y)/((1:Rat)+sqL x y))]):=by
  have s0:=(sqH_s p1 p2)
  have s1:=(isR_s s0)
  have s2:=(sqHn_s (x:=x) (y:=y))
  have s3:=(sqL_s p1 p2)
  have s4:=(isR_s s3)
  have s5:=(sqLn_s (x:=x) (y:=y))
  exact fn_ok Tryd.func28 (sc:=[(1,1,.fix (ag [rc (sqL x y),rc (sqH x y)])),(3,3,.fix (Rv (((1:Rat) - sqH x y)/((1:Rat)+sqH x y)))),(3,7,.fix (Rv (((1:Rat) - sqL x y)/((1:Rat)+sqL x y))))]) (sb:=[]) (by kernel_rfl) (hC (ssqa_k h1' p1 p2 l1 k1) (hC (cosf_k s1 (by omega) s2) (hC (cosf_k s4 (by omega) s5) hN)))
theorem cos1 {n1:Bool} {a1 b1:ByteArray}{n2:Bool} {a2 b2:ByteArray}{x y:Rat} {K J1:Nat} (h1':IsS n1 a1 b1 n2 a2 b2 x y J1) (p1:Sz x K) (p2:Sz y K) (l1:x≤y) (k1:K≤10000000) (h4:(decide (x≤(0:Rat))&&decide ((0:Rat)≤y))=true):CSpec Tryd.prog 29 #[(ag [rr n1 a1 b1,rr n2 a2 b2])] (ag [rc (mn (mn (cosT false x) (cosT false y)) (1:Rat)),rc (mx (mx (cosT false x) (cosT false y)) (1:Rat))]):=by
  have s0:=(isR_s p1)
  have s1:=(isR_s p2)
  have s2:=sz0_s
  have s3:=(isR_s s2)
  have s5:=(cosT_s (h:=false) p1)
  have s6:=(cosT_s (h:=false) p2)
  have s7:=sz1_s
  exact fn_ok Tryd.func29 (sc:=[(1,1,.fix (ag [rc x,rc y])),(2,3,.fix (.tuple #[Rv (cosT false x),Rv (sinT false x)])),(3,3,.fix (.tuple #[Rv (cosT false y),Rv (sinT false y)])),(4,1,.fix (Rv (0:Rat))),(4,2,.fix (.bool true)),(5,2,.fix (Rv (1:Rat))),(5,4,.read (ag [rc (mn (mn (cosT false x) (cosT false y)) (1:Rat)),rc (mx (mx (cosT false x) (cosT false y)) (1:Rat))]))]) (sb:=[]) (by kernel_rfl) (hC (rpair_k h1') (hC (circle_k (g:=false) s0 (by omega)) (hC (circle_k (g:=false) s1 (by omega)) (hC ri0_k (hC (cbool (rin_k s0 (by omega) s1 (by omega) s3 (by decide +kernel)) h4) (hC ri1_k (hF (rAround3_k (cp:=(3:Nat)) s5 s6 s7 (by omega)) hN)))))))
theorem cos2 {n1:Bool} {a1 b1:ByteArray}{n2:Bool} {a2 b2:ByteArray}{x y:Rat} {K J1:Nat} (h1':IsS n1 a1 b1 n2 a2 b2 x y J1) (p1:Sz x K) (p2:Sz y K) (l1:x≤y) (k1:K≤10000000) (h4:(decide (x≤(0:Rat))&&decide ((0:Rat)≤y))=false):CSpec Tryd.prog 29 #[(ag [rr n1 a1 b1,rr n2 a2 b2])] (ag [rc (mn (cosT false x) (cosT false y)),rc (mx (cosT false x) (cosT false y))]):=by
  have s0:=(isR_s p1)
  have s1:=(isR_s p2)
  have s2:=sz0_s
  have s3:=(isR_s s2)
  have s5:=(cosT_s (h:=false) p1)
  have s6:=(cosT_s (h:=false) p2)
  exact fn_ok Tryd.func29 (sc:=[(1,1,.fix (ag [rc x,rc y])),(2,3,.fix (.tuple #[Rv (cosT false x),Rv (sinT false x)])),(3,3,.fix (.tuple #[Rv (cosT false y),Rv (sinT false y)])),(4,1,.fix (Rv (0:Rat))),(4,2,.fix (.bool false)),(6,3,.read (ag [rc (mn (cosT false x) (cosT false y)),rc (mx (cosT false x) (cosT false y))]))]) (sb:=[]) (by kernel_rfl) (hC (rpair_k h1') (hC (circle_k (g:=false) s0 (by omega)) (hC (circle_k (g:=false) s1 (by omega)) (hC ri0_k (hC (cbool (rin_k s0 (by omega) s1 (by omega) s3 (by decide +kernel)) h4) (hF (rAround2_k (cp:=(2:Nat)) s5 s6 (by omega)) hN))))))
theorem f_anti {s t:Rat} (h0:0≤s) (h:s≤t):(1 - t)/(1+t)≤(1 - s)/(1+s):=by
  have p1:(0:Rat) < 1+s:=by grind
  have p2:(0:Rat) < 1+t:=by grind
  have n1:1+s≠0:=by grind
  have n2:1+t≠0:=by grind
  refine Rat.le_of_mul_le_mul_left (c:=(1+s)*(1+t)) ?_ (Rat.mul_pos p1 p2)
  have e1:(1+s)*(1+t)*((1 - t)/(1+t))=(1+s)*(1 - t):=by grind
  have e2:(1+s)*(1+t)*((1 - s)/(1+s))=(1+t)*(1 - s):=by grind
  rw [e1,e2]
  grind
theorem cos_mn (x y:Rat):mn (cosT false x) (cosT false y)=csL x y:=by
  have h1:=sq_pos x
  have h2:=sq_pos y
  unfold csL sqH
  rw [cos_f,cos_f]
  rcases Rat.le_total (a:=x*x) (b:=y*y) with h | h
  · have a:=f_anti h1 h
    have e:mx (x*x) (y*y)=y*y:=by unfold mx; grind
    rw [e]
    unfold mn
    grind
  have a:=f_anti h2 h
  have e:mx (x*x) (y*y)=x*x:=by unfold mx; grind
  rw [e]
  unfold mn
  grind
theorem cos_mx {x y:Rat} (hz:(decide (x≤0)&&decide (0≤y))=false):mx (cosT false x) (cosT false y)=csH x y:=by
  have h1:=sq_pos x
  have h2:=sq_pos y
  unfold csH sqL
  rw [if_neg (by rw [hz]; decide),cos_f,cos_f]
  rcases Rat.le_total (a:=x*x) (b:=y*y) with h | h
  · have a:=f_anti h1 h
    have e:mn (x*x) (y*y)=x*x:=by unfold mn; grind
    rw [e]
    unfold mx
    grind
  have a:=f_anti h2 h
  have e:mn (x*x) (y*y)=y*y:=by unfold mn; grind
  rw [e]
  unfold mx
  grind
theorem cos_1 (x:Rat):cosT false x≤1:=by
  have a:=f_anti (s:=0) (by decide +kernel) (sq_pos x)
  have e:((1:Rat) - 0)/(1+0)=1:=by decide +kernel
  rw [e] at a
  exact a
theorem cosines_k {n1:Bool} {a1 b1:ByteArray}{n2:Bool} {a2 b2:ByteArray}{x y:Rat} {K J1:Nat} (h1':IsS n1 a1 b1 n2 a2 b2 x y J1) (p1:Sz x K) (p2:Sz y K) (l1:x≤y) (k1:K≤10000000):CSpec Tryd.prog 29 #[ag [rr n1 a1 b1,rr n2 a2 b2]] (ag [rc (csL x y),rc (csH x y)]):=by
  have e1:=cos_1 x
  have e2:=cos_1 y
  cases hz:(decide (x≤0)&&decide (0≤y)) with
  | true =>
    have:=cos1 h1' p1 p2 l1 k1 hz
    have a:mn (mn (cosT false x) (cosT false y)) 1=csL x y:=by rw [← cos_mn]; unfold mn; grind
    have b:mx (mx (cosT false x) (cosT false y)) 1=csH x y:=by
      have:csH x y=1:=by unfold csH sqL; rw [if_pos hz]; decide +kernel
      rw [this]; unfold mx; grind
    rw [a,b] at this
    exact this
  | false =>
    have:=cos2 h1' p1 p2 l1 k1 hz
    rw [cos_mn,cos_mx hz] at this
    exact this
theorem sinp0 {n1:Bool} {a1 b1:ByteArray}{n2:Bool} {a2 b2:ByteArray}{x y:Rat} {K J1:Nat} (h1':IsS n1 a1 b1 n2 a2 b2 x y J1) (p1:Sz x K) (p2:Sz y K) (l1:x≤y) (k1:K≤10000000) (h13:(decide (x≤(-1:Rat))&&decide ((-1:Rat)≤y))=false) (h16:(decide (x≤(1:Rat))&&decide ((1:Rat)≤y))=false):CSpec Tryd.prog 30 #[(ag [rr n1 a1 b1,rr n2 a2 b2])] (ag [rc (mn (sinT false x) (sinT false y)),rc (mx (sinT false x) (sinT false y))]):=by
  have s0:=(isR_s p1)
  have s1:=(sinT_s (h:=false) p1)
  have s2:=(isR_s s1)
  have s3:=(isR_s p2)
  have s4:=(sinT_s (h:=false) p2)
  have s5:=(isR_s s4)
  have s6:=(rlr_s (x:=sinT false x))
  have s7:=(isS_s s1 s1 s6 (by omega))
  have s8:=(rlr_s (x:=sinT false y))
  have s9:=(isS_s s4 s4 s8 (by omega))
  have s10:=(isS_s p1 p2 l1 (by omega))
  have s11:=szm1_s
  have s12:=(isR_s s11)
  have s14:=sz1_s
  have s15:=(isR_s s14)
  exact fn_ok Tryd.func30 (sc:=[(1,2,.fix (ag [rc x,rc y])),(2,2,.fix (ag [[.bool false],rc x])),(2,3,.fix (Rv (sinT false x))),(2,4,.fix (ag [rc (sinT false x),rc (sinT false x)])),(2,7,.fix (ag [[.bool false],rc y])),(2,8,.fix (Rv (sinT false y))),(2,9,.fix (ag [rc (sinT false y),rc (sinT false y)])),(2,10,.fix (ag [rc (mn (sinT false x) (sinT false y)),rc (mx (sinT false x) (sinT false y))])),(1006,1,.fix (Rv (-1:Rat))),(1007,2,.fix (.bool false)),(2006,1,.fix (Rv (1:Rat))),(2007,2,.fix (.bool false))]) (sb:=[]) (by kernel_rfl) (hC (sj0_k h1' p1 p2 l1 k1) (hC (tof_k s0 (by omega)) (hC (tsin_k (h:=false) s0 (by omega)) (hC (sof_k s2 (by omega)) (hC (tof_k s3 (by omega)) (hC (tsin_k (h:=false) s3 (by omega)) (hC (sof_k s5 (by omega)) (hC (sjoin_k s7 s1 s1 s6 (by omega) s9 s4 s4 s8 (by omega)) (hP (show (0:Int)≤(0:Int)∧(0:Int) < (2:Int) by decide) (hC of0m1_k (hC (cbool (shas_k s10 p1 p2 l1 (by omega) s12 (by decide +kernel)) h13) (hP (show (0:Int)≤(1:Int)∧(1:Int) < (2:Int) by decide) (hC of1_k (hC (cbool (shas_k s10 p1 p2 l1 (by omega) s15 (by decide +kernel)) h16) hN))))))))))))))
theorem sinp1 {n1:Bool} {a1 b1:ByteArray}{n2:Bool} {a2 b2:ByteArray}{x y:Rat} {K J1:Nat} (h1':IsS n1 a1 b1 n2 a2 b2 x y J1) (p1:Sz x K) (p2:Sz y K) (l1:x≤y) (k1:K≤10000000) (h13:(decide (x≤(-1:Rat))&&decide ((-1:Rat)≤y))=false) (h16:(decide (x≤(1:Rat))&&decide ((1:Rat)≤y))=true):CSpec Tryd.prog 30 #[(ag [rr n1 a1 b1,rr n2 a2 b2])] (ag [rc (mn (mn (sinT false x) (sinT false y)) (1:Rat)),rc (mx (mx (sinT false x) (sinT false y)) (1:Rat))]):=by
  have s0:=(isR_s p1)
  have s1:=(sinT_s (h:=false) p1)
  have s2:=(isR_s s1)
  have s3:=(isR_s p2)
  have s4:=(sinT_s (h:=false) p2)
  have s5:=(isR_s s4)
  have s6:=(rlr_s (x:=sinT false x))
  have s7:=(isS_s s1 s1 s6 (by omega))
  have s8:=(rlr_s (x:=sinT false y))
  have s9:=(isS_s s4 s4 s8 (by omega))
  have s10:=(isS_s p1 p2 l1 (by omega))
  have s11:=szm1_s
  have s12:=(isR_s s11)
  have s14:=sz1_s
  have s15:=(isR_s s14)
  have s17:=(mn_s s1 s4)
  have s18:=(mx_s s1 s4)
  have s19:=(mnmx_s (b:=sinT false y) (d:=sinT false y) s6)
  have s20:=(isS_s s17 s18 s19 (by omega))
  have s21:=(isS_s s14 s14 (by decide +kernel) (by decide +kernel))
  exact fn_ok Tryd.func30 (sc:=[(1,2,.fix (ag [rc x,rc y])),(2,2,.fix (ag [[.bool false],rc x])),(2,3,.fix (Rv (sinT false x))),(2,4,.fix (ag [rc (sinT false x),rc (sinT false x)])),(2,7,.fix (ag [[.bool false],rc y])),(2,8,.fix (Rv (sinT false y))),(2,9,.fix (ag [rc (sinT false y),rc (sinT false y)])),(2,10,.fix (ag [rc (mn (sinT false x) (sinT false y)),rc (mx (sinT false x) (sinT false y))])),(1006,1,.fix (Rv (-1:Rat))),(1007,2,.fix (.bool false)),(2006,1,.fix (Rv (1:Rat))),(2007,2,.fix (.bool true)),(2008,2,.fix (ag [rc (1:Rat),rc (1:Rat)])),(2008,3,.fix (ag [rc (mn (mn (sinT false x) (sinT false y)) (1:Rat)),rc (mx (mx (sinT false x) (sinT false y)) (1:Rat))]))]) (sb:=[]) (by kernel_rfl) (hC (sj0_k h1' p1 p2 l1 k1) (hC (tof_k s0 (by omega)) (hC (tsin_k (h:=false) s0 (by omega)) (hC (sof_k s2 (by omega)) (hC (tof_k s3 (by omega)) (hC (tsin_k (h:=false) s3 (by omega)) (hC (sof_k s5 (by omega)) (hC (sjoin_k s7 s1 s1 s6 (by omega) s9 s4 s4 s8 (by omega)) (hP (show (0:Int)≤(0:Int)∧(0:Int) < (2:Int) by decide) (hC of0m1_k (hC (cbool (shas_k s10 p1 p2 l1 (by omega) s12 (by decide +kernel)) h13) (hP (show (0:Int)≤(1:Int)∧(1:Int) < (2:Int) by decide) (hC of1_k (hC (cbool (shas_k s10 p1 p2 l1 (by omega) s15 (by decide +kernel)) h16) (hC (sof_k s15 (by decide +kernel)) (hC (sjoin_k s20 s17 s18 s19 (by omega) s21 s14 s14 (by decide +kernel) (by decide +kernel)) hN))))))))))))))))
theorem sinp2 {n1:Bool} {a1 b1:ByteArray}{n2:Bool} {a2 b2:ByteArray}{x y:Rat} {K J1:Nat} (h1':IsS n1 a1 b1 n2 a2 b2 x y J1) (p1:Sz x K) (p2:Sz y K) (l1:x≤y) (k1:K≤10000000) (h13:(decide (x≤(-1:Rat))&&decide ((-1:Rat)≤y))=true) (h21:(decide (x≤(1:Rat))&&decide ((1:Rat)≤y))=false):CSpec Tryd.prog 30 #[(ag [rr n1 a1 b1,rr n2 a2 b2])] (ag [rc (mn (mn (sinT false x) (sinT false y)) (-1:Rat)),rc (mx (mx (sinT false x) (sinT false y)) (-1:Rat))]):=by
  have s0:=(isR_s p1)
  have s1:=(sinT_s (h:=false) p1)
  have s2:=(isR_s s1)
  have s3:=(isR_s p2)
  have s4:=(sinT_s (h:=false) p2)
  have s5:=(isR_s s4)
  have s6:=(rlr_s (x:=sinT false x))
  have s7:=(isS_s s1 s1 s6 (by omega))
  have s8:=(rlr_s (x:=sinT false y))
  have s9:=(isS_s s4 s4 s8 (by omega))
  have s10:=(isS_s p1 p2 l1 (by omega))
  have s11:=szm1_s
  have s12:=(isR_s s11)
  have s14:=(mn_s s1 s4)
  have s15:=(mx_s s1 s4)
  have s16:=(mnmx_s (b:=sinT false y) (d:=sinT false y) s6)
  have s17:=(isS_s s14 s15 s16 (by omega))
  have s18:=(isS_s s11 s11 (by decide +kernel) (by decide +kernel))
  have s19:=sz1_s
  have s20:=(isR_s s19)
  exact fn_ok Tryd.func30 (sc:=[(1,2,.fix (ag [rc x,rc y])),(2,2,.fix (ag [[.bool false],rc x])),(2,3,.fix (Rv (sinT false x))),(2,4,.fix (ag [rc (sinT false x),rc (sinT false x)])),(2,7,.fix (ag [[.bool false],rc y])),(2,8,.fix (Rv (sinT false y))),(2,9,.fix (ag [rc (sinT false y),rc (sinT false y)])),(2,10,.fix (ag [rc (mn (sinT false x) (sinT false y)),rc (mx (sinT false x) (sinT false y))])),(1006,1,.fix (Rv (-1:Rat))),(1007,2,.fix (.bool true)),(1008,2,.fix (ag [rc (-1:Rat),rc (-1:Rat)])),(1008,3,.fix (ag [rc (mn (mn (sinT false x) (sinT false y)) (-1:Rat)),rc (mx (mx (sinT false x) (sinT false y)) (-1:Rat))])),(2006,1,.fix (Rv (1:Rat))),(2007,2,.fix (.bool false))]) (sb:=[]) (by kernel_rfl) (hC (sj0_k h1' p1 p2 l1 k1) (hC (tof_k s0 (by omega)) (hC (tsin_k (h:=false) s0 (by omega)) (hC (sof_k s2 (by omega)) (hC (tof_k s3 (by omega)) (hC (tsin_k (h:=false) s3 (by omega)) (hC (sof_k s5 (by omega)) (hC (sjoin_k s7 s1 s1 s6 (by omega) s9 s4 s4 s8 (by omega)) (hP (show (0:Int)≤(0:Int)∧(0:Int) < (2:Int) by decide) (hC of0m1_k (hC (cbool (shas_k s10 p1 p2 l1 (by omega) s12 (by decide +kernel)) h13) (hC (sof_k s12 (by decide +kernel)) (hC (sjoin_k s17 s14 s15 s16 (by omega) s18 s11 s11 (by decide +kernel) (by decide +kernel)) (hP (show (0:Int)≤(1:Int)∧(1:Int) < (2:Int) by decide) (hC of1_k (hC (cbool (shas_k s10 p1 p2 l1 (by omega) s20 (by decide +kernel)) h21) hN))))))))))))))))
theorem sinp3 {n1:Bool} {a1 b1:ByteArray}{n2:Bool} {a2 b2:ByteArray}{x y:Rat} {K J1:Nat} (h1':IsS n1 a1 b1 n2 a2 b2 x y J1) (p1:Sz x K) (p2:Sz y K) (l1:x≤y) (k1:K≤10000000) (h13:(decide (x≤(-1:Rat))&&decide ((-1:Rat)≤y))=true) (h21:(decide (x≤(1:Rat))&&decide ((1:Rat)≤y))=true):CSpec Tryd.prog 30 #[(ag [rr n1 a1 b1,rr n2 a2 b2])] (ag [rc (mn (mn (mn (sinT false x) (sinT false y)) (-1:Rat)) (1:Rat)),rc (mx (mx (mx (sinT false x) (sinT false y)) (-1:Rat)) (1:Rat))]):=by
  have s0:=(isR_s p1)
  have s1:=(sinT_s (h:=false) p1)
  have s2:=(isR_s s1)
  have s3:=(isR_s p2)
  have s4:=(sinT_s (h:=false) p2)
  have s5:=(isR_s s4)
  have s6:=(rlr_s (x:=sinT false x))
  have s7:=(isS_s s1 s1 s6 (by omega))
  have s8:=(rlr_s (x:=sinT false y))
  have s9:=(isS_s s4 s4 s8 (by omega))
  have s10:=(isS_s p1 p2 l1 (by omega))
  have s11:=szm1_s
  have s12:=(isR_s s11)
  have s14:=(mn_s s1 s4)
  have s15:=(mx_s s1 s4)
  have s16:=(mnmx_s (b:=sinT false y) (d:=sinT false y) s6)
  have s17:=(isS_s s14 s15 s16 (by omega))
  have s18:=(isS_s s11 s11 (by decide +kernel) (by decide +kernel))
  have s19:=sz1_s
  have s20:=(isR_s s19)
  have s22:=(mn_s s14 s11)
  have s23:=(mx_s s15 s11)
  have s24:=(mnmx_s (b:=(-1:Rat)) (d:=(-1:Rat)) s16)
  have s25:=(isS_s s22 s23 s24 (by omega))
  have s26:=(isS_s s19 s19 (by decide +kernel) (by decide +kernel))
  exact fn_ok Tryd.func30 (sc:=[(1,2,.fix (ag [rc x,rc y])),(2,2,.fix (ag [[.bool false],rc x])),(2,3,.fix (Rv (sinT false x))),(2,4,.fix (ag [rc (sinT false x),rc (sinT false x)])),(2,7,.fix (ag [[.bool false],rc y])),(2,8,.fix (Rv (sinT false y))),(2,9,.fix (ag [rc (sinT false y),rc (sinT false y)])),(2,10,.fix (ag [rc (mn (sinT false x) (sinT false y)),rc (mx (sinT false x) (sinT false y))])),(1006,1,.fix (Rv (-1:Rat))),(1007,2,.fix (.bool true)),(1008,2,.fix (ag [rc (-1:Rat),rc (-1:Rat)])),(1008,3,.fix (ag [rc (mn (mn (sinT false x) (sinT false y)) (-1:Rat)),rc (mx (mx (sinT false x) (sinT false y)) (-1:Rat))])),(2006,1,.fix (Rv (1:Rat))),(2007,2,.fix (.bool true)),(2008,2,.fix (ag [rc (1:Rat),rc (1:Rat)])),(2008,3,.fix (ag [rc (mn (mn (mn (sinT false x) (sinT false y)) (-1:Rat)) (1:Rat)),rc (mx (mx (mx (sinT false x) (sinT false y)) (-1:Rat)) (1:Rat))]))]) (sb:=[]) (by kernel_rfl) (hC (sj0_k h1' p1 p2 l1 k1) (hC (tof_k s0 (by omega)) (hC (tsin_k (h:=false) s0 (by omega)) (hC (sof_k s2 (by omega)) (hC (tof_k s3 (by omega)) (hC (tsin_k (h:=false) s3 (by omega)) (hC (sof_k s5 (by omega)) (hC (sjoin_k s7 s1 s1 s6 (by omega) s9 s4 s4 s8 (by omega)) (hP (show (0:Int)≤(0:Int)∧(0:Int) < (2:Int) by decide) (hC of0m1_k (hC (cbool (shas_k s10 p1 p2 l1 (by omega) s12 (by decide +kernel)) h13) (hC (sof_k s12 (by decide +kernel)) (hC (sjoin_k s17 s14 s15 s16 (by omega) s18 s11 s11 (by decide +kernel) (by decide +kernel)) (hP (show (0:Int)≤(1:Int)∧(1:Int) < (2:Int) by decide) (hC of1_k (hC (cbool (shas_k s10 p1 p2 l1 (by omega) s20 (by decide +kernel)) h21) (hC (sof_k s20 (by decide +kernel)) (hC (sjoin_k s25 s22 s23 s24 (by omega) s26 s19 s19 (by decide +kernel) (by decide +kernel)) hN))))))))))))))))))
theorem sinr0 {n1:Bool} {a1 b1:ByteArray}{n2:Bool} {a2 b2:ByteArray}{x y:Rat} {K J1:Nat} (h1':IsS n1 a1 b1 n2 a2 b2 x y J1) (p1:Sz x K) (p2:Sz y K) (l1:x≤y) (k1:K≤10000000) (h4:(decide (x≤(1:Rat))&&decide ((1:Rat)≤y))=false) (h7:(decide (x≤(-1:Rat))&&decide ((-1:Rat)≤y))=false):CSpec Tryd.prog 31 #[(ag [rr n1 a1 b1,rr n2 a2 b2])] (ag [rc (mn (sinT false x) (sinT false y)),rc (mx (sinT false x) (sinT false y))]):=by
  have s0:=(isR_s p1)
  have s1:=(isR_s p2)
  have s2:=sz1_s
  have s3:=(isR_s s2)
  have s5:=szm1_s
  have s6:=(isR_s s5)
  have s8:=(sinT_s (h:=false) p1)
  have s9:=(sinT_s (h:=false) p2)
  exact fn_ok Tryd.func31 (sc:=[(1,1,.fix (ag [rc x,rc y])),(2,3,.fix (.tuple #[Rv (cosT false x),Rv (sinT false x)])),(3,3,.fix (.tuple #[Rv (cosT false y),Rv (sinT false y)])),(5,0,.fix (Rv (1:Rat))),(5,1,.fix (Rv (-1:Rat))),(1008,2,.fix (.bool false)),(2008,2,.fix (.bool false)),(11,1,.read (ag [rc (mn (sinT false x) (sinT false y)),rc (mx (sinT false x) (sinT false y))]))]) (sb:=[]) (by kernel_rfl) (hC (rpair_k h1') (hC (circle_k (g:=false) s0 (by omega)) (hC (circle_k (g:=false) s1 (by omega)) (hC ri1_k (hC ri0m1_k (hP (show (0:Int)≤(0:Int)∧(0:Int) < (2:Int) by decide) (hC (cbool (rin_k s0 (by omega) s1 (by omega) s3 (by decide +kernel)) h4) (hP (show (0:Int)≤(1:Int)∧(1:Int) < (2:Int) by decide) (hC (cbool (rin_k s0 (by omega) s1 (by omega) s6 (by decide +kernel)) h7) (hF (rAround2_k (cp:=(2:Nat)) s8 s9 (by omega)) hN))))))))))
theorem sinr1 {n1:Bool} {a1 b1:ByteArray}{n2:Bool} {a2 b2:ByteArray}{x y:Rat} {K J1:Nat} (h1':IsS n1 a1 b1 n2 a2 b2 x y J1) (p1:Sz x K) (p2:Sz y K) (l1:x≤y) (k1:K≤10000000) (h4:(decide (x≤(1:Rat))&&decide ((1:Rat)≤y))=false) (h7:(decide (x≤(-1:Rat))&&decide ((-1:Rat)≤y))=true):CSpec Tryd.prog 31 #[(ag [rr n1 a1 b1,rr n2 a2 b2])] (ag [rc (mn (mn (sinT false x) (sinT false y)) (-1:Rat)),rc (mx (mx (sinT false x) (sinT false y)) (-1:Rat))]):=by
  have s0:=(isR_s p1)
  have s1:=(isR_s p2)
  have s2:=sz1_s
  have s3:=(isR_s s2)
  have s5:=szm1_s
  have s6:=(isR_s s5)
  have s8:=(sinT_s (h:=false) p1)
  have s9:=(sinT_s (h:=false) p2)
  exact fn_ok Tryd.func31 (sc:=[(1,1,.fix (ag [rc x,rc y])),(2,3,.fix (.tuple #[Rv (cosT false x),Rv (sinT false x)])),(3,3,.fix (.tuple #[Rv (cosT false y),Rv (sinT false y)])),(5,0,.fix (Rv (1:Rat))),(5,1,.fix (Rv (-1:Rat))),(1008,2,.fix (.bool false)),(2008,2,.fix (.bool true)),(2009,3,.app),(11,1,.read (ag [rc (mn (mn (sinT false x) (sinT false y)) (-1:Rat)),rc (mx (mx (sinT false x) (sinT false y)) (-1:Rat))]))]) (sb:=[]) (by kernel_rfl) (hC (rpair_k h1') (hC (circle_k (g:=false) s0 (by omega)) (hC (circle_k (g:=false) s1 (by omega)) (hC ri1_k (hC ri0m1_k (hP (show (0:Int)≤(0:Int)∧(0:Int) < (2:Int) by decide) (hC (cbool (rin_k s0 (by omega) s1 (by omega) s3 (by decide +kernel)) h4) (hP (show (0:Int)≤(1:Int)∧(1:Int) < (2:Int) by decide) (hC (cbool (rin_k s0 (by omega) s1 (by omega) s6 (by decide +kernel)) h7) (hP (show (3:Nat)≤(9223372036854775807:Nat)∧(120:Nat)≤(140737488355328:Nat) by decide) (hP (fun (cap:Nat)=>(rAround3_k (cp:=cap) s8 s9 s5 (by omega))) hN)))))))))))
theorem sinr2 {n1:Bool} {a1 b1:ByteArray}{n2:Bool} {a2 b2:ByteArray}{x y:Rat} {K J1:Nat} (h1':IsS n1 a1 b1 n2 a2 b2 x y J1) (p1:Sz x K) (p2:Sz y K) (l1:x≤y) (k1:K≤10000000) (h4:(decide (x≤(1:Rat))&&decide ((1:Rat)≤y))=true) (h7:(decide (x≤(-1:Rat))&&decide ((-1:Rat)≤y))=false):CSpec Tryd.prog 31 #[(ag [rr n1 a1 b1,rr n2 a2 b2])] (ag [rc (mn (mn (sinT false x) (sinT false y)) (1:Rat)),rc (mx (mx (sinT false x) (sinT false y)) (1:Rat))]):=by
  have s0:=(isR_s p1)
  have s1:=(isR_s p2)
  have s2:=sz1_s
  have s3:=(isR_s s2)
  have s5:=szm1_s
  have s6:=(isR_s s5)
  have s8:=(sinT_s (h:=false) p1)
  have s9:=(sinT_s (h:=false) p2)
  exact fn_ok Tryd.func31 (sc:=[(1,1,.fix (ag [rc x,rc y])),(2,3,.fix (.tuple #[Rv (cosT false x),Rv (sinT false x)])),(3,3,.fix (.tuple #[Rv (cosT false y),Rv (sinT false y)])),(5,0,.fix (Rv (1:Rat))),(5,1,.fix (Rv (-1:Rat))),(1008,2,.fix (.bool true)),(1009,3,.app),(2008,2,.fix (.bool false)),(11,1,.read (ag [rc (mn (mn (sinT false x) (sinT false y)) (1:Rat)),rc (mx (mx (sinT false x) (sinT false y)) (1:Rat))]))]) (sb:=[]) (by kernel_rfl) (hC (rpair_k h1') (hC (circle_k (g:=false) s0 (by omega)) (hC (circle_k (g:=false) s1 (by omega)) (hC ri1_k (hC ri0m1_k (hP (show (0:Int)≤(0:Int)∧(0:Int) < (2:Int) by decide) (hC (cbool (rin_k s0 (by omega) s1 (by omega) s3 (by decide +kernel)) h4) (hP (show (3:Nat)≤(9223372036854775807:Nat)∧(120:Nat)≤(140737488355328:Nat) by decide) (hP (show (0:Int)≤(1:Int)∧(1:Int) < (2:Int) by decide) (hC (cbool (rin_k s0 (by omega) s1 (by omega) s6 (by decide +kernel)) h7) (hP (fun (cap:Nat)=>(rAround3_k (cp:=cap) s8 s9 s2 (by omega))) hN)))))))))))
theorem sinr3 {n1:Bool} {a1 b1:ByteArray}{n2:Bool} {a2 b2:ByteArray}{x y:Rat} {K J1:Nat} (h1':IsS n1 a1 b1 n2 a2 b2 x y J1) (p1:Sz x K) (p2:Sz y K) (l1:x≤y) (k1:K≤10000000) (h4:(decide (x≤(1:Rat))&&decide ((1:Rat)≤y))=true) (h7:(decide (x≤(-1:Rat))&&decide ((-1:Rat)≤y))=true):CSpec Tryd.prog 31 #[(ag [rr n1 a1 b1,rr n2 a2 b2])] (ag [rc (mn (mn (mn (sinT false x) (sinT false y)) (1:Rat)) (-1:Rat)),rc (mx (mx (mx (sinT false x) (sinT false y)) (1:Rat)) (-1:Rat))]):=by
  have s0:=(isR_s p1)
  have s1:=(isR_s p2)
  have s2:=sz1_s
  have s3:=(isR_s s2)
  have s5:=szm1_s
  have s6:=(isR_s s5)
  have s8:=(sinT_s (h:=false) p1)
  have s9:=(sinT_s (h:=false) p2)
  exact fn_ok Tryd.func31 (sc:=[(1,1,.fix (ag [rc x,rc y])),(2,3,.fix (.tuple #[Rv (cosT false x),Rv (sinT false x)])),(3,3,.fix (.tuple #[Rv (cosT false y),Rv (sinT false y)])),(5,0,.fix (Rv (1:Rat))),(5,1,.fix (Rv (-1:Rat))),(1008,2,.fix (.bool true)),(1009,3,.app),(2008,2,.fix (.bool true)),(2009,3,.app),(11,1,.read (ag [rc (mn (mn (mn (sinT false x) (sinT false y)) (1:Rat)) (-1:Rat)),rc (mx (mx (mx (sinT false x) (sinT false y)) (1:Rat)) (-1:Rat))]))]) (sb:=[]) (by kernel_rfl) (hC (rpair_k h1') (hC (circle_k (g:=false) s0 (by omega)) (hC (circle_k (g:=false) s1 (by omega)) (hC ri1_k (hC ri0m1_k (hP (show (0:Int)≤(0:Int)∧(0:Int) < (2:Int) by decide) (hC (cbool (rin_k s0 (by omega) s1 (by omega) s3 (by decide +kernel)) h4) (hP (show (3:Nat)≤(9223372036854775807:Nat)∧(120:Nat)≤(140737488355328:Nat) by decide) (hP (show (0:Int)≤(1:Int)∧(1:Int) < (2:Int) by decide) (hC (cbool (rin_k s0 (by omega) s1 (by omega) s6 (by decide +kernel)) h7) (hP (show (4:Nat)≤(9223372036854775807:Nat)∧(160:Nat)≤(140737488355328:Nat) by decide) (hP (fun (cap:Nat)=>(rAround4_k (cp:=cap) s8 s9 s2 s5 (by omega))) hN))))))))))))
def snd (f:Rat→Rat→Rat) (a b:Rat) (p q:Bool):Rat :=
  match p,q with
  | false,false=>f a b
  | false,true=>f (f a b) 1
  | true,false=>f (f a b) (-1)
  | true,true=>f (f (f a b) (-1)) 1
theorem sinspan_k {n1:Bool} {a1 b1:ByteArray}{n2:Bool} {a2 b2:ByteArray}{x y:Rat} {K J1:Nat} (h1':IsS n1 a1 b1 n2 a2 b2 x y J1) (p1:Sz x K) (p2:Sz y K) (l1:x≤y) (k1:K≤10000000):CSpec Tryd.prog 30 #[ag [rr n1 a1 b1,rr n2 a2 b2]] (ag [rc (snd mn (sinT false x) (sinT false y) (decide (x ≤ -1)&&decide (-1≤y)) (decide (x≤1)&&decide (1≤y))),rc (snd mx (sinT false x) (sinT false y) (decide (x ≤ -1)&&decide (-1≤y)) (decide (x≤1)&&decide (1≤y)))]):=by
  cases p:(decide (x ≤ -1)&&decide (-1≤y))<;>cases q:(decide (x≤1)&&decide (1≤y))
  · exact sinp0 h1' p1 p2 l1 k1 p q
  · exact sinp1 h1' p1 p2 l1 k1 p q
  · exact sinp2 h1' p1 p2 l1 k1 p q
  exact sinp3 h1' p1 p2 l1 k1 p q
theorem sines_k {n1:Bool} {a1 b1:ByteArray}{n2:Bool} {a2 b2:ByteArray}{x y:Rat} {K J1:Nat} (h1':IsS n1 a1 b1 n2 a2 b2 x y J1) (p1:Sz x K) (p2:Sz y K) (l1:x≤y) (k1:K≤10000000):CSpec Tryd.prog 31 #[ag [rr n1 a1 b1,rr n2 a2 b2]] (ag [rc (snd mn (sinT false x) (sinT false y) (decide (x ≤ -1)&&decide (-1≤y)) (decide (x≤1)&&decide (1≤y))),rc (snd mx (sinT false x) (sinT false y) (decide (x ≤ -1)&&decide (-1≤y)) (decide (x≤1)&&decide (1≤y)))]):=by
  cases p:(decide (x ≤ -1)&&decide (-1≤y))<;>cases q:(decide (x≤1)&&decide (1≤y))
  · exact sinr0 h1' p1 p2 l1 k1 q p
  · exact sinr2 h1' p1 p2 l1 k1 q p
  · exact sinr1 h1' p1 p2 l1 k1 q p
  have:=sinr3 h1' p1 p2 l1 k1 q p
  have e1:mn (mn (mn (sinT false x) (sinT false y)) 1) (-1)=mn (mn (mn (sinT false x) (sinT false y)) (-1)) 1:=by unfold mn; grind
  have e2:mx (mx (mx (sinT false x) (sinT false y)) 1) (-1)=mx (mx (mx (sinT false x) (sinT false y)) (-1)) 1:=by unfold mx; grind
  rw [e1,e2] at this
  exact this
theorem turnSpans_w {n1:Bool} {a1 b1:ByteArray}{n2:Bool} {a2 b2:ByteArray}{x y:Rat} {J1:Nat} (h1':IsS n1 a1 b1 n2 a2 b2 x y J1) (p1:Sz x 2200000) (p2:Sz y 2200000) (l1:x≤y)  (h0:((1:Rat) - sqH x y)/((1:Rat)+sqH x y)=(csL x y:Rat)) (h1:((1:Rat) - sqL x y)/((1:Rat)+sqL x y)=(csH x y:Rat)):CSpec Tryd.prog 4 #[(ag [rr n1 a1 b1,rr n2 a2 b2])] (.bool true):=by
  exact fn_ok Tryd.func4 (sc:=[(1,0,.fix (.bool true)),(1,3,.fix (ag [rc (((1:Rat) - sqH x y)/((1:Rat)+sqH x y)),rc (((1:Rat) - sqL x y)/((1:Rat)+sqL x y))])),(1,5,.fix (ag [rc (csL x y),rc (csH x y)])),(1,6,.eqs),(1,10,.fix (ag [rc (snd mn (sinT false x) (sinT false y) (decide (x≤(-1:Rat))&&decide ((-1:Rat)≤y)) (decide (x≤(1:Rat))&&decide ((1:Rat)≤y))),rc (snd mx (sinT false x) (sinT false y) (decide (x≤(-1:Rat))&&decide ((-1:Rat)≤y)) (decide (x≤(1:Rat))&&decide ((1:Rat)≤y)))])),(1,12,.fix (ag [rc (snd mn (sinT false x) (sinT false y) (decide (x≤(-1:Rat))&&decide ((-1:Rat)≤y)) (decide (x≤(1:Rat))&&decide ((1:Rat)≤y))),rc (snd mx (sinT false x) (sinT false y) (decide (x≤(-1:Rat))&&decide ((-1:Rat)≤y)) (decide (x≤(1:Rat))&&decide ((1:Rat)≤y)))])),(1,13,.eqs)]) (sb:=[]) (by kernel_rfl) (hC turnBegun_k (hC (cospan_k h1' p1 p2 l1 (by decide +kernel)) (hC (cosines_k h1' p1 p2 l1 (by decide +kernel)) (hP (agc (lc (rcc h0) (lc (rcc h1) (Eq.refl [])))) (hC (sinspan_k h1' p1 p2 l1 (by decide +kernel)) (hC (sines_k h1' p1 p2 l1 (by decide +kernel)) (hP (Eq.refl (ag [rc (snd mn (sinT false x) (sinT false y) (decide (x≤(-1:Rat))&&decide ((-1:Rat)≤y)) (decide (x≤(1:Rat))&&decide ((1:Rat)≤y))),rc (snd mx (sinT false x) (sinT false y) (decide (x≤(-1:Rat))&&decide ((-1:Rat)≤y)) (decide (x≤(1:Rat))&&decide ((1:Rat)≤y)))])) hN)))))))
theorem turnSpans_law (n1:Bool) (a1 b1:ByteArray) (n2:Bool) (a2 b2:ByteArray) (s1:a1.size≤1048576) (t1:b1.size≤1048576) (s2:a2.size≤1048576) (t2:b2.size≤1048576):CSpec Tryd.prog 4 #[ag [rr n1 a1 b1,rr n2 a2 b2]] (.bool true):=by
  have i1:=IsS.raw (IsR.raw n1 a1 b1 s1 t1 (by decide)) (IsR.raw n2 a2 b2 s2 t2 (by decide)) (by decide) (by decide)
  exact turnSpans_w i1 (i1.sx.mono (by decide)) (i1.sy.mono (by decide)) i1.le rfl rfl
end Go.Proofs.YtbfpmofhopglfaaDoor.G
end
