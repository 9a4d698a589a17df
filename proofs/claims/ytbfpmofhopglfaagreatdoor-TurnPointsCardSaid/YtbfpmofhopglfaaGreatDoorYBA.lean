import Derived.Test.YtbfpmofhopglfaaGreatDoorYKA
import Derived.Test.YtbfpmofhopglfaaGreatDoorYX0
import Derived.Test.YtbfpmofhopglfaaGreatDoorYX1
set_option maxRecDepth 100000
set_option linter.unusedVariables false
section
namespace Go.Proofs.YtbfpmofhopglfaaGreatDoor.G
open Go.Proofs.YtbfpmofhopglfaaGreatDoor.U Go.RowKit
theorem mi_self_k {n:Bool} {a b:ByteArray} {x:Rat} {K:Nat} (h:IsR n a b x K) (hs:K≤8589934592):CSpec Tryz.prog 61 #[rv n a b,rv n a b] (Rv x):=by
  have:=min_k h h (by omega)
  rwa [mn_self] at this
theorem of0_k:CSpec Tryz.prog 19 #[.int .i64 0] (Rv 0):=of_r 0 (by decide) (by decide)
theorem of1_k:CSpec Tryz.prog 19 #[.int .i64 1] (Rv 1):=of_r 1 (by decide) (by decide)
theorem of0m1_k:CSpec Tryz.prog 19 #[.int .i64 (-1)] (Rv (-1)):=of_r (-1) (by decide) (by decide)
theorem sz0_s:Sz 0 1:=⟨by decide,by decide⟩
theorem sz1_s:Sz 1 1:=⟨by decide,by decide⟩
theorem sz2_s:Sz 2 1:=⟨by decide,by decide⟩
theorem szm1_s:Sz (-1) 1:=⟨by decide,by decide⟩
theorem sq_pos (x:Rat):0≤x*x:=by
  rcases Rat.le_total (a:=0) (b:=x) with h | h
  · exact Rat.mul_nonneg h h
  have h2:0 ≤ -x:=by grind
  have:=Rat.mul_nonneg h2 h2
  grind
theorem sq_nn (x:Rat):1+x*x≠0:=by
  have:=sq_pos x
  grind
theorem tof_k {n:Bool} {a b:ByteArray} {x:Rat} {K:Nat} (hx:IsR n a b x K) (hK:K≤8000000000)  : CSpec Tryz.prog 17 #[(rv n a b)] (ag [[.bool false],rc x]):=by
  exact fn_ok Tryz.func17 (sc:=[(1,2,.fix (Rv x))]) (sb:=[]) (by kernel_rfl) (hC (mi_self_k hx (by omega)) hN)
theorem thalf_k    : CSpec Tryz.prog 77 #[] (ag [[.bool true],rc (0:Rat)]):=by
  exact fn_ok Tryz.func77 (sc:=[(1,0,.fix (Rv (0:Rat)))]) (sb:=[]) (by kernel_rfl) (hC of0_k hN)
theorem tfitf_k {n:Bool} {a b:ByteArray} {x:Rat} {K:Nat} (hx:IsR n a b x K) (hK:K≤8000000000)  : CSpec Tryz.prog 107 #[(ag [[.bool false],rr n a b])] (ag [[.bool false],rc x]):=by
  exact fn_ok Tryz.func107 (sc:=[(3,2,.fix (ag [[.bool false],rc x]))]) (sb:=[]) (by kernel_rfl) (hC (tof_k hx hK) hN)
theorem tfith_k {n:Bool} {a b:ByteArray}   : CSpec Tryz.prog 107 #[(ag [[.bool true],rr n a b])] (ag [[.bool true],rc (0:Rat)]):=by
  exact fn_ok Tryz.func107 (sc:=[(2,0,.fix (ag [[.bool true],rc (0:Rat)]))]) (sb:=[]) (by kernel_rfl) (hC thalf_k hN)
theorem cosf {n:Bool} {a b:ByteArray} {x:Rat} {K:Nat} (hx:IsR n a b x K) (hK:K≤2000000000) (h9:(1:Rat)+x*x≠(0:Rat)):CSpec Tryz.prog 72 #[(ag [[.bool false],rr n a b])] (Rv (((1:Rat) - x*x)/((1:Rat)+x*x))):=by
  have s0:=(isR_s (szr hx))
  have s1:=sz1_s
  have s2:=(isR_s s1)
  have s3:=(mul_s (szr hx) (szr hx))
  have s4:=(isR_s s3)
  have s5:=(sub_s s1 s3)
  have s6:=(isR_s s5)
  have s7:=(add_s s1 s3)
  have s8:=(isR_s s7)
  exact fn_ok Tryz.func72 (sc:=[(1,1,.fix (ag [[.bool false],rc x])),(4,4,.fix (Rv (x*x))),(5,0,.fix (Rv (1:Rat))),(5,2,.fix (Rv ((1:Rat) - x*x))),(5,3,.fix (Rv (1:Rat))),(5,5,.fix (Rv ((1:Rat)+x*x))),(5,6,.fix (.tuple #[Rv (((1:Rat) - x*x)/((1:Rat)+x*x)),.int IntKind.i64 (0:Int)]))]) (sb:=[]) (by kernel_rfl) (hC (tfitf_k hx (by omega)) (hC (mul_k s0 s0 (by omega)) (hC of1_k (hC (sub_k s2 s4 (by omega)) (hC of1_k (hC (add_k s2 s4 (by omega)) (hC (div_k s6 s8 (by omega) h9) hN)))))))
theorem cosh {n:Bool} {a b:ByteArray}   : CSpec Tryz.prog 72 #[(ag [[.bool true],rr n a b])] (Rv (-1:Rat)):=by
  exact fn_ok Tryz.func72 (sc:=[(1,1,.fix (ag [[.bool true],rc (0:Rat)])),(3,0,.fix (Rv (-1:Rat)))]) (sb:=[]) (by kernel_rfl) (hC (tfith_k (n:=n) (a:=a) (b:=b)) (hC of0m1_k hN))
theorem sinf {n:Bool} {a b:ByteArray} {x:Rat} {K:Nat} (hx:IsR n a b x K) (hK:K≤2000000000) (h9:(1:Rat)+x*x≠(0:Rat)):CSpec Tryz.prog 73 #[(ag [[.bool false],rr n a b])] (Rv ((x+x)/((1:Rat)+x*x))):=by
  have s0:=(isR_s (szr hx))
  have s1:=sz1_s
  have s2:=(isR_s s1)
  have s3:=(mul_s (szr hx) (szr hx))
  have s4:=(isR_s s3)
  have s5:=(add_s (szr hx) (szr hx))
  have s6:=(isR_s s5)
  have s7:=(add_s s1 s3)
  have s8:=(isR_s s7)
  exact fn_ok Tryz.func73 (sc:=[(1,1,.fix (ag [[.bool false],rc x])),(2,4,.fix (Rv (x+x))),(2,5,.fix (Rv (1:Rat))),(2,10,.fix (Rv (x*x))),(2,11,.fix (Rv ((1:Rat)+x*x))),(2,12,.fix (.tuple #[Rv ((x+x)/((1:Rat)+x*x)),.int IntKind.i64 (0:Int)]))]) (sb:=[]) (by kernel_rfl) (hC (tfitf_k hx (by omega)) (hC (add_k s0 s0 (by omega)) (hC of1_k (hC (mul_k s0 s0 (by omega)) (hC (add_k s2 s4 (by omega)) (hC (div_k s6 s8 (by omega) h9) hN))))))
theorem sinh {n:Bool} {a b:ByteArray}   : CSpec Tryz.prog 73 #[(ag [[.bool true],rr n a b])] (Rv (((0:Rat)+(0:Rat))/((1:Rat)+(0:Rat)*(0:Rat)))):=by
  have s0:=sz0_s
  have s1:=(isR_s s0)
  have s2:=sz1_s
  have s3:=(isR_s s2)
  have s4:=(mul_s s0 s0)
  have s5:=(isR_s s4)
  have s6:=(add_s s0 s0)
  have s7:=(isR_s s6)
  have s8:=(add_s s2 s4)
  have s9:=(isR_s s8)
  exact fn_ok Tryz.func73 (sc:=[(1,1,.fix (ag [[.bool true],rc (0:Rat)])),(2,4,.fix (Rv ((0:Rat)+(0:Rat)))),(2,5,.fix (Rv (1:Rat))),(2,10,.fix (Rv ((0:Rat)*(0:Rat)))),(2,11,.fix (Rv ((1:Rat)+(0:Rat)*(0:Rat)))),(2,12,.fix (.tuple #[Rv (((0:Rat)+(0:Rat))/((1:Rat)+(0:Rat)*(0:Rat))),.int IntKind.i64 (0:Int)]))]) (sb:=[]) (by kernel_rfl) (hC (tfith_k (n:=n) (a:=a) (b:=b)) (hC (add_k s1 s1 (by decide +kernel)) (hC of1_k (hC (mul_k s1 s1 (by decide +kernel)) (hC (add_k s3 s5 (by decide +kernel)) (hC (div_k s7 s9 (by decide +kernel) (by decide +kernel)) hN))))))
def cosT (h:Bool) (x:Rat):Rat:=if h then -1 else (1 - x*x)/(1+x*x)
def sinT (h:Bool) (x:Rat):Rat:=if h then 0 else (x+x)/(1+x*x)
section
variable {n n' h h':Bool} {a b a' b':ByteArray} {x y:Rat} {K L:Nat}
theorem tcos_k (hx:IsR n a b x K) (hK:K≤2000000000):CSpec Tryz.prog 72 #[ag [[.bool h],rr n a b]] (Rv (cosT h x)):=by
  cases h
  · exact cosf hx hK (sq_nn x)
  exact cosh
theorem tsin_k (hx:IsR n a b x K) (hK:K≤2000000000):CSpec Tryz.prog 73 #[ag [[.bool h],rr n a b]] (Rv (sinT h x)):=by
  cases h
  · exact sinf hx hK (sq_nn x)
  have:=sinh (n:=n) (a:=a) (b:=b)
  have e:((0:Rat)+0)/(1+0*0)=0:=by decide +kernel
  rw [e] at this
  exact this
end
end Go.Proofs.YtbfpmofhopglfaaGreatDoor.G
end
section
namespace Go.Proofs.YtbfpmofhopglfaaGreatDoor.G
open Go.Proofs.YtbfpmofhopglfaaGreatDoor.U Go.RowKit
theorem ri0_k    : CSpec Tryz.prog 13 #[(.int .i64 0)] (Rv (0:Rat)):=by
  exact fn_ok Tryz.func13 (sc:=[(1,1,.fix (Rv (0:Rat)))]) (sb:=[]) (by kernel_rfl) (hC of0_k hN)
theorem ri1_k    : CSpec Tryz.prog 13 #[(.int .i64 1)] (Rv (1:Rat)):=by
  exact fn_ok Tryz.func13 (sc:=[(1,1,.fix (Rv (1:Rat)))]) (sb:=[]) (by kernel_rfl) (hC of1_k hN)
theorem rdot_k {n1:Bool} {a1 b1:ByteArray} {x1:Rat} {K1:Nat}{n2:Bool} {a2 b2:ByteArray} {x2:Rat} {K2:Nat}{n3:Bool} {a3 b3:ByteArray} {x3:Rat} {K3:Nat}{n4:Bool} {a4 b4:ByteArray} {x4:Rat} {K4:Nat} (h1':IsR n1 a1 b1 x1 K1) (k1:K1≤2000000000) (h2':IsR n2 a2 b2 x2 K2) (k2:K2≤2000000000) (h3':IsR n3 a3 b3 x3 K3) (k3:K3≤2000000000) (h4':IsR n4 a4 b4 x4 K4) (k4:K4≤2000000000)  : CSpec Tryz.prog 28 #[(ag [rr n1 a1 b1,rr n2 a2 b2]),(ag [rr n3 a3 b3,rr n4 a4 b4])] (Rv (x1*x3+x2*x4)):=by
  have s0:=(mul_s (szr h1') (szr h3'))
  have s1:=(isR_s s0)
  have s2:=(mul_s (szr h2') (szr h4'))
  have s3:=(isR_s s2)
  exact fn_ok Tryz.func28 (sc:=[(1,4,.fix (Rv (x1*x3))),(1,9,.fix (Rv (x2*x4))),(1,10,.fix (Rv (x1*x3+x2*x4)))]) (sb:=[]) (by kernel_rfl) (hC (mul_k h1' h3' (by omega)) (hC (mul_k h2' h4' (by omega)) (hC (add_k s1 s3 (by omega)) hN)))
theorem turnof1 {n1:Bool} {a1 b1:ByteArray} {x1:Rat} {K1:Nat}{n2:Bool} {a2 b2:ByteArray} {x2:Rat} {K2:Nat} (h1':IsR n1 a1 b1 x1 K1) (k1:K1≤2000000000) (h2':IsR n2 a2 b2 x2 K2) (k2:K2≤2000000000) (h4:(1:Rat)+x1≠(0:Rat)):CSpec Tryz.prog 34 #[(rv n1 a1 b1),(rv n2 a2 b2)] (ag [[.bool false],rc (x2/((1:Rat)+x1))]):=by
  have s0:=sz1_s
  have s1:=(isR_s s0)
  have s2:=(add_s s0 (szr h1'))
  have s3:=(isR_s s2)
  exact fn_ok Tryz.func34 (sc:=[(1,1,.fix (Rv (1:Rat))),(1,3,.fix (Rv ((1:Rat)+x1))),(1,4,.fix (.tuple #[Rv (x2/((1:Rat)+x1)),.int IntKind.i64 (0:Int)]))]) (sb:=[]) (by kernel_rfl) (hC ri1_k (hC (add_k s1 h1' (by omega)) (hC (div_k h2' s3 (by omega) h4) hN)))
theorem turnofz {n1:Bool} {a1 b1:ByteArray} {x1:Rat} {K1:Nat}{n2:Bool} {a2 b2:ByteArray} {x2:Rat} {K2:Nat} (h1':IsR n1 a1 b1 x1 K1) (k1:K1≤2000000000) (h2':IsR n2 a2 b2 x2 K2) (k2:K2≤2000000000) (h4:(1:Rat)+x1=(0:Rat)):CSpec Tryz.prog 34 #[(rv n1 a1 b1),(rv n2 a2 b2)] (ag [[.bool true],rc (0:Rat)]):=by
  have s0:=sz1_s
  have s1:=(isR_s s0)
  have s2:=(add_s s0 (szr h1'))
  have s3:=(isR_s s2)
  exact fn_ok Tryz.func34 (sc:=[(1,1,.fix (Rv (1:Rat))),(1,3,.fix (Rv ((1:Rat)+x1))),(1,4,.fix (.tuple #[ag [[.bool false],[.string ({ data:=#[] })],[.string ({ data:=#[] })]],.int IntKind.i64 (12:Int)])),(3,0,.fix (Rv (0:Rat)))]) (sb:=[]) (by kernel_rfl) (hC ri1_k (hC (add_k s1 h1' (by omega)) (hC (divz_k h2' s3 (by omega) h4) (hC ri0_k hN))))
def tof (c s:Rat):Bool × Rat:=if 1+c=0 then (true,0) else (false,s/(1+c))
theorem turnof_k {n1:Bool} {a1 b1:ByteArray} {x1:Rat} {K1:Nat}{n2:Bool} {a2 b2:ByteArray} {x2:Rat} {K2:Nat} (h1':IsR n1 a1 b1 x1 K1) (k1:K1≤2000000000) (h2':IsR n2 a2 b2 x2 K2) (k2:K2≤2000000000):CSpec Tryz.prog 34 #[rv n1 a1 b1,rv n2 a2 b2] (ag [[.bool (tof x1 x2).1],rc (tof x1 x2).2]):=by
  unfold tof
  split
  · rename_i h
    exact turnofz h1' k1 h2' k2 h
  rename_i h
  exact turnof1 h1' k1 h2' k2 h
theorem st1 {g h:Bool} {x y:Rat} (hg:(g==h)=true) (h0:Rv x=(Rv y:Value)):CSpec Tryz.prog 33 #[(ag [[.bool g],rc x]),(ag [[.bool h],rc y])] (.bool true):=by
  exact fn_ok Tryz.func33 (sc:=[(1,4,.is (.c (.bool true))),(1,10,.eqs)]) (sb:=[]) (by kernel_rfl) (hP (isB hg) (hP h0 hN))
theorem st_k {g h:Bool} {x y:Rat} (hg:g=h) (hx:x=y):CSpec Tryz.prog 33 #[ag [[.bool g],rc x],ag [[.bool h],rc y]] (.bool true):=st1 (by rw [hg]; exact beq_self_eq_true _) (by rw [hx])
end Go.Proofs.YtbfpmofhopglfaaGreatDoor.G
end
section
namespace Go.Proofs.YtbfpmofhopglfaaGreatDoor.G
open Go.Proofs.YtbfpmofhopglfaaGreatDoor.U Go.RowKit Go.Proofs.YtbfpmofhopglfaaGreatDoor.A Go.Proofs.YtbfpmofhopglfaaGreatDoor.X
theorem nt1_k {n:Nat} (h:n=1):CSpec Tryz.prog 131 #[.string (M.B n)] (.string ⟨#[49]⟩):=fun w _=>by
  subst h
  rw [B_one1]
  exact nat_Text.calls 40 one1 ⟨#[49]⟩ w (by decide +kernel)
theorem B_two1:M.B 2=⟨#[2]⟩:=by
  have h:M.B (M.V ⟨#[2]⟩)=⟨#[2]⟩:=SA.lead_of _ (.inr (by decide))
  exact h
theorem nt2_k {n:Nat} (h:n=2):CSpec Tryz.prog 131 #[.string (M.B n)] (.string ⟨#[50]⟩):=fun w _=>by
  subst h
  rw [B_two1]
  exact nat_Text.calls 40 ⟨#[2]⟩ ⟨#[50]⟩ w (by decide +kernel)
theorem fitR_k {x:Rat} {K:Nat} (h:Sz x K) (hK:K≤68719476736):CSpec Tryz.prog 53 #[Rv x] (Rv x):=fit_Rv x (h.mono hK)
theorem rtx    : CSpec Tryz.prog 109 #[(Rv (-1/2))] (.string ({ data:=#[(45:UInt8)] }++{ data:=#[(49:UInt8)] }++({ data:=#[(47:UInt8)] }++{ data:=#[(50:UInt8)] }))):=by
  have s0:=szm1_s
  have s1:=sz2_s
  have s2:=(div_s s0 s1)
  exact fn_ok Tryz.func109 (sc:=[(1,1,.fix (Rv (-1/2:Rat))),(2,2,.fix (.string ({ data:=#[(49:UInt8)] }))),(6,3,.fix (.string ({ data:=#[(50:UInt8)] })))]) (sb:=[]) (by kernel_rfl) (hC (fitR_k s2 (by decide +kernel)) (hC (nt1_k (n:=Int.natAbs (Rat.num (-1/2:Rat))) (by decide +kernel)) (hC (nt2_k (n:=Rat.den (-1/2:Rat)) (by decide +kernel)) hN)))
theorem rtext_k {x:Rat} (h:x = -1/2):CSpec Tryz.prog 109 #[Rv x] (.string ⟨#[45,49,47,50]⟩):=by
  subst h
  exact rtx
theorem num_k {n m:Int} (hn:-9223372036854775808≤n) (hn2:n≤9223372036854775807) (hm:-9223372036854775808≤m) (hm2:m≤9223372036854775807) (h0:m≠0)  : CSpec Tryz.prog 38 #[(.int .i64 n),(.int .i64 m)] (Rv ((↑n:Rat)/(↑m:Rat))):=by
  exact fn_ok Tryz.func38 (sc:=[(1,2,.fix (.tuple #[Rv ((↑n:Rat)/(↑m:Rat)),.int IntKind.i64 (0:Int)]))]) (sb:=[]) (by kernel_rfl) (hC (make_k hn hn2 hm hm2 h0) hN)
theorem ratBegun_k    : CSpec Tryz.prog 71 #[] (.bool true):=by
  have s0:=(int_s (n:=(2:Int)) (by decide +kernel))
  have s1:=(int_s (n:=(-4:Int)) (by decide +kernel))
  have s2:=(div_s s0 s1)
  exact fn_ok Tryz.func71 (sc:=[(1,0,.fix (.tuple #[Rv ((↑(2:Int):Rat)/(↑(-4:Int):Rat)),.int IntKind.i64 (0:Int)])),(2,4,.fix (.string ({ data:=#[(45:UInt8),(49:UInt8),(47:UInt8),(50:UInt8)] }))),(2,9,.fix (.bool true))]) (sb:=[]) (by kernel_rfl) (hC (make_k (n:=(2:Int)) (m:=(-4:Int)) (by decide +kernel) (by decide +kernel) (by decide +kernel) (by decide +kernel) (by decide +kernel)) (hC (rtext_k (x:=(↑(2:Int):Rat)/(↑(-4:Int):Rat)) (by decide +kernel)) (hC (gooda_k s2 (by decide +kernel)) hN)))
theorem turnBegun_k    : CSpec Tryz.prog 26 #[] (.bool true):=by
  have s0:=(int_s (n:=(1:Int)) (by decide +kernel))
  have s1:=(int_s (n:=(2:Int)) (by decide +kernel))
  have s2:=(div_s s0 s1)
  have s3:=(isR_s s2)
  exact fn_ok Tryz.func26 (sc:=[(1,0,.fix (Rv ((↑(1:Int):Rat)/(↑(2:Int):Rat)))),(1,1,.fix (ag [[.bool false],rc ((↑(1:Int):Rat)/(↑(2:Int):Rat))])),(2,0,.fix (.bool true)),(2,3,.fix (Rv (cosT false ((↑(1:Int):Rat)/(↑(2:Int):Rat))))),(2,4,.fix (Rv ((↑(3:Int):Rat)/(↑(5:Int):Rat)))),(2,9,.fix (Rv (sinT false ((↑(1:Int):Rat)/(↑(2:Int):Rat))))),(2,10,.fix (Rv ((↑(4:Int):Rat)/(↑(5:Int):Rat))))]) (sb:=[]) (by kernel_rfl) (hC (num_k (n:=(1:Int)) (m:=(2:Int)) (by decide +kernel) (by decide +kernel) (by decide +kernel) (by decide +kernel) (by decide +kernel)) (hC (tof_k s3 (by decide +kernel)) (hC ratBegun_k (hC (tcos_k (h:=false) s3 (by decide +kernel)) (hC (num_k (n:=(3:Int)) (m:=(5:Int)) (by decide +kernel) (by decide +kernel) (by decide +kernel) (by decide +kernel) (by decide +kernel)) (hC (tsin_k (h:=false) s3 (by decide +kernel)) (hC (num_k (n:=(4:Int)) (m:=(5:Int)) (by decide +kernel) (by decide +kernel) (by decide +kernel) (by decide +kernel) (by decide +kernel)) hN)))))))
end Go.Proofs.YtbfpmofhopglfaaGreatDoor.G
end
