import Derived.Test.YtjefpjajkbldpaaDoorYKA
import Derived.Test.YtjefpjajkbldpaaDoorYX0
import Derived.Test.YtjefpjajkbldpaaDoorYX1
set_option maxRecDepth 100000
set_option linter.unusedVariables false
section
namespace Go.Proofs.YtjefpjajkbldpaaDoor.G
open Go.Proofs.YtjefpjajkbldpaaDoor.U Go.RowKit
theorem of0_k:CSpec Tryd.prog 18 #[.int .i64 0] (Rv 0):=of_r 0 (by decide) (by decide)
theorem of1_k:CSpec Tryd.prog 18 #[.int .i64 1] (Rv 1):=of_r 1 (by decide) (by decide)
theorem of2_k:CSpec Tryd.prog 18 #[.int .i64 2] (Rv 2):=of_r 2 (by decide) (by decide)
theorem sz0_s:Sz 0 1:=⟨by decide,by decide⟩
theorem sz1_s:Sz 1 1:=⟨by decide,by decide⟩
theorem sz2_s:Sz 2 1:=⟨by decide,by decide⟩
theorem szm1_s:Sz (-1) 1:=⟨by decide,by decide⟩
theorem isR0_s:IsR false ⟨#[]⟩ ⟨#[]⟩ 0 1:=⟨dif_neg (fun h=>h.nz rfl),by decide,by decide,sz0_s⟩
theorem sq_pos (x:Rat):0≤x*x:=by
 rcases Rat.le_total (a:=0) (b:=x) with h | h
 ·exact Rat.mul_nonneg h h
 have h2:0 ≤ -x:=by grind
 have:=Rat.mul_nonneg h2 h2
 grind
end Go.Proofs.YtjefpjajkbldpaaDoor.G
end
section
namespace Go.Proofs.YtjefpjajkbldpaaDoor.G
open Go.Proofs.YtjefpjajkbldpaaDoor.U Go.RowKit
theorem ri_k {n:Int} (h1:-9223372036854775808≤n) (h2:n≤9223372036854775807)  : CSpec Tryd.prog 10 #[(.int .i64 n)] (Rv (↑n:Rat)):=by
 exact fn_ok Tryd.func10 (sc:=[(1,1,.fix (Rv (↑n:Rat)))]) (sb:=[]) (by kernel_rfl) (hC (of_k h1 h2) hN)
theorem ri0_k    : CSpec Tryd.prog 10 #[(.int .i64 0)] (Rv (0:Rat)):=by
 exact fn_ok Tryd.func10 (sc:=[(1,1,.fix (Rv (0:Rat)))]) (sb:=[]) (by kernel_rfl) (hC of0_k hN)
theorem ri1_k    : CSpec Tryd.prog 10 #[(.int .i64 1)] (Rv (1:Rat)):=by
 exact fn_ok Tryd.func10 (sc:=[(1,1,.fix (Rv (1:Rat)))]) (sb:=[]) (by kernel_rfl) (hC of1_k hN)
theorem ri2_k    : CSpec Tryd.prog 10 #[(.int .i64 2)] (Rv (2:Rat)):=by
 exact fn_ok Tryd.func10 (sc:=[(1,1,.fix (Rv (2:Rat)))]) (sb:=[]) (by kernel_rfl) (hC of2_k hN)
theorem vsub_k {n1:Bool} {a1 b1:ByteArray} {x1:Rat} {K1:Nat}{n2:Bool} {a2 b2:ByteArray} {x2:Rat} {K2:Nat}{n3:Bool} {a3 b3:ByteArray} {x3:Rat} {K3:Nat}{n4:Bool} {a4 b4:ByteArray} {x4:Rat} {K4:Nat} (h1':IsR n1 a1 b1 x1 K1) (k1:K1≤2000000000) (h2':IsR n2 a2 b2 x2 K2) (k2:K2≤2000000000) (h3':IsR n3 a3 b3 x3 K3) (k3:K3≤2000000000) (h4':IsR n4 a4 b4 x4 K4) (k4:K4≤2000000000)  : CSpec Tryd.prog 21 #[(ag [rr n1 a1 b1,rr n2 a2 b2]),(ag [rr n3 a3 b3,rr n4 a4 b4])] (ag [rc (x1 - x3),rc (x2 - x4)]):=by
 exact fn_ok Tryd.func21 (sc:=[(1,4,.fix (Rv (x1 - x3))),(1,9,.fix (Rv (x2 - x4)))]) (sb:=[]) (by kernel_rfl) (hC (sub_k h1' h3' (by omega)) (hC (sub_k h2' h4' (by omega)) hN))
theorem vdot_k {n1:Bool} {a1 b1:ByteArray} {x1:Rat} {K1:Nat}{n2:Bool} {a2 b2:ByteArray} {x2:Rat} {K2:Nat}{n3:Bool} {a3 b3:ByteArray} {x3:Rat} {K3:Nat}{n4:Bool} {a4 b4:ByteArray} {x4:Rat} {K4:Nat} (h1':IsR n1 a1 b1 x1 K1) (k1:K1≤2000000000) (h2':IsR n2 a2 b2 x2 K2) (k2:K2≤2000000000) (h3':IsR n3 a3 b3 x3 K3) (k3:K3≤2000000000) (h4':IsR n4 a4 b4 x4 K4) (k4:K4≤2000000000)  : CSpec Tryd.prog 38 #[(ag [rr n1 a1 b1,rr n2 a2 b2]),(ag [rr n3 a3 b3,rr n4 a4 b4])] (Rv (x1*x3+x2*x4)):=by
 have s0:=(mul_s (szr h1') (szr h3'))
 have s1:=(isR_s s0)
 have s2:=(mul_s (szr h2') (szr h4'))
 have s3:=(isR_s s2)
 exact fn_ok Tryd.func38 (sc:=[(1,4,.fix (Rv (x1*x3))),(1,9,.fix (Rv (x2*x4))),(1,10,.fix (Rv (x1*x3+x2*x4)))]) (sb:=[]) (by kernel_rfl) (hC (mul_k h1' h3' (by omega)) (hC (mul_k h2' h4' (by omega)) (hC (add_k s1 s3 (by omega)) hN)))
theorem vcross_k {n1:Bool} {a1 b1:ByteArray} {x1:Rat} {K1:Nat}{n2:Bool} {a2 b2:ByteArray} {x2:Rat} {K2:Nat}{n3:Bool} {a3 b3:ByteArray} {x3:Rat} {K3:Nat}{n4:Bool} {a4 b4:ByteArray} {x4:Rat} {K4:Nat} (h1':IsR n1 a1 b1 x1 K1) (k1:K1≤2000000000) (h2':IsR n2 a2 b2 x2 K2) (k2:K2≤2000000000) (h3':IsR n3 a3 b3 x3 K3) (k3:K3≤2000000000) (h4':IsR n4 a4 b4 x4 K4) (k4:K4≤2000000000)  : CSpec Tryd.prog 59 #[(ag [rr n1 a1 b1,rr n2 a2 b2]),(ag [rr n3 a3 b3,rr n4 a4 b4])] (Rv (x1*x4 - x2*x3)):=by
 have s0:=(mul_s (szr h1') (szr h4'))
 have s1:=(isR_s s0)
 have s2:=(mul_s (szr h2') (szr h3'))
 have s3:=(isR_s s2)
 exact fn_ok Tryd.func59 (sc:=[(1,4,.fix (Rv (x1*x4))),(1,9,.fix (Rv (x2*x3))),(1,10,.fix (Rv (x1*x4 - x2*x3)))]) (sb:=[]) (by kernel_rfl) (hC (mul_k h1' h4' (by omega)) (hC (mul_k h2' h3' (by omega)) (hC (sub_k s1 s3 (by omega)) hN)))
theorem rv_k {n1:Bool} {a1 b1:ByteArray} {x1:Rat} {K1:Nat}{n2:Bool} {a2 b2:ByteArray} {x2:Rat} {K2:Nat}{n3:Bool} {a3 b3:ByteArray} {x3:Rat} {K3:Nat}{n4:Bool} {a4 b4:ByteArray} {x4:Rat} {K4:Nat} (h1':IsR n1 a1 b1 x1 K1) (k1:K1≤2000000000) (h2':IsR n2 a2 b2 x2 K2) (k2:K2≤2000000000) (h3':IsR n3 a3 b3 x3 K3) (k3:K3≤2000000000) (h4':IsR n4 a4 b4 x4 K4) (k4:K4≤2000000000)  : CSpec Tryd.prog 45 #[(ag [rr n1 a1 b1,rr n2 a2 b2]),(ag [rr n3 a3 b3,rr n4 a4 b4])] (ag [rc (x3 - x1),rc (x4 - x2)]):=by
 exact fn_ok Tryd.func45 (sc:=[(1,4,.fix (Rv (x3 - x1))),(1,9,.fix (Rv (x4 - x2)))]) (sb:=[]) (by kernel_rfl) (hC (sub_k h3' h1' (by omega)) (hC (sub_k h4' h2' (by omega)) hN))
theorem rcross_k {n1:Bool} {a1 b1:ByteArray} {x1:Rat} {K1:Nat}{n2:Bool} {a2 b2:ByteArray} {x2:Rat} {K2:Nat}{n3:Bool} {a3 b3:ByteArray} {x3:Rat} {K3:Nat}{n4:Bool} {a4 b4:ByteArray} {x4:Rat} {K4:Nat} (h1':IsR n1 a1 b1 x1 K1) (k1:K1≤2000000000) (h2':IsR n2 a2 b2 x2 K2) (k2:K2≤2000000000) (h3':IsR n3 a3 b3 x3 K3) (k3:K3≤2000000000) (h4':IsR n4 a4 b4 x4 K4) (k4:K4≤2000000000)  : CSpec Tryd.prog 44 #[(ag [rr n1 a1 b1,rr n2 a2 b2]),(ag [rr n3 a3 b3,rr n4 a4 b4])] (Rv (x1*x4 - x2*x3)):=by
 have s0:=(mul_s (szr h1') (szr h4'))
 have s1:=(isR_s s0)
 have s2:=(mul_s (szr h2') (szr h3'))
 have s3:=(isR_s s2)
 exact fn_ok Tryd.func44 (sc:=[(1,4,.fix (Rv (x1*x4))),(1,9,.fix (Rv (x2*x3))),(1,10,.fix (Rv (x1*x4 - x2*x3)))]) (sb:=[]) (by kernel_rfl) (hC (mul_k h1' h4' (by omega)) (hC (mul_k h2' h3' (by omega)) (hC (sub_k s1 s3 (by omega)) hN)))
theorem rdot_k {n1:Bool} {a1 b1:ByteArray} {x1:Rat} {K1:Nat}{n2:Bool} {a2 b2:ByteArray} {x2:Rat} {K2:Nat}{n3:Bool} {a3 b3:ByteArray} {x3:Rat} {K3:Nat}{n4:Bool} {a4 b4:ByteArray} {x4:Rat} {K4:Nat} (h1':IsR n1 a1 b1 x1 K1) (k1:K1≤2000000000) (h2':IsR n2 a2 b2 x2 K2) (k2:K2≤2000000000) (h3':IsR n3 a3 b3 x3 K3) (k3:K3≤2000000000) (h4':IsR n4 a4 b4 x4 K4) (k4:K4≤2000000000)  : CSpec Tryd.prog 12 #[(ag [rr n1 a1 b1,rr n2 a2 b2]),(ag [rr n3 a3 b3,rr n4 a4 b4])] (Rv (x1*x3+x2*x4)):=by
 have s0:=(mul_s (szr h1') (szr h3'))
 have s1:=(isR_s s0)
 have s2:=(mul_s (szr h2') (szr h4'))
 have s3:=(isR_s s2)
 exact fn_ok Tryd.func12 (sc:=[(1,4,.fix (Rv (x1*x3))),(1,9,.fix (Rv (x2*x4))),(1,10,.fix (Rv (x1*x3+x2*x4)))]) (sb:=[]) (by kernel_rfl) (hC (mul_k h1' h3' (by omega)) (hC (mul_k h2' h4' (by omega)) (hC (add_k s1 s3 (by omega)) hN)))
end Go.Proofs.YtjefpjajkbldpaaDoor.G
end
section
namespace Go.Proofs.YtjefpjajkbldpaaDoor.G
open Go.Proofs.YtjefpjajkbldpaaDoor.U Go.RowKit Go.Proofs.YtjefpjajkbldpaaDoor.A Go.Proofs.YtjefpjajkbldpaaDoor.X
theorem nt1_k {n:Nat} (h:n=1):CSpec Tryd.prog 65 #[.string (M.B n)] (.string ⟨#[49]⟩):=fun w _=>by
 subst h
 rw [B_one1]
 exact nat_Text.calls 40 one1 ⟨#[49]⟩ w (by decide +kernel)
theorem B_two1:M.B 2=⟨#[2]⟩:=by
 have h:M.B (M.V ⟨#[2]⟩)=⟨#[2]⟩:=SA.lead_of _ (.inr (by decide))
 exact h
theorem nt2_k {n:Nat} (h:n=2):CSpec Tryd.prog 65 #[.string (M.B n)] (.string ⟨#[50]⟩):=fun w _=>by
 subst h
 rw [B_two1]
 exact nat_Text.calls 40 ⟨#[2]⟩ ⟨#[50]⟩ w (by decide +kernel)
theorem fitR_k {x:Rat} {K:Nat} (h:Sz x K) (hK:K≤68719476736):CSpec Tryd.prog 25 #[Rv x] (Rv x):=fit_Rv x (h.mono hK)
theorem rtx    : CSpec Tryd.prog 58 #[(Rv (-1/2))] (.string ({ data:=#[(45:UInt8)] }++{ data:=#[(49:UInt8)] }++({ data:=#[(47:UInt8)] }++{ data:=#[(50:UInt8)] }))):=by
 have s0:=szm1_s
 have s1:=sz2_s
 have s2:=(div_s s0 s1)
 exact fn_ok Tryd.func58 (sc:=[(1,1,.fix (Rv (-1/2:Rat))),(2,2,.fix (.string ({ data:=#[(49:UInt8)] }))),(6,3,.fix (.string ({ data:=#[(50:UInt8)] })))]) (sb:=[]) (by kernel_rfl) (hC (fitR_k s2 (by decide +kernel)) (hC (nt1_k (n:=Int.natAbs (Rat.num (-1/2:Rat))) (by decide +kernel)) (hC (nt2_k (n:=Rat.den (-1/2:Rat)) (by decide +kernel)) hN)))
theorem rtext_k {x:Rat} (h:x = -1/2):CSpec Tryd.prog 58 #[Rv x] (.string ⟨#[45,49,47,50]⟩):=by
 subst h
 exact rtx
theorem ratBegun_k    : CSpec Tryd.prog 33 #[] (.bool true):=by
 have s0:=(int_s (n:=(2:Int)) (by decide +kernel))
 have s1:=(int_s (n:=(-4:Int)) (by decide +kernel))
 have s2:=(div_s s0 s1)
 exact fn_ok Tryd.func33 (sc:=[(1,0,.fix (.tuple #[Rv ((↑(2:Int):Rat)/(↑(-4:Int):Rat)),.int IntKind.i64 (0:Int)])),(2,4,.fix (.string ({ data:=#[(45:UInt8),(49:UInt8),(47:UInt8),(50:UInt8)] }))),(2,9,.fix (.bool true))]) (sb:=[]) (by kernel_rfl) (hC (make_k (n:=(2:Int)) (m:=(-4:Int)) (by decide +kernel) (by decide +kernel) (by decide +kernel) (by decide +kernel) (by decide +kernel)) (hC (rtext_k (x:=(↑(2:Int):Rat)/(↑(-4:Int):Rat)) (by decide +kernel)) (hC (gooda_k s2 (by decide +kernel)) hN)))
end Go.Proofs.YtjefpjajkbldpaaDoor.G
end
