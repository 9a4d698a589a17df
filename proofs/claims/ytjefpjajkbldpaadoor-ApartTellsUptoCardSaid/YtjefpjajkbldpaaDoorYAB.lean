import Derived.Test.YtjefpjajkbldpaaDoorYBA
import Derived.Test.YtjefpjajkbldpaaDoorYU6
namespace Go.Proofs.YtjefpjajkbldpaaDoor.G
open Go.Proofs.YtjefpjajkbldpaaDoor.U Go.RowKit
set_option linter.unusedVariables false
set_option maxRecDepth 100000
theorem ri4_k:CSpec Tryd.prog 10 #[.int .i64 4] (Rv 4):=by
 have h:=ri_k (n:=4) (by decide) (by decide)
 rwa [show (((4:Int):Rat))=4 from rfl] at h
theorem ri5_k:CSpec Tryd.prog 10 #[.int .i64 5] (Rv 5):=by
 have h:=ri_k (n:=5) (by decide) (by decide)
 rwa [show (((5:Int):Rat))=5 from rfl] at h
theorem ri6_k:CSpec Tryd.prog 10 #[.int .i64 6] (Rv 6):=by
 have h:=ri_k (n:=6) (by decide) (by decide)
 rwa [show (((6:Int):Rat))=6 from rfl] at h
theorem ri25_k:CSpec Tryd.prog 10 #[.int .i64 25] (Rv 25):=by
 have h:=ri_k (n:=25) (by decide) (by decide)
 rwa [show (((25:Int):Rat))=25 from rfl] at h
theorem left_k {n1:Bool} {a1 b1:ByteArray} {x1:Rat} {K1:Nat}{n2:Bool} {a2 b2:ByteArray} {x2:Rat} {K2:Nat}{n3:Bool} {a3 b3:ByteArray} {x3:Rat} {K3:Nat}{n4:Bool} {a4 b4:ByteArray} {x4:Rat} {K4:Nat}{n5:Bool} {a5 b5:ByteArray} {x5:Rat} {K5:Nat}{n6:Bool} {a6 b6:ByteArray} {x6:Rat} {K6:Nat} (h1':IsR n1 a1 b1 x1 K1) (k1:K1≤100000000) (h2':IsR n2 a2 b2 x2 K2) (k2:K2≤100000000) (h3':IsR n3 a3 b3 x3 K3) (k3:K3≤100000000) (h4':IsR n4 a4 b4 x4 K4) (k4:K4≤100000000) (h5':IsR n5 a5 b5 x5 K5) (k5:K5≤100000000) (h6':IsR n6 a6 b6 x6 K6) (k6:K6≤100000000)  : CSpec Tryd.prog 66 #[(ag [rr n1 a1 b1,rr n2 a2 b2]),(ag [rr n3 a3 b3,rr n4 a4 b4]),(ag [rr n5 a5 b5,rr n6 a6 b6])] (.int IntKind.i64 (Int.sign (Rat.num ((x3 - x1)*(x6 - x2) - (x4 - x2)*(x5 - x1))))):=by
 have s0:=(sub_s (szr h3') (szr h1'))
 have s1:=(isR_s s0)
 have s2:=(sub_s (szr h4') (szr h2'))
 have s3:=(isR_s s2)
 have s4:=(sub_s (szr h5') (szr h1'))
 have s5:=(isR_s s4)
 have s6:=(sub_s (szr h6') (szr h2'))
 have s7:=(isR_s s6)
 have s8:=(mul_s s0 s6)
 have s9:=(mul_s s2 s4)
 have s10:=(sub_s s8 s9)
 have s11:=(isR_s s10)
 exact fn_ok Tryd.func66 (sc:=[(1,2,.fix (ag [rc (x3 - x1),rc (x4 - x2)])),(1,5,.fix (ag [rc (x5 - x1),rc (x6 - x2)])),(1,6,.fix (Rv ((x3 - x1)*(x6 - x2) - (x4 - x2)*(x5 - x1)))),(1,7,.fix (.int IntKind.i64 (Int.sign (Rat.num ((x3 - x1)*(x6 - x2) - (x4 - x2)*(x5 - x1))))))]) (sb:=[]) (by kernel_rfl) (hC (vsub_k h3' (by omega) h4' (by omega) h1' (by omega) h2' (by omega)) (hC (vsub_k h5' (by omega) h6' (by omega) h1' (by omega) h2' (by omega)) (hC (vcross_k s1 (by omega) s3 (by omega) s5 (by omega) s7 (by omega)) (hC (sign_k s11 (by omega)) hN))))
theorem at_0_0_k    : CSpec Tryd.prog 32 #[(.int .i64 0),(.int .i64 0)] (ag [rc (0:Rat),rc (0:Rat)]):=by
 exact fn_ok Tryd.func32 (sc:=[(1,1,.fix (Rv (0:Rat))),(1,3,.fix (Rv (0:Rat)))]) (sb:=[]) (by kernel_rfl) (hC ri0_k (hC ri0_k hN))
theorem at_1_0_k    : CSpec Tryd.prog 32 #[(.int .i64 1),(.int .i64 0)] (ag [rc (1:Rat),rc (0:Rat)]):=by
 exact fn_ok Tryd.func32 (sc:=[(1,1,.fix (Rv (1:Rat))),(1,3,.fix (Rv (0:Rat)))]) (sb:=[]) (by kernel_rfl) (hC ri1_k (hC ri0_k hN))
theorem at_1_1_k    : CSpec Tryd.prog 32 #[(.int .i64 1),(.int .i64 1)] (ag [rc (1:Rat),rc (1:Rat)]):=by
 exact fn_ok Tryd.func32 (sc:=[(1,1,.fix (Rv (1:Rat))),(1,3,.fix (Rv (1:Rat)))]) (sb:=[]) (by kernel_rfl) (hC ri1_k (hC ri1_k hN))
theorem at_0_1_k    : CSpec Tryd.prog 32 #[(.int .i64 0),(.int .i64 1)] (ag [rc (0:Rat),rc (1:Rat)]):=by
 exact fn_ok Tryd.func32 (sc:=[(1,1,.fix (Rv (0:Rat))),(1,3,.fix (Rv (1:Rat)))]) (sb:=[]) (by kernel_rfl) (hC ri0_k (hC ri1_k hN))
theorem at_4_5_k    : CSpec Tryd.prog 32 #[(.int .i64 4),(.int .i64 5)] (ag [rc (4:Rat),rc (5:Rat)]):=by
 exact fn_ok Tryd.func32 (sc:=[(1,1,.fix (Rv (4:Rat))),(1,3,.fix (Rv (5:Rat)))]) (sb:=[]) (by kernel_rfl) (hC ri4_k (hC ri5_k hN))
theorem at_5_5_k    : CSpec Tryd.prog 32 #[(.int .i64 5),(.int .i64 5)] (ag [rc (5:Rat),rc (5:Rat)]):=by
 exact fn_ok Tryd.func32 (sc:=[(1,1,.fix (Rv (5:Rat))),(1,3,.fix (Rv (5:Rat)))]) (sb:=[]) (by kernel_rfl) (hC ri5_k (hC ri5_k hN))
theorem at_5_6_k    : CSpec Tryd.prog 32 #[(.int .i64 5),(.int .i64 6)] (ag [rc (5:Rat),rc (6:Rat)]):=by
 exact fn_ok Tryd.func32 (sc:=[(1,1,.fix (Rv (5:Rat))),(1,3,.fix (Rv (6:Rat)))]) (sb:=[]) (by kernel_rfl) (hC ri5_k (hC ri6_k hN))
theorem at_4_6_k    : CSpec Tryd.prog 32 #[(.int .i64 4),(.int .i64 6)] (ag [rc (4:Rat),rc (6:Rat)]):=by
 exact fn_ok Tryd.func32 (sc:=[(1,1,.fix (Rv (4:Rat))),(1,3,.fix (Rv (6:Rat)))]) (sb:=[]) (by kernel_rfl) (hC ri4_k (hC ri6_k hN))
theorem at_2_0_k    : CSpec Tryd.prog 32 #[(.int .i64 2),(.int .i64 0)] (ag [rc (2:Rat),rc (0:Rat)]):=by
 exact fn_ok Tryd.func32 (sc:=[(1,1,.fix (Rv (2:Rat))),(1,3,.fix (Rv (0:Rat)))]) (sb:=[]) (by kernel_rfl) (hC ri2_k (hC ri0_k hN))
theorem at_2_2_k    : CSpec Tryd.prog 32 #[(.int .i64 2),(.int .i64 2)] (ag [rc (2:Rat),rc (2:Rat)]):=by
 exact fn_ok Tryd.func32 (sc:=[(1,1,.fix (Rv (2:Rat))),(1,3,.fix (Rv (2:Rat)))]) (sb:=[]) (by kernel_rfl) (hC ri2_k (hC ri2_k hN))
theorem at_0_2_k    : CSpec Tryd.prog 32 #[(.int .i64 0),(.int .i64 2)] (ag [rc (0:Rat),rc (2:Rat)]):=by
 exact fn_ok Tryd.func32 (sc:=[(1,1,.fix (Rv (0:Rat))),(1,3,.fix (Rv (2:Rat)))]) (sb:=[]) (by kernel_rfl) (hC ri0_k (hC ri2_k hN))
theorem squareA_k    : FSpec Tryd.prog 14 [.c (.int .i64 0),.c (.int .i64 0),.c (.int .i64 1)] [] (.sl 0 0 4 4) [some ⟨true,nv [rc (0:Rat),rc (0:Rat),rc (1:Rat),rc (0:Rat),rc (1:Rat),rc (1:Rat),rc (0:Rat),rc (1:Rat)]⟩]:=by
 exact fspec_ok Tryd.func14 (sc:=[(2,3,.fix (ag [rc (0:Rat),rc (0:Rat)])),(2,9,.fix (ag [rc (1:Rat),rc (0:Rat)])),(2,17,.fix (ag [rc (1:Rat),rc (1:Rat)])),(2,23,.fix (ag [rc (0:Rat),rc (1:Rat)]))]) (sb:=[]) (keep:=[0]) (by kernel_rfl) (hP (flatB_flat (m:=[some ⟨true,nv [rc (0:Rat),rc (0:Rat),rc (1:Rat),rc (0:Rat),rc (1:Rat),rc (1:Rat),rc (0:Rat),rc (1:Rat)]⟩]) rfl) (hC at_0_0_k (hC at_1_0_k (hC at_1_1_k (hC at_0_1_k hN)))))
theorem squareB_k    : FSpec Tryd.prog 14 [.c (.int .i64 4),.c (.int .i64 5),.c (.int .i64 1)] [] (.sl 0 0 4 4) [some ⟨true,nv [rc (4:Rat),rc (5:Rat),rc (5:Rat),rc (5:Rat),rc (5:Rat),rc (6:Rat),rc (4:Rat),rc (6:Rat)]⟩]:=by
 exact fspec_ok Tryd.func14 (sc:=[(2,3,.fix (ag [rc (4:Rat),rc (5:Rat)])),(2,9,.fix (ag [rc (5:Rat),rc (5:Rat)])),(2,17,.fix (ag [rc (5:Rat),rc (6:Rat)])),(2,23,.fix (ag [rc (4:Rat),rc (6:Rat)]))]) (sb:=[]) (keep:=[0]) (by kernel_rfl) (hP (flatB_flat (m:=[some ⟨true,nv [rc (4:Rat),rc (5:Rat),rc (5:Rat),rc (5:Rat),rc (5:Rat),rc (6:Rat),rc (4:Rat),rc (6:Rat)]⟩]) rfl) (hC at_4_5_k (hC at_5_5_k (hC at_5_6_k (hC at_4_6_k hN)))))
theorem squareC_k    : FSpec Tryd.prog 14 [.c (.int .i64 0),.c (.int .i64 0),.c (.int .i64 2)] [] (.sl 0 0 4 4) [some ⟨true,nv [rc (0:Rat),rc (0:Rat),rc (2:Rat),rc (0:Rat),rc (2:Rat),rc (2:Rat),rc (0:Rat),rc (2:Rat)]⟩]:=by
 exact fspec_ok Tryd.func14 (sc:=[(2,3,.fix (ag [rc (0:Rat),rc (0:Rat)])),(2,9,.fix (ag [rc (2:Rat),rc (0:Rat)])),(2,17,.fix (ag [rc (2:Rat),rc (2:Rat)])),(2,23,.fix (ag [rc (0:Rat),rc (2:Rat)]))]) (sb:=[]) (keep:=[0]) (by kernel_rfl) (hP (flatB_flat (m:=[some ⟨true,nv [rc (0:Rat),rc (0:Rat),rc (2:Rat),rc (0:Rat),rc (2:Rat),rc (2:Rat),rc (0:Rat),rc (2:Rat)]⟩]) rfl) (hC at_0_0_k (hC at_2_0_k (hC at_2_2_k (hC at_0_2_k hN)))))
theorem checkC_k    : FSpec Tryd.prog 60 [.sl 0 0 4 4,.c (.int .i64 64)] [some ⟨true,nv [rc (0:Rat),rc (0:Rat),rc (2:Rat),rc (0:Rat),rc (2:Rat),rc (2:Rat),rc (0:Rat),rc (2:Rat)]⟩] (.c (.int .i64 0)) [some ⟨true,nv [rc (0:Rat),rc (0:Rat),rc (2:Rat),rc (0:Rat),rc (2:Rat),rc (2:Rat),rc (0:Rat),rc (2:Rat)]⟩]:=by
 have s0:=sz0_s
 have s1:=(isR_s s0)
 have s2:=sz2_s
 have s3:=(isR_s s2)
 exact fspec_ok Tryd.func60 (sc:=[(1001012,16,.fix (.int IntKind.i64 (Int.sign (Rat.num (((2:Rat) - (0:Rat))*((2:Rat) - (0:Rat)) - ((0:Rat) - (0:Rat))*((2:Rat) - (0:Rat))))))),(1002012,16,.fix (.int IntKind.i64 (Int.sign (Rat.num (((2:Rat) - (0:Rat))*((2:Rat) - (0:Rat)) - ((0:Rat) - (0:Rat))*((0:Rat) - (0:Rat))))))),(2001012,16,.fix (.int IntKind.i64 (Int.sign (Rat.num (((2:Rat) - (2:Rat))*((2:Rat) - (0:Rat)) - ((2:Rat) - (0:Rat))*((0:Rat) - (2:Rat))))))),(2002012,16,.fix (.int IntKind.i64 (Int.sign (Rat.num (((2:Rat) - (2:Rat))*((0:Rat) - (0:Rat)) - ((2:Rat) - (0:Rat))*((0:Rat) - (2:Rat))))))),(3001012,16,.fix (.int IntKind.i64 (Int.sign (Rat.num (((0:Rat) - (2:Rat))*((0:Rat) - (2:Rat)) - ((2:Rat) - (2:Rat))*((0:Rat) - (2:Rat))))))),(3002012,16,.fix (.int IntKind.i64 (Int.sign (Rat.num (((0:Rat) - (2:Rat))*((0:Rat) - (2:Rat)) - ((2:Rat) - (2:Rat))*((2:Rat) - (2:Rat))))))),(4001012,16,.fix (.int IntKind.i64 (Int.sign (Rat.num (((0:Rat) - (0:Rat))*((0:Rat) - (2:Rat)) - ((0:Rat) - (2:Rat))*((2:Rat) - (0:Rat))))))),(4002012,16,.fix (.int IntKind.i64 (Int.sign (Rat.num (((0:Rat) - (0:Rat))*((2:Rat) - (2:Rat)) - ((0:Rat) - (2:Rat))*((2:Rat) - (0:Rat)))))))]) (sb:=[]) (keep:=[]) (by kernel_rfl) (hP (flatB_flat (m:=[some ⟨true,nv [rc (0:Rat),rc (0:Rat),rc (2:Rat),rc (0:Rat),rc (2:Rat),rc (2:Rat),rc (0:Rat),rc (2:Rat)]⟩]) rfl) (hP (show (0:Int)≤(0:Int)∧(0:Int) < (4:Int) by decide) (hP (show (0:Int)≤(1:Int)∧(1:Int) < (4:Int) by decide) (hP (show (0:Int)≤(2:Int)∧(2:Int) < (4:Int) by decide) (hC (left_k s1 (by decide +kernel) s1 (by decide +kernel) s3 (by decide +kernel) s1 (by decide +kernel) s3 (by decide +kernel) s3 (by decide +kernel)) (hP (show (0:Int)≤(1:Int)∧(1:Int) < (4:Int) by decide) (hP (show (0:Int)≤(3:Int)∧(3:Int) < (4:Int) by decide) (hC (left_k s1 (by decide +kernel) s1 (by decide +kernel) s3 (by decide +kernel) s1 (by decide +kernel) s1 (by decide +kernel) s3 (by decide +kernel)) (hP (show (0:Int)≤(1:Int)∧(1:Int) < (4:Int) by decide) (hP (show (0:Int)≤(2:Int)∧(2:Int) < (4:Int) by decide) (hP (show (0:Int)≤(3:Int)∧(3:Int) < (4:Int) by decide) (hC (left_k s3 (by decide +kernel) s1 (by decide +kernel) s3 (by decide +kernel) s3 (by decide +kernel) s1 (by decide +kernel) s3 (by decide +kernel)) (hP (show (0:Int)≤(2:Int)∧(2:Int) < (4:Int) by decide) (hP (show (0:Int)≤(0:Int)∧(0:Int) < (4:Int) by decide) (hC (left_k s3 (by decide +kernel) s1 (by decide +kernel) s3 (by decide +kernel) s3 (by decide +kernel) s1 (by decide +kernel) s1 (by decide +kernel)) (hP (show (0:Int)≤(2:Int)∧(2:Int) < (4:Int) by decide) (hP (show (0:Int)≤(3:Int)∧(3:Int) < (4:Int) by decide) (hP (show (0:Int)≤(0:Int)∧(0:Int) < (4:Int) by decide) (hC (left_k s3 (by decide +kernel) s3 (by decide +kernel) s1 (by decide +kernel) s3 (by decide +kernel) s1 (by decide +kernel) s1 (by decide +kernel)) (hP (show (0:Int)≤(3:Int)∧(3:Int) < (4:Int) by decide) (hP (show (0:Int)≤(1:Int)∧(1:Int) < (4:Int) by decide) (hC (left_k s3 (by decide +kernel) s3 (by decide +kernel) s1 (by decide +kernel) s3 (by decide +kernel) s3 (by decide +kernel) s1 (by decide +kernel)) (hP (show (0:Int)≤(3:Int)∧(3:Int) < (4:Int) by decide) (hP (show (0:Int)≤(0:Int)∧(0:Int) < (4:Int) by decide) (hP (show (0:Int)≤(1:Int)∧(1:Int) < (4:Int) by decide) (hC (left_k s1 (by decide +kernel) s3 (by decide +kernel) s1 (by decide +kernel) s1 (by decide +kernel) s3 (by decide +kernel) s1 (by decide +kernel)) (hP (show (0:Int)≤(0:Int)∧(0:Int) < (4:Int) by decide) (hP (show (0:Int)≤(2:Int)∧(2:Int) < (4:Int) by decide) (hC (left_k s1 (by decide +kernel) s3 (by decide +kernel) s1 (by decide +kernel) s1 (by decide +kernel) s3 (by decide +kernel) s3 (by decide +kernel)) hN)))))))))))))))))))))))))))))
theorem convexC_k    : FSpec Tryd.prog 35 [.sl 0 0 4 4] [some ⟨true,nv [rc (0:Rat),rc (0:Rat),rc (2:Rat),rc (0:Rat),rc (2:Rat),rc (2:Rat),rc (0:Rat),rc (2:Rat)]⟩] (.c (.int .i64 0)) [some ⟨true,nv [rc (0:Rat),rc (0:Rat),rc (2:Rat),rc (0:Rat),rc (2:Rat),rc (2:Rat),rc (0:Rat),rc (2:Rat)]⟩]:=by
 exact fspec_ok Tryd.func35 (sc:=[(1,1,.sub true [0] (.c (.int IntKind.i64 (0:Int))) none)]) (sb:=[]) (keep:=[]) (by kernel_rfl) (hP (flatB_flat (m:=[some ⟨true,nv [rc (0:Rat),rc (0:Rat),rc (2:Rat),rc (0:Rat),rc (2:Rat),rc (2:Rat),rc (0:Rat),rc (2:Rat)]⟩]) rfl) (hF checkC_k hN))
theorem sq_zero {a b:Rat} (h:a*a+b*b=0):a=0∧b=0:=by
 have h1:=sq_pos a
 have h2:=sq_pos b
 have e1:a*a=0:=by grind
 have e2:b*b=0:=by grind
 exact ⟨by rcases Rat.mul_eq_zero.1 e1 with h | h<;>exact h,by rcases Rat.mul_eq_zero.1 e2 with h | h<;>exact h⟩
theorem areaC_k    : FSpec Tryd.prog 34 [.sl 0 0 4 4] [some ⟨true,nv [rc (0:Rat),rc (0:Rat),rc (2:Rat),rc (0:Rat),rc (2:Rat),rc (2:Rat),rc (0:Rat),rc (2:Rat)]⟩] (.c (Rv ((↑(1:Int):Rat)/(↑(2:Int):Rat)*((0:Rat)+((0:Rat)*(0:Rat) - (0:Rat)*(2:Rat))+((2:Rat)*(2:Rat) - (0:Rat)*(2:Rat))+((2:Rat)*(2:Rat) - (2:Rat)*(0:Rat))+((0:Rat)*(0:Rat) - (2:Rat)*(0:Rat)))))) [some ⟨true,nv [rc (0:Rat),rc (0:Rat),rc (2:Rat),rc (0:Rat),rc (2:Rat),rc (2:Rat),rc (0:Rat),rc (2:Rat)]⟩]:=by
 have s0:=sz0_s
 have s1:=(isR_s s0)
 have s2:=sz2_s
 have s3:=(isR_s s2)
 have s4:=(mul_s s0 s0)
 have s5:=(mul_s s0 s2)
 have s6:=(sub_s s4 s5)
 have s7:=(isR_s s6)
 have s8:=(add_s s0 s6)
 have s9:=(isR_s s8)
 have s10:=(mul_s s2 s2)
 have s11:=(sub_s s10 s5)
 have s12:=(isR_s s11)
 have s13:=(add_s s8 s11)
 have s14:=(isR_s s13)
 have s15:=(mul_s s2 s0)
 have s16:=(sub_s s10 s15)
 have s17:=(isR_s s16)
 have s18:=(add_s s13 s16)
 have s19:=(isR_s s18)
 have s20:=(sub_s s4 s15)
 have s21:=(isR_s s20)
 have s22:=(int_s (n:=(1:Int)) (by decide +kernel))
 have s23:=(int_s (n:=(2:Int)) (by decide +kernel))
 have s24:=(div_s s22 s23)
 have s25:=(isR_s s24)
 have s26:=(add_s s18 s20)
 have s27:=(isR_s s26)
 exact fspec_ok Tryd.func34 (sc:=[(1,0,.fix (Rv (0:Rat))),(2,1,.sub true [0] (.c (.int IntKind.i64 (0:Int))) none),(1007,10,.fix (Rv ((0:Rat)*(0:Rat) - (0:Rat)*(2:Rat)))),(1007,11,.fix (Rv ((0:Rat)+((0:Rat)*(0:Rat) - (0:Rat)*(2:Rat))))),(2007,10,.fix (Rv ((2:Rat)*(2:Rat) - (0:Rat)*(2:Rat)))),(2007,11,.fix (Rv ((0:Rat)+((0:Rat)*(0:Rat) - (0:Rat)*(2:Rat))+((2:Rat)*(2:Rat) - (0:Rat)*(2:Rat))))),(3007,10,.fix (Rv ((2:Rat)*(2:Rat) - (2:Rat)*(0:Rat)))),(3007,11,.fix (Rv ((0:Rat)+((0:Rat)*(0:Rat) - (0:Rat)*(2:Rat))+((2:Rat)*(2:Rat) - (0:Rat)*(2:Rat))+((2:Rat)*(2:Rat) - (2:Rat)*(0:Rat))))),(4007,10,.fix (Rv ((0:Rat)*(0:Rat) - (2:Rat)*(0:Rat)))),(4007,11,.fix (Rv ((0:Rat)+((0:Rat)*(0:Rat) - (0:Rat)*(2:Rat))+((2:Rat)*(2:Rat) - (0:Rat)*(2:Rat))+((2:Rat)*(2:Rat) - (2:Rat)*(0:Rat))+((0:Rat)*(0:Rat) - (2:Rat)*(0:Rat))))),(9,0,.fix (.tuple #[Rv ((↑(1:Int):Rat)/(↑(2:Int):Rat)),.int IntKind.i64 (0:Int)])),(10,2,.fix (Rv ((↑(1:Int):Rat)/(↑(2:Int):Rat)*((0:Rat)+((0:Rat)*(0:Rat) - (0:Rat)*(2:Rat))+((2:Rat)*(2:Rat) - (0:Rat)*(2:Rat))+((2:Rat)*(2:Rat) - (2:Rat)*(0:Rat))+((0:Rat)*(0:Rat) - (2:Rat)*(0:Rat))))))]) (sb:=[]) (keep:=[]) (by kernel_rfl) (hP (flatB_flat (m:=[some ⟨true,nv [rc (0:Rat),rc (0:Rat),rc (2:Rat),rc (0:Rat),rc (2:Rat),rc (2:Rat),rc (0:Rat),rc (2:Rat)]⟩]) rfl) (hC of0_k (hF convexC_k (hP (show (0:Int)≤(0:Int)∧(0:Int) < (4:Int) by decide) (hP (show (0:Int)≤(1:Int)∧(1:Int) < (4:Int) by decide) (hC (vcross_k s1 (by decide +kernel) s1 (by decide +kernel) s3 (by decide +kernel) s1 (by decide +kernel)) (hC (add_k s1 s7 (by decide +kernel)) (hP (show (0:Int)≤(1:Int)∧(1:Int) < (4:Int) by decide) (hP (show (0:Int)≤(2:Int)∧(2:Int) < (4:Int) by decide) (hC (vcross_k s3 (by decide +kernel) s1 (by decide +kernel) s3 (by decide +kernel) s3 (by decide +kernel)) (hC (add_k s9 s12 (by decide +kernel)) (hP (show (0:Int)≤(2:Int)∧(2:Int) < (4:Int) by decide) (hP (show (0:Int)≤(3:Int)∧(3:Int) < (4:Int) by decide) (hC (vcross_k s3 (by decide +kernel) s3 (by decide +kernel) s1 (by decide +kernel) s3 (by decide +kernel)) (hC (add_k s14 s17 (by decide +kernel)) (hP (show (0:Int)≤(3:Int)∧(3:Int) < (4:Int) by decide) (hP (show (0:Int)≤(0:Int)∧(0:Int) < (4:Int) by decide) (hC (vcross_k s1 (by decide +kernel) s3 (by decide +kernel) s1 (by decide +kernel) s1 (by decide +kernel)) (hC (add_k s19 s21 (by decide +kernel)) (hC (make_k (n:=(1:Int)) (m:=(2:Int)) (by decide +kernel) (by decide +kernel) (by decide +kernel) (by decide +kernel) (by decide +kernel)) (hC (mul_k s25 s27 (by decide +kernel)) hN)))))))))))))))))))))
theorem polyBegun_k    : CSpec Tryd.prog 15 #[] (.bool true):=by
 exact fn_ok Tryd.func15 (sc:=[(1,0,.fix (.bool true)),(1,2,.sub true [] (V.sl (0:Nat) (0:Nat) (4:Nat) (4:Nat)) (some [some ⟨Bool.true,nv [rc ((0:Rat)),rc ((0:Rat)),rc ((2:Rat)),rc ((0:Rat)),rc ((2:Rat)),rc ((2:Rat)),rc ((0:Rat)),rc ((2:Rat))]⟩])),(1,3,.sub true [0] (.c (Rv ((↑(1:Int):Rat)/(↑(2:Int):Rat)*((0:Rat)+((0:Rat)*(0:Rat) - (0:Rat)*(2:Rat))+((2:Rat)*(2:Rat) - (0:Rat)*(2:Rat))+((2:Rat)*(2:Rat) - (2:Rat)*(0:Rat))+((0:Rat)*(0:Rat) - (2:Rat)*(0:Rat)))))) none),(1,4,.fix (Rv (4:Rat)))]) (sb:=[]) (by kernel_rfl) (hC ratBegun_k (hF squareC_k (hF areaC_k (hC ri4_k hN))))
end Go.Proofs.YtjefpjajkbldpaaDoor.G
