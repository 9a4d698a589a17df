import Derived.Test.YtikepohhmagdpaaDoorYBA
import Derived.Test.YtikepohhmagdpaaDoorYU5
section
namespace Go.Proofs.YtikepohhmagdpaaDoor.G
open Go.Proofs.YtikepohhmagdpaaDoor.U Go.RowKit
set_option linter.unusedVariables false
set_option maxRecDepth 100000
theorem ri4_k:CSpec Tryd.prog 21 #[.int .i64 4] (Rv 4):=by
  have h:=ri_k (n:=4) (by decide) (by decide)
  rwa [show (((4:Int):Rat)) = 4 from rfl] at h
theorem sz4_s:Sz 4 1:=⟨by decide,by decide⟩
theorem ri5_k:CSpec Tryd.prog 21 #[.int .i64 5] (Rv 5):=by
  have h:=ri_k (n:=5) (by decide) (by decide)
  rwa [show (((5:Int):Rat)) = 5 from rfl] at h
theorem sz5_s:Sz 5 1:=⟨by decide,by decide⟩
theorem ri6_k:CSpec Tryd.prog 21 #[.int .i64 6] (Rv 6):=by
  have h:=ri_k (n:=6) (by decide) (by decide)
  rwa [show (((6:Int):Rat)) = 6 from rfl] at h
theorem sz6_s:Sz 6 1:=⟨by decide,by decide⟩
theorem ri25_k:CSpec Tryd.prog 21 #[.int .i64 25] (Rv 25):=by
  have h:=ri_k (n:=25) (by decide) (by decide)
  rwa [show (((25:Int):Rat)) = 25 from rfl] at h
theorem left_k {n1:Bool} {a1 b1:ByteArray} {x1:Rat} {K1:Nat}{n2:Bool} {a2 b2:ByteArray} {x2:Rat} {K2:Nat}{n3:Bool} {a3 b3:ByteArray} {x3:Rat} {K3:Nat}{n4:Bool} {a4 b4:ByteArray} {x4:Rat} {K4:Nat}{n5:Bool} {a5 b5:ByteArray} {x5:Rat} {K5:Nat}{n6:Bool} {a6 b6:ByteArray} {x6:Rat} {K6:Nat} (h1':IsR n1 a1 b1 x1 K1) (k1:K1 ≤ 100000000) (h2':IsR n2 a2 b2 x2 K2) (k2:K2 ≤ 100000000) (h3':IsR n3 a3 b3 x3 K3) (k3:K3 ≤ 100000000) (h4':IsR n4 a4 b4 x4 K4) (k4:K4 ≤ 100000000) (h5':IsR n5 a5 b5 x5 K5) (k5:K5 ≤ 100000000) (h6':IsR n6 a6 b6 x6 K6) (k6:K6 ≤ 100000000)  : CSpec Tryd.prog 235 #[(ag [rr n1 a1 b1,rr n2 a2 b2]),(ag [rr n3 a3 b3,rr n4 a4 b4]),(ag [rr n5 a5 b5,rr n6 a6 b6])] (.int IntKind.i64 (Int.sign (Rat.num ((x3 - x1) * (x6 - x2) - (x4 - x2) * (x5 - x1))))):=by
  have s0:=(sub_s (szr h3') (szr h1'))
  have s1:=(isR_s s0)
  have s2:=(sub_s (szr h4') (szr h2'))
  have s3:=(isR_s s2)
  have s4:=(sub_s (szr h5') (szr h1'))
  have s5:=(isR_s s4)
  have s6:=(sub_s (szr h6') (szr h2'))
  have s7:=(isR_s s6)
  have s8:=(mul_s s0 s6)
  have s9:=(mul_s s2 s4)
  have s10:=(sub_s s8 s9)
  have s11:=(isR_s s10)
  exact fn_ok Tryd.func235 (sc:=[(1,2,.fix (ag [rc (x3 - x1),rc (x4 - x2)])),(1,5,.fix (ag [rc (x5 - x1),rc (x6 - x2)])),(1,6,.fix (Rv ((x3 - x1) * (x6 - x2) - (x4 - x2) * (x5 - x1)))),(1,7,.fix (.int IntKind.i64 (Int.sign (Rat.num ((x3 - x1) * (x6 - x2) - (x4 - x2) * (x5 - x1))))))]) (sb:=[]) (by kernel_rfl) (hC (vsub_k h3' (by omega) h4' (by omega) h1' (by omega) h2' (by omega)) (hC (vsub_k h5' (by omega) h6' (by omega) h1' (by omega) h2' (by omega)) (hC (vcross_k s1 (by omega) s3 (by omega) s5 (by omega) s7 (by omega)) (hC (sign_k s11 (by omega)) hN))))
theorem at_0_0_k    : CSpec Tryd.prog 175 #[(.int .i64 0),(.int .i64 0)] (ag [rc (0:Rat),rc (0:Rat)]):=by
  exact fn_ok Tryd.func175 (sc:=[(1,1,.fix (Rv (0:Rat))),(1,3,.fix (Rv (0:Rat)))]) (sb:=[]) (by kernel_rfl) (hC ri0_k (hC ri0_k hN))
theorem at_1_0_k    : CSpec Tryd.prog 175 #[(.int .i64 1),(.int .i64 0)] (ag [rc (1:Rat),rc (0:Rat)]):=by
  exact fn_ok Tryd.func175 (sc:=[(1,1,.fix (Rv (1:Rat))),(1,3,.fix (Rv (0:Rat)))]) (sb:=[]) (by kernel_rfl) (hC ri1_k (hC ri0_k hN))
theorem at_1_1_k    : CSpec Tryd.prog 175 #[(.int .i64 1),(.int .i64 1)] (ag [rc (1:Rat),rc (1:Rat)]):=by
  exact fn_ok Tryd.func175 (sc:=[(1,1,.fix (Rv (1:Rat))),(1,3,.fix (Rv (1:Rat)))]) (sb:=[]) (by kernel_rfl) (hC ri1_k (hC ri1_k hN))
theorem at_0_1_k    : CSpec Tryd.prog 175 #[(.int .i64 0),(.int .i64 1)] (ag [rc (0:Rat),rc (1:Rat)]):=by
  exact fn_ok Tryd.func175 (sc:=[(1,1,.fix (Rv (0:Rat))),(1,3,.fix (Rv (1:Rat)))]) (sb:=[]) (by kernel_rfl) (hC ri0_k (hC ri1_k hN))
theorem at_4_5_k    : CSpec Tryd.prog 175 #[(.int .i64 4),(.int .i64 5)] (ag [rc (4:Rat),rc (5:Rat)]):=by
  exact fn_ok Tryd.func175 (sc:=[(1,1,.fix (Rv (4:Rat))),(1,3,.fix (Rv (5:Rat)))]) (sb:=[]) (by kernel_rfl) (hC ri4_k (hC ri5_k hN))
theorem at_5_5_k    : CSpec Tryd.prog 175 #[(.int .i64 5),(.int .i64 5)] (ag [rc (5:Rat),rc (5:Rat)]):=by
  exact fn_ok Tryd.func175 (sc:=[(1,1,.fix (Rv (5:Rat))),(1,3,.fix (Rv (5:Rat)))]) (sb:=[]) (by kernel_rfl) (hC ri5_k (hC ri5_k hN))
theorem at_5_6_k    : CSpec Tryd.prog 175 #[(.int .i64 5),(.int .i64 6)] (ag [rc (5:Rat),rc (6:Rat)]):=by
  exact fn_ok Tryd.func175 (sc:=[(1,1,.fix (Rv (5:Rat))),(1,3,.fix (Rv (6:Rat)))]) (sb:=[]) (by kernel_rfl) (hC ri5_k (hC ri6_k hN))
theorem at_4_6_k    : CSpec Tryd.prog 175 #[(.int .i64 4),(.int .i64 6)] (ag [rc (4:Rat),rc (6:Rat)]):=by
  exact fn_ok Tryd.func175 (sc:=[(1,1,.fix (Rv (4:Rat))),(1,3,.fix (Rv (6:Rat)))]) (sb:=[]) (by kernel_rfl) (hC ri4_k (hC ri6_k hN))
theorem at_2_0_k    : CSpec Tryd.prog 175 #[(.int .i64 2),(.int .i64 0)] (ag [rc (2:Rat),rc (0:Rat)]):=by
  exact fn_ok Tryd.func175 (sc:=[(1,1,.fix (Rv (2:Rat))),(1,3,.fix (Rv (0:Rat)))]) (sb:=[]) (by kernel_rfl) (hC ri2_k (hC ri0_k hN))
theorem at_2_2_k    : CSpec Tryd.prog 175 #[(.int .i64 2),(.int .i64 2)] (ag [rc (2:Rat),rc (2:Rat)]):=by
  exact fn_ok Tryd.func175 (sc:=[(1,1,.fix (Rv (2:Rat))),(1,3,.fix (Rv (2:Rat)))]) (sb:=[]) (by kernel_rfl) (hC ri2_k (hC ri2_k hN))
theorem at_0_2_k    : CSpec Tryd.prog 175 #[(.int .i64 0),(.int .i64 2)] (ag [rc (0:Rat),rc (2:Rat)]):=by
  exact fn_ok Tryd.func175 (sc:=[(1,1,.fix (Rv (0:Rat))),(1,3,.fix (Rv (2:Rat)))]) (sb:=[]) (by kernel_rfl) (hC ri0_k (hC ri2_k hN))
theorem squareA_k    : FSpec Tryd.prog 138 [.c (.int .i64 0),.c (.int .i64 0),.c (.int .i64 1)] [] (.sl 0 0 4 4) [some ⟨true,nv [rc (0:Rat),rc (0:Rat),rc (1:Rat),rc (0:Rat),rc (1:Rat),rc (1:Rat),rc (0:Rat),rc (1:Rat)]⟩]:=by
  exact fspec_ok Tryd.func138 (sc:=[(2,3,.fix (ag [rc (0:Rat),rc (0:Rat)])),(2,9,.fix (ag [rc (1:Rat),rc (0:Rat)])),(2,17,.fix (ag [rc (1:Rat),rc (1:Rat)])),(2,23,.fix (ag [rc (0:Rat),rc (1:Rat)]))]) (sb:=[]) (keep:=[0]) (by kernel_rfl) (hP (flatB_flat (m:=[some ⟨true,nv [rc (0:Rat),rc (0:Rat),rc (1:Rat),rc (0:Rat),rc (1:Rat),rc (1:Rat),rc (0:Rat),rc (1:Rat)]⟩]) rfl) (hC at_0_0_k (hC at_1_0_k (hC at_1_1_k (hC at_0_1_k hN)))))
theorem squareB_k    : FSpec Tryd.prog 138 [.c (.int .i64 4),.c (.int .i64 5),.c (.int .i64 1)] [] (.sl 0 0 4 4) [some ⟨true,nv [rc (4:Rat),rc (5:Rat),rc (5:Rat),rc (5:Rat),rc (5:Rat),rc (6:Rat),rc (4:Rat),rc (6:Rat)]⟩]:=by
  exact fspec_ok Tryd.func138 (sc:=[(2,3,.fix (ag [rc (4:Rat),rc (5:Rat)])),(2,9,.fix (ag [rc (5:Rat),rc (5:Rat)])),(2,17,.fix (ag [rc (5:Rat),rc (6:Rat)])),(2,23,.fix (ag [rc (4:Rat),rc (6:Rat)]))]) (sb:=[]) (keep:=[0]) (by kernel_rfl) (hP (flatB_flat (m:=[some ⟨true,nv [rc (4:Rat),rc (5:Rat),rc (5:Rat),rc (5:Rat),rc (5:Rat),rc (6:Rat),rc (4:Rat),rc (6:Rat)]⟩]) rfl) (hC at_4_5_k (hC at_5_5_k (hC at_5_6_k (hC at_4_6_k hN)))))
theorem squareC_k    : FSpec Tryd.prog 138 [.c (.int .i64 0),.c (.int .i64 0),.c (.int .i64 2)] [] (.sl 0 0 4 4) [some ⟨true,nv [rc (0:Rat),rc (0:Rat),rc (2:Rat),rc (0:Rat),rc (2:Rat),rc (2:Rat),rc (0:Rat),rc (2:Rat)]⟩]:=by
  exact fspec_ok Tryd.func138 (sc:=[(2,3,.fix (ag [rc (0:Rat),rc (0:Rat)])),(2,9,.fix (ag [rc (2:Rat),rc (0:Rat)])),(2,17,.fix (ag [rc (2:Rat),rc (2:Rat)])),(2,23,.fix (ag [rc (0:Rat),rc (2:Rat)]))]) (sb:=[]) (keep:=[0]) (by kernel_rfl) (hP (flatB_flat (m:=[some ⟨true,nv [rc (0:Rat),rc (0:Rat),rc (2:Rat),rc (0:Rat),rc (2:Rat),rc (2:Rat),rc (0:Rat),rc (2:Rat)]⟩]) rfl) (hC at_0_0_k (hC at_2_0_k (hC at_2_2_k (hC at_0_2_k hN)))))
theorem checkA_k    : FSpec Tryd.prog 225 [.sl 0 0 4 4,.c (.int .i64 64)] [some ⟨true,nv [rc (0:Rat),rc (0:Rat),rc (1:Rat),rc (0:Rat),rc (1:Rat),rc (1:Rat),rc (0:Rat),rc (1:Rat)]⟩] (.c (.int .i64 0)) [some ⟨true,nv [rc (0:Rat),rc (0:Rat),rc (1:Rat),rc (0:Rat),rc (1:Rat),rc (1:Rat),rc (0:Rat),rc (1:Rat)]⟩]:=by
  have s0:=sz0_s
  have s1:=(isR_s s0)
  have s2:=sz1_s
  have s3:=(isR_s s2)
  exact fspec_ok Tryd.func225 (sc:=[(1001012,16,.fix (.int IntKind.i64 (Int.sign (Rat.num (((1:Rat) - (0:Rat)) * ((1:Rat) - (0:Rat)) - ((0:Rat) - (0:Rat)) * ((1:Rat) - (0:Rat))))))),(1002012,16,.fix (.int IntKind.i64 (Int.sign (Rat.num (((1:Rat) - (0:Rat)) * ((1:Rat) - (0:Rat)) - ((0:Rat) - (0:Rat)) * ((0:Rat) - (0:Rat))))))),(2001012,16,.fix (.int IntKind.i64 (Int.sign (Rat.num (((1:Rat) - (1:Rat)) * ((1:Rat) - (0:Rat)) - ((1:Rat) - (0:Rat)) * ((0:Rat) - (1:Rat))))))),(2002012,16,.fix (.int IntKind.i64 (Int.sign (Rat.num (((1:Rat) - (1:Rat)) * ((0:Rat) - (0:Rat)) - ((1:Rat) - (0:Rat)) * ((0:Rat) - (1:Rat))))))),(3001012,16,.fix (.int IntKind.i64 (Int.sign (Rat.num (((0:Rat) - (1:Rat)) * ((0:Rat) - (1:Rat)) - ((1:Rat) - (1:Rat)) * ((0:Rat) - (1:Rat))))))),(3002012,16,.fix (.int IntKind.i64 (Int.sign (Rat.num (((0:Rat) - (1:Rat)) * ((0:Rat) - (1:Rat)) - ((1:Rat) - (1:Rat)) * ((1:Rat) - (1:Rat))))))),(4001012,16,.fix (.int IntKind.i64 (Int.sign (Rat.num (((0:Rat) - (0:Rat)) * ((0:Rat) - (1:Rat)) - ((0:Rat) - (1:Rat)) * ((1:Rat) - (0:Rat))))))),(4002012,16,.fix (.int IntKind.i64 (Int.sign (Rat.num (((0:Rat) - (0:Rat)) * ((1:Rat) - (1:Rat)) - ((0:Rat) - (1:Rat)) * ((1:Rat) - (0:Rat)))))))]) (sb:=[]) (keep:=[]) (by kernel_rfl) (hP (flatB_flat (m:=[some ⟨true,nv [rc (0:Rat),rc (0:Rat),rc (1:Rat),rc (0:Rat),rc (1:Rat),rc (1:Rat),rc (0:Rat),rc (1:Rat)]⟩]) rfl) (hP (show (0:Int) ≤ (0:Int) ∧ (0:Int) < (4:Int) by decide) (hP (show (0:Int) ≤ (1:Int) ∧ (1:Int) < (4:Int) by decide) (hP (show (0:Int) ≤ (2:Int) ∧ (2:Int) < (4:Int) by decide) (hC (left_k s1 (by decide +kernel) s1 (by decide +kernel) s3 (by decide +kernel) s1 (by decide +kernel) s3 (by decide +kernel) s3 (by decide +kernel)) (hP (show (0:Int) ≤ (1:Int) ∧ (1:Int) < (4:Int) by decide) (hP (show (0:Int) ≤ (3:Int) ∧ (3:Int) < (4:Int) by decide) (hC (left_k s1 (by decide +kernel) s1 (by decide +kernel) s3 (by decide +kernel) s1 (by decide +kernel) s1 (by decide +kernel) s3 (by decide +kernel)) (hP (show (0:Int) ≤ (1:Int) ∧ (1:Int) < (4:Int) by decide) (hP (show (0:Int) ≤ (2:Int) ∧ (2:Int) < (4:Int) by decide) (hP (show (0:Int) ≤ (3:Int) ∧ (3:Int) < (4:Int) by decide) (hC (left_k s3 (by decide +kernel) s1 (by decide +kernel) s3 (by decide +kernel) s3 (by decide +kernel) s1 (by decide +kernel) s3 (by decide +kernel)) (hP (show (0:Int) ≤ (2:Int) ∧ (2:Int) < (4:Int) by decide) (hP (show (0:Int) ≤ (0:Int) ∧ (0:Int) < (4:Int) by decide) (hC (left_k s3 (by decide +kernel) s1 (by decide +kernel) s3 (by decide +kernel) s3 (by decide +kernel) s1 (by decide +kernel) s1 (by decide +kernel)) (hP (show (0:Int) ≤ (2:Int) ∧ (2:Int) < (4:Int) by decide) (hP (show (0:Int) ≤ (3:Int) ∧ (3:Int) < (4:Int) by decide) (hP (show (0:Int) ≤ (0:Int) ∧ (0:Int) < (4:Int) by decide) (hC (left_k s3 (by decide +kernel) s3 (by decide +kernel) s1 (by decide +kernel) s3 (by decide +kernel) s1 (by decide +kernel) s1 (by decide +kernel)) (hP (show (0:Int) ≤ (3:Int) ∧ (3:Int) < (4:Int) by decide) (hP (show (0:Int) ≤ (1:Int) ∧ (1:Int) < (4:Int) by decide) (hC (left_k s3 (by decide +kernel) s3 (by decide +kernel) s1 (by decide +kernel) s3 (by decide +kernel) s3 (by decide +kernel) s1 (by decide +kernel)) (hP (show (0:Int) ≤ (3:Int) ∧ (3:Int) < (4:Int) by decide) (hP (show (0:Int) ≤ (0:Int) ∧ (0:Int) < (4:Int) by decide) (hP (show (0:Int) ≤ (1:Int) ∧ (1:Int) < (4:Int) by decide) (hC (left_k s1 (by decide +kernel) s3 (by decide +kernel) s1 (by decide +kernel) s1 (by decide +kernel) s3 (by decide +kernel) s1 (by decide +kernel)) (hP (show (0:Int) ≤ (0:Int) ∧ (0:Int) < (4:Int) by decide) (hP (show (0:Int) ≤ (2:Int) ∧ (2:Int) < (4:Int) by decide) (hC (left_k s1 (by decide +kernel) s3 (by decide +kernel) s1 (by decide +kernel) s1 (by decide +kernel) s3 (by decide +kernel) s3 (by decide +kernel)) hN)))))))))))))))))))))))))))))
theorem convexA_k    : FSpec Tryd.prog 206 [.sl 0 0 4 4] [some ⟨true,nv [rc (0:Rat),rc (0:Rat),rc (1:Rat),rc (0:Rat),rc (1:Rat),rc (1:Rat),rc (0:Rat),rc (1:Rat)]⟩] (.c (.int .i64 0)) [some ⟨true,nv [rc (0:Rat),rc (0:Rat),rc (1:Rat),rc (0:Rat),rc (1:Rat),rc (1:Rat),rc (0:Rat),rc (1:Rat)]⟩]:=by
  exact fspec_ok Tryd.func206 (sc:=[(1,1,.sub true [0] (.c (.int IntKind.i64 (0:Int))) none)]) (sb:=[]) (keep:=[]) (by kernel_rfl) (hP (flatB_flat (m:=[some ⟨true,nv [rc (0:Rat),rc (0:Rat),rc (1:Rat),rc (0:Rat),rc (1:Rat),rc (1:Rat),rc (0:Rat),rc (1:Rat)]⟩]) rfl) (hF checkA_k hN))
theorem checkB_k    : FSpec Tryd.prog 225 [.sl 0 0 4 4,.c (.int .i64 64)] [some ⟨true,nv [rc (4:Rat),rc (5:Rat),rc (5:Rat),rc (5:Rat),rc (5:Rat),rc (6:Rat),rc (4:Rat),rc (6:Rat)]⟩] (.c (.int .i64 0)) [some ⟨true,nv [rc (4:Rat),rc (5:Rat),rc (5:Rat),rc (5:Rat),rc (5:Rat),rc (6:Rat),rc (4:Rat),rc (6:Rat)]⟩]:=by
  have s0:=sz4_s
  have s1:=(isR_s s0)
  have s2:=sz5_s
  have s3:=(isR_s s2)
  have s4:=sz6_s
  have s5:=(isR_s s4)
  exact fspec_ok Tryd.func225 (sc:=[(1001012,16,.fix (.int IntKind.i64 (Int.sign (Rat.num (((5:Rat) - (4:Rat)) * ((6:Rat) - (5:Rat)) - ((5:Rat) - (5:Rat)) * ((5:Rat) - (4:Rat))))))),(1002012,16,.fix (.int IntKind.i64 (Int.sign (Rat.num (((5:Rat) - (4:Rat)) * ((6:Rat) - (5:Rat)) - ((5:Rat) - (5:Rat)) * ((4:Rat) - (4:Rat))))))),(2001012,16,.fix (.int IntKind.i64 (Int.sign (Rat.num (((5:Rat) - (5:Rat)) * ((6:Rat) - (5:Rat)) - ((6:Rat) - (5:Rat)) * ((4:Rat) - (5:Rat))))))),(2002012,16,.fix (.int IntKind.i64 (Int.sign (Rat.num (((5:Rat) - (5:Rat)) * ((5:Rat) - (5:Rat)) - ((6:Rat) - (5:Rat)) * ((4:Rat) - (5:Rat))))))),(3001012,16,.fix (.int IntKind.i64 (Int.sign (Rat.num (((4:Rat) - (5:Rat)) * ((5:Rat) - (6:Rat)) - ((6:Rat) - (6:Rat)) * ((4:Rat) - (5:Rat))))))),(3002012,16,.fix (.int IntKind.i64 (Int.sign (Rat.num (((4:Rat) - (5:Rat)) * ((5:Rat) - (6:Rat)) - ((6:Rat) - (6:Rat)) * ((5:Rat) - (5:Rat))))))),(4001012,16,.fix (.int IntKind.i64 (Int.sign (Rat.num (((4:Rat) - (4:Rat)) * ((5:Rat) - (6:Rat)) - ((5:Rat) - (6:Rat)) * ((5:Rat) - (4:Rat))))))),(4002012,16,.fix (.int IntKind.i64 (Int.sign (Rat.num (((4:Rat) - (4:Rat)) * ((6:Rat) - (6:Rat)) - ((5:Rat) - (6:Rat)) * ((5:Rat) - (4:Rat)))))))]) (sb:=[]) (keep:=[]) (by kernel_rfl) (hP (flatB_flat (m:=[some ⟨true,nv [rc (4:Rat),rc (5:Rat),rc (5:Rat),rc (5:Rat),rc (5:Rat),rc (6:Rat),rc (4:Rat),rc (6:Rat)]⟩]) rfl) (hP (show (0:Int) ≤ (0:Int) ∧ (0:Int) < (4:Int) by decide) (hP (show (0:Int) ≤ (1:Int) ∧ (1:Int) < (4:Int) by decide) (hP (show (0:Int) ≤ (2:Int) ∧ (2:Int) < (4:Int) by decide) (hC (left_k s1 (by decide +kernel) s3 (by decide +kernel) s3 (by decide +kernel) s3 (by decide +kernel) s3 (by decide +kernel) s5 (by decide +kernel)) (hP (show (0:Int) ≤ (1:Int) ∧ (1:Int) < (4:Int) by decide) (hP (show (0:Int) ≤ (3:Int) ∧ (3:Int) < (4:Int) by decide) (hC (left_k s1 (by decide +kernel) s3 (by decide +kernel) s3 (by decide +kernel) s3 (by decide +kernel) s1 (by decide +kernel) s5 (by decide +kernel)) (hP (show (0:Int) ≤ (1:Int) ∧ (1:Int) < (4:Int) by decide) (hP (show (0:Int) ≤ (2:Int) ∧ (2:Int) < (4:Int) by decide) (hP (show (0:Int) ≤ (3:Int) ∧ (3:Int) < (4:Int) by decide) (hC (left_k s3 (by decide +kernel) s3 (by decide +kernel) s3 (by decide +kernel) s5 (by decide +kernel) s1 (by decide +kernel) s5 (by decide +kernel)) (hP (show (0:Int) ≤ (2:Int) ∧ (2:Int) < (4:Int) by decide) (hP (show (0:Int) ≤ (0:Int) ∧ (0:Int) < (4:Int) by decide) (hC (left_k s3 (by decide +kernel) s3 (by decide +kernel) s3 (by decide +kernel) s5 (by decide +kernel) s1 (by decide +kernel) s3 (by decide +kernel)) (hP (show (0:Int) ≤ (2:Int) ∧ (2:Int) < (4:Int) by decide) (hP (show (0:Int) ≤ (3:Int) ∧ (3:Int) < (4:Int) by decide) (hP (show (0:Int) ≤ (0:Int) ∧ (0:Int) < (4:Int) by decide) (hC (left_k s3 (by decide +kernel) s5 (by decide +kernel) s1 (by decide +kernel) s5 (by decide +kernel) s1 (by decide +kernel) s3 (by decide +kernel)) (hP (show (0:Int) ≤ (3:Int) ∧ (3:Int) < (4:Int) by decide) (hP (show (0:Int) ≤ (1:Int) ∧ (1:Int) < (4:Int) by decide) (hC (left_k s3 (by decide +kernel) s5 (by decide +kernel) s1 (by decide +kernel) s5 (by decide +kernel) s3 (by decide +kernel) s3 (by decide +kernel)) (hP (show (0:Int) ≤ (3:Int) ∧ (3:Int) < (4:Int) by decide) (hP (show (0:Int) ≤ (0:Int) ∧ (0:Int) < (4:Int) by decide) (hP (show (0:Int) ≤ (1:Int) ∧ (1:Int) < (4:Int) by decide) (hC (left_k s1 (by decide +kernel) s5 (by decide +kernel) s1 (by decide +kernel) s3 (by decide +kernel) s3 (by decide +kernel) s3 (by decide +kernel)) (hP (show (0:Int) ≤ (0:Int) ∧ (0:Int) < (4:Int) by decide) (hP (show (0:Int) ≤ (2:Int) ∧ (2:Int) < (4:Int) by decide) (hC (left_k s1 (by decide +kernel) s5 (by decide +kernel) s1 (by decide +kernel) s3 (by decide +kernel) s3 (by decide +kernel) s5 (by decide +kernel)) hN)))))))))))))))))))))))))))))
theorem convexB_k    : FSpec Tryd.prog 206 [.sl 0 0 4 4] [some ⟨true,nv [rc (4:Rat),rc (5:Rat),rc (5:Rat),rc (5:Rat),rc (5:Rat),rc (6:Rat),rc (4:Rat),rc (6:Rat)]⟩] (.c (.int .i64 0)) [some ⟨true,nv [rc (4:Rat),rc (5:Rat),rc (5:Rat),rc (5:Rat),rc (5:Rat),rc (6:Rat),rc (4:Rat),rc (6:Rat)]⟩]:=by
  exact fspec_ok Tryd.func206 (sc:=[(1,1,.sub true [0] (.c (.int IntKind.i64 (0:Int))) none)]) (sb:=[]) (keep:=[]) (by kernel_rfl) (hP (flatB_flat (m:=[some ⟨true,nv [rc (4:Rat),rc (5:Rat),rc (5:Rat),rc (5:Rat),rc (5:Rat),rc (6:Rat),rc (4:Rat),rc (6:Rat)]⟩]) rfl) (hF checkB_k hN))
theorem checkC_k    : FSpec Tryd.prog 225 [.sl 0 0 4 4,.c (.int .i64 64)] [some ⟨true,nv [rc (0:Rat),rc (0:Rat),rc (2:Rat),rc (0:Rat),rc (2:Rat),rc (2:Rat),rc (0:Rat),rc (2:Rat)]⟩] (.c (.int .i64 0)) [some ⟨true,nv [rc (0:Rat),rc (0:Rat),rc (2:Rat),rc (0:Rat),rc (2:Rat),rc (2:Rat),rc (0:Rat),rc (2:Rat)]⟩]:=by
  have s0:=sz0_s
  have s1:=(isR_s s0)
  have s2:=sz2_s
  have s3:=(isR_s s2)
  exact fspec_ok Tryd.func225 (sc:=[(1001012,16,.fix (.int IntKind.i64 (Int.sign (Rat.num (((2:Rat) - (0:Rat)) * ((2:Rat) - (0:Rat)) - ((0:Rat) - (0:Rat)) * ((2:Rat) - (0:Rat))))))),(1002012,16,.fix (.int IntKind.i64 (Int.sign (Rat.num (((2:Rat) - (0:Rat)) * ((2:Rat) - (0:Rat)) - ((0:Rat) - (0:Rat)) * ((0:Rat) - (0:Rat))))))),(2001012,16,.fix (.int IntKind.i64 (Int.sign (Rat.num (((2:Rat) - (2:Rat)) * ((2:Rat) - (0:Rat)) - ((2:Rat) - (0:Rat)) * ((0:Rat) - (2:Rat))))))),(2002012,16,.fix (.int IntKind.i64 (Int.sign (Rat.num (((2:Rat) - (2:Rat)) * ((0:Rat) - (0:Rat)) - ((2:Rat) - (0:Rat)) * ((0:Rat) - (2:Rat))))))),(3001012,16,.fix (.int IntKind.i64 (Int.sign (Rat.num (((0:Rat) - (2:Rat)) * ((0:Rat) - (2:Rat)) - ((2:Rat) - (2:Rat)) * ((0:Rat) - (2:Rat))))))),(3002012,16,.fix (.int IntKind.i64 (Int.sign (Rat.num (((0:Rat) - (2:Rat)) * ((0:Rat) - (2:Rat)) - ((2:Rat) - (2:Rat)) * ((2:Rat) - (2:Rat))))))),(4001012,16,.fix (.int IntKind.i64 (Int.sign (Rat.num (((0:Rat) - (0:Rat)) * ((0:Rat) - (2:Rat)) - ((0:Rat) - (2:Rat)) * ((2:Rat) - (0:Rat))))))),(4002012,16,.fix (.int IntKind.i64 (Int.sign (Rat.num (((0:Rat) - (0:Rat)) * ((2:Rat) - (2:Rat)) - ((0:Rat) - (2:Rat)) * ((2:Rat) - (0:Rat)))))))]) (sb:=[]) (keep:=[]) (by kernel_rfl) (hP (flatB_flat (m:=[some ⟨true,nv [rc (0:Rat),rc (0:Rat),rc (2:Rat),rc (0:Rat),rc (2:Rat),rc (2:Rat),rc (0:Rat),rc (2:Rat)]⟩]) rfl) (hP (show (0:Int) ≤ (0:Int) ∧ (0:Int) < (4:Int) by decide) (hP (show (0:Int) ≤ (1:Int) ∧ (1:Int) < (4:Int) by decide) (hP (show (0:Int) ≤ (2:Int) ∧ (2:Int) < (4:Int) by decide) (hC (left_k s1 (by decide +kernel) s1 (by decide +kernel) s3 (by decide +kernel) s1 (by decide +kernel) s3 (by decide +kernel) s3 (by decide +kernel)) (hP (show (0:Int) ≤ (1:Int) ∧ (1:Int) < (4:Int) by decide) (hP (show (0:Int) ≤ (3:Int) ∧ (3:Int) < (4:Int) by decide) (hC (left_k s1 (by decide +kernel) s1 (by decide +kernel) s3 (by decide +kernel) s1 (by decide +kernel) s1 (by decide +kernel) s3 (by decide +kernel)) (hP (show (0:Int) ≤ (1:Int) ∧ (1:Int) < (4:Int) by decide) (hP (show (0:Int) ≤ (2:Int) ∧ (2:Int) < (4:Int) by decide) (hP (show (0:Int) ≤ (3:Int) ∧ (3:Int) < (4:Int) by decide) (hC (left_k s3 (by decide +kernel) s1 (by decide +kernel) s3 (by decide +kernel) s3 (by decide +kernel) s1 (by decide +kernel) s3 (by decide +kernel)) (hP (show (0:Int) ≤ (2:Int) ∧ (2:Int) < (4:Int) by decide) (hP (show (0:Int) ≤ (0:Int) ∧ (0:Int) < (4:Int) by decide) (hC (left_k s3 (by decide +kernel) s1 (by decide +kernel) s3 (by decide +kernel) s3 (by decide +kernel) s1 (by decide +kernel) s1 (by decide +kernel)) (hP (show (0:Int) ≤ (2:Int) ∧ (2:Int) < (4:Int) by decide) (hP (show (0:Int) ≤ (3:Int) ∧ (3:Int) < (4:Int) by decide) (hP (show (0:Int) ≤ (0:Int) ∧ (0:Int) < (4:Int) by decide) (hC (left_k s3 (by decide +kernel) s3 (by decide +kernel) s1 (by decide +kernel) s3 (by decide +kernel) s1 (by decide +kernel) s1 (by decide +kernel)) (hP (show (0:Int) ≤ (3:Int) ∧ (3:Int) < (4:Int) by decide) (hP (show (0:Int) ≤ (1:Int) ∧ (1:Int) < (4:Int) by decide) (hC (left_k s3 (by decide +kernel) s3 (by decide +kernel) s1 (by decide +kernel) s3 (by decide +kernel) s3 (by decide +kernel) s1 (by decide +kernel)) (hP (show (0:Int) ≤ (3:Int) ∧ (3:Int) < (4:Int) by decide) (hP (show (0:Int) ≤ (0:Int) ∧ (0:Int) < (4:Int) by decide) (hP (show (0:Int) ≤ (1:Int) ∧ (1:Int) < (4:Int) by decide) (hC (left_k s1 (by decide +kernel) s3 (by decide +kernel) s1 (by decide +kernel) s1 (by decide +kernel) s3 (by decide +kernel) s1 (by decide +kernel)) (hP (show (0:Int) ≤ (0:Int) ∧ (0:Int) < (4:Int) by decide) (hP (show (0:Int) ≤ (2:Int) ∧ (2:Int) < (4:Int) by decide) (hC (left_k s1 (by decide +kernel) s3 (by decide +kernel) s1 (by decide +kernel) s1 (by decide +kernel) s3 (by decide +kernel) s3 (by decide +kernel)) hN)))))))))))))))))))))))))))))
theorem convexC_k    : FSpec Tryd.prog 206 [.sl 0 0 4 4] [some ⟨true,nv [rc (0:Rat),rc (0:Rat),rc (2:Rat),rc (0:Rat),rc (2:Rat),rc (2:Rat),rc (0:Rat),rc (2:Rat)]⟩] (.c (.int .i64 0)) [some ⟨true,nv [rc (0:Rat),rc (0:Rat),rc (2:Rat),rc (0:Rat),rc (2:Rat),rc (2:Rat),rc (0:Rat),rc (2:Rat)]⟩]:=by
  exact fspec_ok Tryd.func206 (sc:=[(1,1,.sub true [0] (.c (.int IntKind.i64 (0:Int))) none)]) (sb:=[]) (keep:=[]) (by kernel_rfl) (hP (flatB_flat (m:=[some ⟨true,nv [rc (0:Rat),rc (0:Rat),rc (2:Rat),rc (0:Rat),rc (2:Rat),rc (2:Rat),rc (0:Rat),rc (2:Rat)]⟩]) rfl) (hF checkC_k hN))
theorem te1 {x1 x2 x3 x4 x5 x6:Rat} {K:Nat} (p1:Sz x1 K) (p2:Sz x2 K) (p3:Sz x3 K) (p4:Sz x4 K) (p5:Sz x5 K) (p6:Sz x6 K) (k:K ≤ 10000000) (h18:decide (Int.sign (Rat.num ((x1 - x3) * (x5 - x3) + (x2 - x4) * (x6 - x4))) ≤ (0:Int)) = true):CSpec Tryd.prog 205 #[(ag [rc x1,rc x2]),(ag [rc x3,rc x4]),(ag [rc x5,rc x6])] (Rv ((x1 - x3) * (x1 - x3) + (x2 - x4) * (x2 - x4))):=by
  have s0:=(isR_s p5)
  have s1:=(isR_s p6)
  have s2:=(isR_s p3)
  have s3:=(isR_s p4)
  have s4:=(isR_s p1)
  have s5:=(isR_s p2)
  have s6:=(sub_s p1 p3)
  have s7:=(isR_s s6)
  have s8:=(sub_s p2 p4)
  have s9:=(isR_s s8)
  have s10:=(sub_s p5 p3)
  have s11:=(isR_s s10)
  have s12:=(sub_s p6 p4)
  have s13:=(isR_s s12)
  have s14:=(mul_s s6 s10)
  have s15:=(mul_s s8 s12)
  have s16:=(add_s s14 s15)
  have s17:=(isR_s s16)
  exact fn_ok Tryd.func205 (sc:=[(1,2,.fix (ag [rc (x5 - x3),rc (x6 - x4)])),(1,5,.fix (ag [rc (x1 - x3),rc (x2 - x4)])),(2,2,.fix (Rv ((x1 - x3) * (x5 - x3) + (x2 - x4) * (x6 - x4)))),(3,2,.fix (Rv ((x5 - x3) * (x5 - x3) + (x6 - x4) * (x6 - x4)))),(4,1,.fix (.int IntKind.i64 (Int.sign (Rat.num ((x1 - x3) * (x5 - x3) + (x2 - x4) * (x6 - x4)))))),(4,2,.is (.c (.bool true))),(5,2,.fix (Rv ((x1 - x3) * (x1 - x3) + (x2 - x4) * (x2 - x4))))]) (sb:=[]) (by kernel_rfl) (hC (vsub_k s0 (by omega) s1 (by omega) s2 (by omega) s3 (by omega)) (hC (vsub_k s4 (by omega) s5 (by omega) s2 (by omega) s3 (by omega)) (hC (vdot_k s7 (by omega) s9 (by omega) s11 (by omega) s13 (by omega)) (hC (vdot_k s11 (by omega) s13 (by omega) s11 (by omega) s13 (by omega)) (hC (sign_k s17 (by omega)) (hP (isB h18) (hC (vdot_k s7 (by omega) s9 (by omega) s7 (by omega) s9 (by omega)) hN)))))))
theorem te2 {x1 x2 x3 x4 x5 x6:Rat} {K:Nat} (p1:Sz x1 K) (p2:Sz x2 K) (p3:Sz x3 K) (p4:Sz x4 K) (p5:Sz x5 K) (p6:Sz x6 K) (k:K ≤ 10000000) (h18:decide (Int.sign (Rat.num ((x1 - x3) * (x5 - x3) + (x2 - x4) * (x6 - x4))) ≤ (0:Int)) = false) (h23:decide ((0:Int) ≤ cmpR ((x1 - x3) * (x5 - x3) + (x2 - x4) * (x6 - x4)) ((x5 - x3) * (x5 - x3) + (x6 - x4) * (x6 - x4))) = true):CSpec Tryd.prog 205 #[(ag [rc x1,rc x2]),(ag [rc x3,rc x4]),(ag [rc x5,rc x6])] (Rv ((x1 - x5) * (x1 - x5) + (x2 - x6) * (x2 - x6))):=by
  have s0:=(isR_s p5)
  have s1:=(isR_s p6)
  have s2:=(isR_s p3)
  have s3:=(isR_s p4)
  have s4:=(isR_s p1)
  have s5:=(isR_s p2)
  have s6:=(sub_s p1 p3)
  have s7:=(isR_s s6)
  have s8:=(sub_s p2 p4)
  have s9:=(isR_s s8)
  have s10:=(sub_s p5 p3)
  have s11:=(isR_s s10)
  have s12:=(sub_s p6 p4)
  have s13:=(isR_s s12)
  have s14:=(mul_s s6 s10)
  have s15:=(mul_s s8 s12)
  have s16:=(add_s s14 s15)
  have s17:=(isR_s s16)
  have s19:=(mul_s s10 s10)
  have s20:=(mul_s s12 s12)
  have s21:=(add_s s19 s20)
  have s22:=(isR_s s21)
  have s24:=(sub_s p1 p5)
  have s25:=(isR_s s24)
  have s26:=(sub_s p2 p6)
  have s27:=(isR_s s26)
  exact fn_ok Tryd.func205 (sc:=[(1,2,.fix (ag [rc (x5 - x3),rc (x6 - x4)])),(1,5,.fix (ag [rc (x1 - x3),rc (x2 - x4)])),(2,2,.fix (Rv ((x1 - x3) * (x5 - x3) + (x2 - x4) * (x6 - x4)))),(3,2,.fix (Rv ((x5 - x3) * (x5 - x3) + (x6 - x4) * (x6 - x4)))),(4,1,.fix (.int IntKind.i64 (Int.sign (Rat.num ((x1 - x3) * (x5 - x3) + (x2 - x4) * (x6 - x4)))))),(4,2,.is (.c (.bool false))),(6,2,.fix (.int IntKind.i64 (cmpR ((x1 - x3) * (x5 - x3) + (x2 - x4) * (x6 - x4)) ((x5 - x3) * (x5 - x3) + (x6 - x4) * (x6 - x4))))),(6,3,.is (.c (.bool true))),(7,2,.fix (ag [rc (x1 - x5),rc (x2 - x6)])),(8,2,.fix (Rv ((x1 - x5) * (x1 - x5) + (x2 - x6) * (x2 - x6))))]) (sb:=[]) (by kernel_rfl) (hC (vsub_k s0 (by omega) s1 (by omega) s2 (by omega) s3 (by omega)) (hC (vsub_k s4 (by omega) s5 (by omega) s2 (by omega) s3 (by omega)) (hC (vdot_k s7 (by omega) s9 (by omega) s11 (by omega) s13 (by omega)) (hC (vdot_k s11 (by omega) s13 (by omega) s11 (by omega) s13 (by omega)) (hC (sign_k s17 (by omega)) (hP (isB h18) (hC (cmp_k s17 s22 (by omega)) (hP (isB h23) (hC (vsub_k s4 (by omega) s5 (by omega) s0 (by omega) s1 (by omega)) (hC (vdot_k s25 (by omega) s27 (by omega) s25 (by omega) s27 (by omega)) hN))))))))))
theorem te3 {x1 x2 x3 x4 x5 x6:Rat} {K:Nat} (p1:Sz x1 K) (p2:Sz x2 K) (p3:Sz x3 K) (p4:Sz x4 K) (p5:Sz x5 K) (p6:Sz x6 K) (k:K ≤ 10000000) (h18:decide (Int.sign (Rat.num ((x1 - x3) * (x5 - x3) + (x2 - x4) * (x6 - x4))) ≤ (0:Int)) = false) (h23:decide ((0:Int) ≤ cmpR ((x1 - x3) * (x5 - x3) + (x2 - x4) * (x6 - x4)) ((x5 - x3) * (x5 - x3) + (x6 - x4) * (x6 - x4))) = false) (h30:(x5 - x3) * (x5 - x3) + (x6 - x4) * (x6 - x4) ≠ (0:Rat)):CSpec Tryd.prog 205 #[(ag [rc x1,rc x2]),(ag [rc x3,rc x4]),(ag [rc x5,rc x6])] (Rv (((x5 - x3) * (x2 - x4) - (x6 - x4) * (x1 - x3)) * ((x5 - x3) * (x2 - x4) - (x6 - x4) * (x1 - x3)) / ((x5 - x3) * (x5 - x3) + (x6 - x4) * (x6 - x4)))):=by
  have s0:=(isR_s p5)
  have s1:=(isR_s p6)
  have s2:=(isR_s p3)
  have s3:=(isR_s p4)
  have s4:=(isR_s p1)
  have s5:=(isR_s p2)
  have s6:=(sub_s p1 p3)
  have s7:=(isR_s s6)
  have s8:=(sub_s p2 p4)
  have s9:=(isR_s s8)
  have s10:=(sub_s p5 p3)
  have s11:=(isR_s s10)
  have s12:=(sub_s p6 p4)
  have s13:=(isR_s s12)
  have s14:=(mul_s s6 s10)
  have s15:=(mul_s s8 s12)
  have s16:=(add_s s14 s15)
  have s17:=(isR_s s16)
  have s19:=(mul_s s10 s10)
  have s20:=(mul_s s12 s12)
  have s21:=(add_s s19 s20)
  have s22:=(isR_s s21)
  have s24:=(mul_s s10 s8)
  have s25:=(mul_s s12 s6)
  have s26:=(sub_s s24 s25)
  have s27:=(isR_s s26)
  have s28:=(mul_s s26 s26)
  have s29:=(isR_s s28)
  exact fn_ok Tryd.func205 (sc:=[(1,2,.fix (ag [rc (x5 - x3),rc (x6 - x4)])),(1,5,.fix (ag [rc (x1 - x3),rc (x2 - x4)])),(2,2,.fix (Rv ((x1 - x3) * (x5 - x3) + (x2 - x4) * (x6 - x4)))),(3,2,.fix (Rv ((x5 - x3) * (x5 - x3) + (x6 - x4) * (x6 - x4)))),(4,1,.fix (.int IntKind.i64 (Int.sign (Rat.num ((x1 - x3) * (x5 - x3) + (x2 - x4) * (x6 - x4)))))),(4,2,.is (.c (.bool false))),(6,2,.fix (.int IntKind.i64 (cmpR ((x1 - x3) * (x5 - x3) + (x2 - x4) * (x6 - x4)) ((x5 - x3) * (x5 - x3) + (x6 - x4) * (x6 - x4))))),(6,3,.is (.c (.bool false))),(9,2,.fix (Rv ((x5 - x3) * (x2 - x4) - (x6 - x4) * (x1 - x3)))),(10,2,.fix (Rv (((x5 - x3) * (x2 - x4) - (x6 - x4) * (x1 - x3)) * ((x5 - x3) * (x2 - x4) - (x6 - x4) * (x1 - x3))))),(10,4,.fix (.tuple #[Rv (((x5 - x3) * (x2 - x4) - (x6 - x4) * (x1 - x3)) * ((x5 - x3) * (x2 - x4) - (x6 - x4) * (x1 - x3)) / ((x5 - x3) * (x5 - x3) + (x6 - x4) * (x6 - x4))),.int IntKind.i64 (0:Int)]))]) (sb:=[]) (by kernel_rfl) (hC (vsub_k s0 (by omega) s1 (by omega) s2 (by omega) s3 (by omega)) (hC (vsub_k s4 (by omega) s5 (by omega) s2 (by omega) s3 (by omega)) (hC (vdot_k s7 (by omega) s9 (by omega) s11 (by omega) s13 (by omega)) (hC (vdot_k s11 (by omega) s13 (by omega) s11 (by omega) s13 (by omega)) (hC (sign_k s17 (by omega)) (hP (isB h18) (hC (cmp_k s17 s22 (by omega)) (hP (isB h23) (hC (vcross_k s11 (by omega) s13 (by omega) s7 (by omega) s9 (by omega)) (hC (mul_k s27 s27 (by omega)) (hC (div_k s29 s22 (by omega) h30) hN)))))))))))
def te (x1 x2 x3 x4 x5 x6:Rat):Rat :=
  if Int.sign (Rat.num ((x1 - x3) * (x5 - x3) + (x2 - x4) * (x6 - x4))) ≤ (0:Int) then (x1 - x3) * (x1 - x3) + (x2 - x4) * (x2 - x4)
  else if (0:Int) ≤ cmpR ((x1 - x3) * (x5 - x3) + (x2 - x4) * (x6 - x4)) ((x5 - x3) * (x5 - x3) + (x6 - x4) * (x6 - x4)) then (x1 - x5) * (x1 - x5) + (x2 - x6) * (x2 - x6)
  else ((x5 - x3) * (x2 - x4) - (x6 - x4) * (x1 - x3)) * ((x5 - x3) * (x2 - x4) - (x6 - x4) * (x1 - x3)) / ((x5 - x3) * (x5 - x3) + (x6 - x4) * (x6 - x4))
theorem sq_zero {a b:Rat} (h:a * a + b * b = 0):a = 0 ∧ b = 0:=by
  have h1:=sq_pos a
  have h2:=sq_pos b
  have e1:a * a = 0:=by grind
  have e2:b * b = 0:=by grind
  exact ⟨by rcases Rat.mul_eq_zero.1 e1 with h | h <;> exact h,by rcases Rat.mul_eq_zero.1 e2 with h | h <;> exact h⟩
section
variable {x1 x2 x3 x4 x5 x6:Rat} {K:Nat}
theorem toedge_k (p1:Sz x1 K) (p2:Sz x2 K) (p3:Sz x3 K) (p4:Sz x4 K) (p5:Sz x5 K) (p6:Sz x6 K) (k:K ≤ 10000000):CSpec Tryd.prog 205 #[ag [rc x1,rc x2],ag [rc x3,rc x4],ag [rc x5,rc x6]] (Rv (te x1 x2 x3 x4 x5 x6)):=by
  unfold te
  split
  · rename_i h
    exact te1 p1 p2 p3 p4 p5 p6 k (decide_eq_true h)
  rename_i h
  split
  · rename_i g
    exact te2 p1 p2 p3 p4 p5 p6 k (decide_eq_false h) (decide_eq_true g)
  rename_i g
  refine te3 p1 p2 p3 p4 p5 p6 k (decide_eq_false h) (decide_eq_false g) (fun e=>h ?_)
  obtain ⟨e1,e2⟩:=sq_zero e
  rw [e1,e2,Rat.mul_zero,Rat.mul_zero,Rat.add_zero]
  decide
theorem te_s (p1:Sz x1 K) (p2:Sz x2 K) (p3:Sz x3 K) (p4:Sz x4 K) (p5:Sz x5 K) (p6:Sz x6 K):Sz (te x1 x2 x3 x4 x5 x6) (24 * K + 40):=by
  unfold te
  split
  · exact (add_s (mul_s (sub_s p1 p3) (sub_s p1 p3)) (mul_s (sub_s p2 p4) (sub_s p2 p4))).mono (by omega)
  split
  · exact (add_s (mul_s (sub_s p1 p5) (sub_s p1 p5)) (mul_s (sub_s p2 p6) (sub_s p2 p6))).mono (by omega)
  exact (div_s (mul_s (sub_s (mul_s (sub_s p5 p3) (sub_s p2 p4)) (mul_s (sub_s p6 p4) (sub_s p1 p3))) (sub_s (mul_s (sub_s p5 p3) (sub_s p2 p4)) (mul_s (sub_s p6 p4) (sub_s p1 p3)))) (add_s (mul_s (sub_s p5 p3) (sub_s p5 p3)) (mul_s (sub_s p6 p4) (sub_s p6 p4)))).mono (by omega)
end
theorem near_k {x1 x2 x3 x4 x5 x6 x7 x8 x9 x10:Rat} {K:Nat} (p1:Sz x1 K) (p2:Sz x2 K) (p3:Sz x3 K) (p4:Sz x4 K) (p5:Sz x5 K) (p6:Sz x6 K) (p7:Sz x7 K) (p8:Sz x8 K) (p9:Sz x9 K) (p10:Sz x10 K) (k:K ≤ 1000000)  : FSpec Tryd.prog 174 [.c (ag [rc x1,rc x2]),.sl 0 0 4 4] [some ⟨false,nv [rc x3,rc x4,rc x5,rc x6,rc x7,rc x8,rc x9,rc x10]⟩] (.c (Rv (mn (mn (mn (te x1 x2 x3 x4 x5 x6) (te x1 x2 x5 x6 x7 x8)) (te x1 x2 x7 x8 x9 x10)) (te x1 x2 x9 x10 x3 x4)))) [some ⟨false,nv [rc x3,rc x4,rc x5,rc x6,rc x7,rc x8,rc x9,rc x10]⟩]:=by
  have s0:=(te_s p1 p2 p3 p4 p5 p6)
  have s1:=(isR_s s0)
  have s2:=(te_s p1 p2 p5 p6 p7 p8)
  have s3:=(isR_s s2)
  have s4:=(mn_s s0 s2)
  have s5:=(isR_s s4)
  have s6:=(te_s p1 p2 p7 p8 p9 p10)
  have s7:=(isR_s s6)
  have s8:=(mn_s s4 s6)
  have s9:=(isR_s s8)
  have s10:=(te_s p1 p2 p9 p10 p3 p4)
  have s11:=(isR_s s10)
  exact fspec_ok Tryd.func174 (sc:=[(1,7,.fix (Rv (te x1 x2 x3 x4 x5 x6))),(1005,11,.fix (Rv (te x1 x2 x3 x4 x5 x6))),(1005,12,.fix (Rv (te x1 x2 x3 x4 x5 x6))),(2005,11,.fix (Rv (te x1 x2 x5 x6 x7 x8))),(2005,12,.fix (Rv (mn (te x1 x2 x3 x4 x5 x6) (te x1 x2 x5 x6 x7 x8)))),(3005,11,.fix (Rv (te x1 x2 x7 x8 x9 x10))),(3005,12,.fix (Rv (mn (mn (te x1 x2 x3 x4 x5 x6) (te x1 x2 x5 x6 x7 x8)) (te x1 x2 x7 x8 x9 x10)))),(4005,11,.fix (Rv (te x1 x2 x9 x10 x3 x4))),(4005,12,.fix (Rv (mn (mn (mn (te x1 x2 x3 x4 x5 x6) (te x1 x2 x5 x6 x7 x8)) (te x1 x2 x7 x8 x9 x10)) (te x1 x2 x9 x10 x3 x4))))]) (sb:=[]) (keep:=[]) (by kernel_rfl) (hP (flatB_flat (m:=[some ⟨false,nv [rc x3,rc x4,rc x5,rc x6,rc x7,rc x8,rc x9,rc x10]⟩]) rfl) (hP (show (0:Int) ≤ (0:Int) ∧ (0:Int) < (4:Int) by decide) (hP (show (0:Int) ≤ (1:Int) ∧ (1:Int) < (4:Int) by decide) (hC (toedge_k p1 p2 p3 p4 p5 p6 (by omega)) (hP (show (0:Int) ≤ (0:Int) ∧ (0:Int) < (4:Int) by decide) (hP (show (0:Int) ≤ (1:Int) ∧ (1:Int) < (4:Int) by decide) (hC (toedge_k p1 p2 p3 p4 p5 p6 (by omega)) (hC (mi_self_k s1 (by omega)) (hP (show (0:Int) ≤ (1:Int) ∧ (1:Int) < (4:Int) by decide) (hP (show (0:Int) ≤ (2:Int) ∧ (2:Int) < (4:Int) by decide) (hC (toedge_k p1 p2 p5 p6 p7 p8 (by omega)) (hC (min_k s1 s3 (by omega)) (hP (show (0:Int) ≤ (2:Int) ∧ (2:Int) < (4:Int) by decide) (hP (show (0:Int) ≤ (3:Int) ∧ (3:Int) < (4:Int) by decide) (hC (toedge_k p1 p2 p7 p8 p9 p10 (by omega)) (hC (min_k s5 s7 (by omega)) (hP (show (0:Int) ≤ (3:Int) ∧ (3:Int) < (4:Int) by decide) (hP (show (0:Int) ≤ (0:Int) ∧ (0:Int) < (4:Int) by decide) (hC (toedge_k p1 p2 p9 p10 p3 p4 (by omega)) (hC (min_k s9 s11 (by omega)) hN))))))))))))))))))))
theorem beyondAB_k    : FSpec Tryd.prog 204 [.sl 0 0 4 4,.sl 1 0 4 4] [some ⟨true,nv [rc (0:Rat),rc (0:Rat),rc (1:Rat),rc (0:Rat),rc (1:Rat),rc (1:Rat),rc (0:Rat),rc (1:Rat)]⟩,some ⟨true,nv [rc (4:Rat),rc (5:Rat),rc (5:Rat),rc (5:Rat),rc (5:Rat),rc (6:Rat),rc (4:Rat),rc (6:Rat)]⟩] (.c (.tuple #[ag [rc ((1:Rat) - (0:Rat)),rc (-((1:Rat) - (1:Rat)))],.bool true])) [some ⟨true,nv [rc (0:Rat),rc (0:Rat),rc (1:Rat),rc (0:Rat),rc (1:Rat),rc (1:Rat),rc (0:Rat),rc (1:Rat)]⟩,some ⟨true,nv [rc (4:Rat),rc (5:Rat),rc (5:Rat),rc (5:Rat),rc (5:Rat),rc (6:Rat),rc (4:Rat),rc (6:Rat)]⟩]:=by
  have s0:=sz1_s
  have s1:=(isR_s s0)
  have s2:=sz0_s
  have s3:=(isR_s s2)
  have s4:=(sub_s s0 s2)
  have s5:=(isR_s s4)
  have s6:=sz4_s
  have s7:=(isR_s s6)
  have s8:=sz5_s
  have s9:=(isR_s s8)
  have s10:=(sub_s s2 s2)
  have s11:=(isR_s s10)
  have s12:=(neg_s s4)
  have s13:=(isR_s s12)
  have s14:=(sub_s s6 s2)
  have s15:=(isR_s s14)
  have s16:=(sub_s s8 s2)
  have s17:=(isR_s s16)
  have s18:=(mul_s s10 s14)
  have s19:=(mul_s s12 s16)
  have s20:=(add_s s18 s19)
  have s21:=(isR_s s20)
  have s22:=(sub_s s0 s0)
  have s23:=(isR_s s22)
  have s24:=(neg_s s22)
  have s25:=(isR_s s24)
  have s26:=(sub_s s6 s0)
  have s27:=(isR_s s26)
  have s28:=(mul_s s4 s26)
  have s29:=(mul_s s24 s16)
  have s30:=(add_s s28 s29)
  have s31:=(isR_s s30)
  have s32:=(sub_s s8 s0)
  have s33:=(isR_s s32)
  have s34:=(mul_s s4 s32)
  have s35:=(add_s s34 s29)
  have s36:=(isR_s s35)
  have s37:=sz6_s
  have s38:=(isR_s s37)
  have s39:=(sub_s s37 s2)
  have s40:=(isR_s s39)
  have s41:=(mul_s s24 s39)
  have s42:=(add_s s34 s41)
  have s43:=(isR_s s42)
  have s44:=(add_s s28 s41)
  have s45:=(isR_s s44)
  exact fspec_ok Tryd.func204 (sc:=[(1004,9,.fix (ag [rc ((1:Rat) - (0:Rat)),rc ((0:Rat) - (0:Rat))])),(1005,4,.fix (Rv (-((1:Rat) - (0:Rat))))),(1001010,5,.fix (ag [rc ((4:Rat) - (0:Rat)),rc ((5:Rat) - (0:Rat))])),(1001010,6,.fix (Rv (((0:Rat) - (0:Rat)) * ((4:Rat) - (0:Rat)) + -((1:Rat) - (0:Rat)) * ((5:Rat) - (0:Rat))))),(1001010,7,.fix (.int IntKind.i64 (Int.sign (Rat.num (((0:Rat) - (0:Rat)) * ((4:Rat) - (0:Rat)) + -((1:Rat) - (0:Rat)) * ((5:Rat) - (0:Rat))))))),(2004,9,.fix (ag [rc ((1:Rat) - (1:Rat)),rc ((1:Rat) - (0:Rat))])),(2005,4,.fix (Rv (-((1:Rat) - (1:Rat))))),(2001010,5,.fix (ag [rc ((4:Rat) - (1:Rat)),rc ((5:Rat) - (0:Rat))])),(2001010,6,.fix (Rv (((1:Rat) - (0:Rat)) * ((4:Rat) - (1:Rat)) + -((1:Rat) - (1:Rat)) * ((5:Rat) - (0:Rat))))),(2001010,7,.fix (.int IntKind.i64 (Int.sign (Rat.num (((1:Rat) - (0:Rat)) * ((4:Rat) - (1:Rat)) + -((1:Rat) - (1:Rat)) * ((5:Rat) - (0:Rat))))))),(2002010,5,.fix (ag [rc ((5:Rat) - (1:Rat)),rc ((5:Rat) - (0:Rat))])),(2002010,6,.fix (Rv (((1:Rat) - (0:Rat)) * ((5:Rat) - (1:Rat)) + -((1:Rat) - (1:Rat)) * ((5:Rat) - (0:Rat))))),(2002010,7,.fix (.int IntKind.i64 (Int.sign (Rat.num (((1:Rat) - (0:Rat)) * ((5:Rat) - (1:Rat)) + -((1:Rat) - (1:Rat)) * ((5:Rat) - (0:Rat))))))),(2003010,5,.fix (ag [rc ((5:Rat) - (1:Rat)),rc ((6:Rat) - (0:Rat))])),(2003010,6,.fix (Rv (((1:Rat) - (0:Rat)) * ((5:Rat) - (1:Rat)) + -((1:Rat) - (1:Rat)) * ((6:Rat) - (0:Rat))))),(2003010,7,.fix (.int IntKind.i64 (Int.sign (Rat.num (((1:Rat) - (0:Rat)) * ((5:Rat) - (1:Rat)) + -((1:Rat) - (1:Rat)) * ((6:Rat) - (0:Rat))))))),(2004010,5,.fix (ag [rc ((4:Rat) - (1:Rat)),rc ((6:Rat) - (0:Rat))])),(2004010,6,.fix (Rv (((1:Rat) - (0:Rat)) * ((4:Rat) - (1:Rat)) + -((1:Rat) - (1:Rat)) * ((6:Rat) - (0:Rat))))),(2004010,7,.fix (.int IntKind.i64 (Int.sign (Rat.num (((1:Rat) - (0:Rat)) * ((4:Rat) - (1:Rat)) + -((1:Rat) - (1:Rat)) * ((6:Rat) - (0:Rat)))))))]) (sb:=[]) (keep:=[]) (by kernel_rfl) (hP (flatB_flat (m:=[some ⟨true,nv [rc (0:Rat),rc (0:Rat),rc (1:Rat),rc (0:Rat),rc (1:Rat),rc (1:Rat),rc (0:Rat),rc (1:Rat)]⟩,some ⟨true,nv [rc (4:Rat),rc (5:Rat),rc (5:Rat),rc (5:Rat),rc (5:Rat),rc (6:Rat),rc (4:Rat),rc (6:Rat)]⟩]) rfl) (hP (show (0:Int) ≤ (0:Int) ∧ (0:Int) < (4:Int) by decide) (hP (show (0:Int) ≤ (1:Int) ∧ (1:Int) < (4:Int) by decide) (hC (vsub_k s1 (by decide +kernel) s3 (by decide +kernel) s3 (by decide +kernel) s3 (by decide +kernel)) (hC (neg_k s5 (by decide +kernel)) (hP (show (0:Int) ≤ (0:Int) ∧ (0:Int) < (4:Int) by decide) (hC (vsub_k s7 (by decide +kernel) s9 (by decide +kernel) s3 (by decide +kernel) s3 (by decide +kernel)) (hC (vdot_k s11 (by decide +kernel) s13 (by decide +kernel) s15 (by decide +kernel) s17 (by decide +kernel)) (hC (sign_k s21 (by decide +kernel)) (hP (show (0:Int) ≤ (1:Int) ∧ (1:Int) < (4:Int) by decide) (hP (show (0:Int) ≤ (2:Int) ∧ (2:Int) < (4:Int) by decide) (hP (show (0:Int) ≤ (3:Int) ∧ (3:Int) < (4:Int) by decide) (hP (show (0:Int) ≤ (1:Int) ∧ (1:Int) < (4:Int) by decide) (hP (show (0:Int) ≤ (2:Int) ∧ (2:Int) < (4:Int) by decide) (hC (vsub_k s1 (by decide +kernel) s1 (by decide +kernel) s1 (by decide +kernel) s3 (by decide +kernel)) (hC (neg_k s23 (by decide +kernel)) (hP (show (0:Int) ≤ (0:Int) ∧ (0:Int) < (4:Int) by decide) (hC (vsub_k s7 (by decide +kernel) s9 (by decide +kernel) s1 (by decide +kernel) s3 (by decide +kernel)) (hC (vdot_k s5 (by decide +kernel) s25 (by decide +kernel) s27 (by decide +kernel) s17 (by decide +kernel)) (hC (sign_k s31 (by decide +kernel)) (hP (show (0:Int) ≤ (1:Int) ∧ (1:Int) < (4:Int) by decide) (hC (vsub_k s9 (by decide +kernel) s9 (by decide +kernel) s1 (by decide +kernel) s3 (by decide +kernel)) (hC (vdot_k s5 (by decide +kernel) s25 (by decide +kernel) s33 (by decide +kernel) s17 (by decide +kernel)) (hC (sign_k s36 (by decide +kernel)) (hP (show (0:Int) ≤ (2:Int) ∧ (2:Int) < (4:Int) by decide) (hC (vsub_k s9 (by decide +kernel) s38 (by decide +kernel) s1 (by decide +kernel) s3 (by decide +kernel)) (hC (vdot_k s5 (by decide +kernel) s25 (by decide +kernel) s33 (by decide +kernel) s40 (by decide +kernel)) (hC (sign_k s43 (by decide +kernel)) (hP (show (0:Int) ≤ (3:Int) ∧ (3:Int) < (4:Int) by decide) (hC (vsub_k s7 (by decide +kernel) s38 (by decide +kernel) s1 (by decide +kernel) s3 (by decide +kernel)) (hC (vdot_k s5 (by decide +kernel) s25 (by decide +kernel) s27 (by decide +kernel) s40 (by decide +kernel)) (hC (sign_k s45 (by decide +kernel)) hN))))))))))))))))))))))))))))))))
theorem beyondBA_k    : FSpec Tryd.prog 204 [.sl 0 0 4 4,.sl 1 0 4 4] [some ⟨true,nv [rc (4:Rat),rc (5:Rat),rc (5:Rat),rc (5:Rat),rc (5:Rat),rc (6:Rat),rc (4:Rat),rc (6:Rat)]⟩,some ⟨true,nv [rc (0:Rat),rc (0:Rat),rc (1:Rat),rc (0:Rat),rc (1:Rat),rc (1:Rat),rc (0:Rat),rc (1:Rat)]⟩] (.c (.tuple #[ag [rc ((5:Rat) - (5:Rat)),rc (-((5:Rat) - (4:Rat)))],.bool true])) [some ⟨true,nv [rc (4:Rat),rc (5:Rat),rc (5:Rat),rc (5:Rat),rc (5:Rat),rc (6:Rat),rc (4:Rat),rc (6:Rat)]⟩,some ⟨true,nv [rc (0:Rat),rc (0:Rat),rc (1:Rat),rc (0:Rat),rc (1:Rat),rc (1:Rat),rc (0:Rat),rc (1:Rat)]⟩]:=by
  have s0:=sz5_s
  have s1:=(isR_s s0)
  have s2:=sz4_s
  have s3:=(isR_s s2)
  have s4:=(sub_s s0 s2)
  have s5:=(isR_s s4)
  have s6:=sz0_s
  have s7:=(isR_s s6)
  have s8:=(sub_s s0 s0)
  have s9:=(isR_s s8)
  have s10:=(neg_s s4)
  have s11:=(isR_s s10)
  have s12:=(sub_s s6 s2)
  have s13:=(isR_s s12)
  have s14:=(sub_s s6 s0)
  have s15:=(isR_s s14)
  have s16:=(mul_s s8 s12)
  have s17:=(mul_s s10 s14)
  have s18:=(add_s s16 s17)
  have s19:=(isR_s s18)
  have s20:=sz1_s
  have s21:=(isR_s s20)
  have s22:=(sub_s s20 s2)
  have s23:=(isR_s s22)
  have s24:=(mul_s s8 s22)
  have s25:=(add_s s24 s17)
  have s26:=(isR_s s25)
  have s27:=(sub_s s20 s0)
  have s28:=(isR_s s27)
  have s29:=(mul_s s10 s27)
  have s30:=(add_s s24 s29)
  have s31:=(isR_s s30)
  have s32:=(add_s s16 s29)
  have s33:=(isR_s s32)
  exact fspec_ok Tryd.func204 (sc:=[(1004,9,.fix (ag [rc ((5:Rat) - (4:Rat)),rc ((5:Rat) - (5:Rat))])),(1005,4,.fix (Rv (-((5:Rat) - (4:Rat))))),(1001010,5,.fix (ag [rc ((0:Rat) - (4:Rat)),rc ((0:Rat) - (5:Rat))])),(1001010,6,.fix (Rv (((5:Rat) - (5:Rat)) * ((0:Rat) - (4:Rat)) + -((5:Rat) - (4:Rat)) * ((0:Rat) - (5:Rat))))),(1001010,7,.fix (.int IntKind.i64 (Int.sign (Rat.num (((5:Rat) - (5:Rat)) * ((0:Rat) - (4:Rat)) + -((5:Rat) - (4:Rat)) * ((0:Rat) - (5:Rat))))))),(1002010,5,.fix (ag [rc ((1:Rat) - (4:Rat)),rc ((0:Rat) - (5:Rat))])),(1002010,6,.fix (Rv (((5:Rat) - (5:Rat)) * ((1:Rat) - (4:Rat)) + -((5:Rat) - (4:Rat)) * ((0:Rat) - (5:Rat))))),(1002010,7,.fix (.int IntKind.i64 (Int.sign (Rat.num (((5:Rat) - (5:Rat)) * ((1:Rat) - (4:Rat)) + -((5:Rat) - (4:Rat)) * ((0:Rat) - (5:Rat))))))),(1003010,5,.fix (ag [rc ((1:Rat) - (4:Rat)),rc ((1:Rat) - (5:Rat))])),(1003010,6,.fix (Rv (((5:Rat) - (5:Rat)) * ((1:Rat) - (4:Rat)) + -((5:Rat) - (4:Rat)) * ((1:Rat) - (5:Rat))))),(1003010,7,.fix (.int IntKind.i64 (Int.sign (Rat.num (((5:Rat) - (5:Rat)) * ((1:Rat) - (4:Rat)) + -((5:Rat) - (4:Rat)) * ((1:Rat) - (5:Rat))))))),(1004010,5,.fix (ag [rc ((0:Rat) - (4:Rat)),rc ((1:Rat) - (5:Rat))])),(1004010,6,.fix (Rv (((5:Rat) - (5:Rat)) * ((0:Rat) - (4:Rat)) + -((5:Rat) - (4:Rat)) * ((1:Rat) - (5:Rat))))),(1004010,7,.fix (.int IntKind.i64 (Int.sign (Rat.num (((5:Rat) - (5:Rat)) * ((0:Rat) - (4:Rat)) + -((5:Rat) - (4:Rat)) * ((1:Rat) - (5:Rat)))))))]) (sb:=[]) (keep:=[]) (by kernel_rfl) (hP (flatB_flat (m:=[some ⟨true,nv [rc (4:Rat),rc (5:Rat),rc (5:Rat),rc (5:Rat),rc (5:Rat),rc (6:Rat),rc (4:Rat),rc (6:Rat)]⟩,some ⟨true,nv [rc (0:Rat),rc (0:Rat),rc (1:Rat),rc (0:Rat),rc (1:Rat),rc (1:Rat),rc (0:Rat),rc (1:Rat)]⟩]) rfl) (hP (show (0:Int) ≤ (0:Int) ∧ (0:Int) < (4:Int) by decide) (hP (show (0:Int) ≤ (1:Int) ∧ (1:Int) < (4:Int) by decide) (hC (vsub_k s1 (by decide +kernel) s1 (by decide +kernel) s3 (by decide +kernel) s1 (by decide +kernel)) (hC (neg_k s5 (by decide +kernel)) (hP (show (0:Int) ≤ (0:Int) ∧ (0:Int) < (4:Int) by decide) (hC (vsub_k s7 (by decide +kernel) s7 (by decide +kernel) s3 (by decide +kernel) s1 (by decide +kernel)) (hC (vdot_k s9 (by decide +kernel) s11 (by decide +kernel) s13 (by decide +kernel) s15 (by decide +kernel)) (hC (sign_k s19 (by decide +kernel)) (hP (show (0:Int) ≤ (1:Int) ∧ (1:Int) < (4:Int) by decide) (hC (vsub_k s21 (by decide +kernel) s7 (by decide +kernel) s3 (by decide +kernel) s1 (by decide +kernel)) (hC (vdot_k s9 (by decide +kernel) s11 (by decide +kernel) s23 (by decide +kernel) s15 (by decide +kernel)) (hC (sign_k s26 (by decide +kernel)) (hP (show (0:Int) ≤ (2:Int) ∧ (2:Int) < (4:Int) by decide) (hC (vsub_k s21 (by decide +kernel) s21 (by decide +kernel) s3 (by decide +kernel) s1 (by decide +kernel)) (hC (vdot_k s9 (by decide +kernel) s11 (by decide +kernel) s23 (by decide +kernel) s28 (by decide +kernel)) (hC (sign_k s31 (by decide +kernel)) (hP (show (0:Int) ≤ (3:Int) ∧ (3:Int) < (4:Int) by decide) (hC (vsub_k s7 (by decide +kernel) s21 (by decide +kernel) s3 (by decide +kernel) s1 (by decide +kernel)) (hC (vdot_k s9 (by decide +kernel) s11 (by decide +kernel) s13 (by decide +kernel) s28 (by decide +kernel)) (hC (sign_k s33 (by decide +kernel)) hN)))))))))))))))))))))
theorem bothAB_k    : FSpec Tryd.prog 203 [.sl 0 0 4 4,.sl 1 0 4 4] [some ⟨true,nv [rc (0:Rat),rc (0:Rat),rc (1:Rat),rc (0:Rat),rc (1:Rat),rc (1:Rat),rc (0:Rat),rc (1:Rat)]⟩,some ⟨true,nv [rc (4:Rat),rc (5:Rat),rc (5:Rat),rc (5:Rat),rc (5:Rat),rc (6:Rat),rc (4:Rat),rc (6:Rat)]⟩] (.c (.int .i64 0)) [some ⟨true,nv [rc (0:Rat),rc (0:Rat),rc (1:Rat),rc (0:Rat),rc (1:Rat),rc (1:Rat),rc (0:Rat),rc (1:Rat)]⟩,some ⟨true,nv [rc (4:Rat),rc (5:Rat),rc (5:Rat),rc (5:Rat),rc (5:Rat),rc (6:Rat),rc (4:Rat),rc (6:Rat)]⟩]:=by
  exact fspec_ok Tryd.func203 (sc:=[(1,1,.sub true [0] (.c (.int IntKind.i64 (0:Int))) none),(4,1,.sub true [1] (.c (.int IntKind.i64 (0:Int))) none)]) (sb:=[]) (keep:=[]) (by kernel_rfl) (hP (flatB_flat (m:=[some ⟨true,nv [rc (0:Rat),rc (0:Rat),rc (1:Rat),rc (0:Rat),rc (1:Rat),rc (1:Rat),rc (0:Rat),rc (1:Rat)]⟩,some ⟨true,nv [rc (4:Rat),rc (5:Rat),rc (5:Rat),rc (5:Rat),rc (5:Rat),rc (6:Rat),rc (4:Rat),rc (6:Rat)]⟩]) rfl) (hF convexA_k (hF convexB_k hN)))
theorem meetAB_k    : FSpec Tryd.prog 173 [.sl 0 0 4 4,.sl 1 0 4 4] [some ⟨true,nv [rc (0:Rat),rc (0:Rat),rc (1:Rat),rc (0:Rat),rc (1:Rat),rc (1:Rat),rc (0:Rat),rc (1:Rat)]⟩,some ⟨true,nv [rc (4:Rat),rc (5:Rat),rc (5:Rat),rc (5:Rat),rc (5:Rat),rc (6:Rat),rc (4:Rat),rc (6:Rat)]⟩] (.c (.tuple #[.bool false,.int IntKind.i64 (0:Int)])) [some ⟨true,nv [rc (0:Rat),rc (0:Rat),rc (1:Rat),rc (0:Rat),rc (1:Rat),rc (1:Rat),rc (0:Rat),rc (1:Rat)]⟩,some ⟨true,nv [rc (4:Rat),rc (5:Rat),rc (5:Rat),rc (5:Rat),rc (5:Rat),rc (6:Rat),rc (4:Rat),rc (6:Rat)]⟩]:=by
  exact fspec_ok Tryd.func173 (sc:=[(1,2,.sub true [0,1] (.c (.int IntKind.i64 (0:Int))) none),(4,2,.sub true [0,1] (.c (.tuple #[ag [rc ((1:Rat) - (0:Rat)),rc (-((1:Rat) - (1:Rat)))],.bool true])) none),(5,2,.sub true [1,0] (.c (.tuple #[ag [rc ((5:Rat) - (5:Rat)),rc (-((5:Rat) - (4:Rat)))],.bool true])) none)]) (sb:=[]) (keep:=[]) (by kernel_rfl) (hP (flatB_flat (m:=[some ⟨true,nv [rc (0:Rat),rc (0:Rat),rc (1:Rat),rc (0:Rat),rc (1:Rat),rc (1:Rat),rc (0:Rat),rc (1:Rat)]⟩,some ⟨true,nv [rc (4:Rat),rc (5:Rat),rc (5:Rat),rc (5:Rat),rc (5:Rat),rc (6:Rat),rc (4:Rat),rc (6:Rat)]⟩]) rfl) (hF bothAB_k (hF beyondAB_k (hF beyondBA_k hN))))
theorem sqAB_k    : FSpec Tryd.prog 137 [.sl 0 0 4 4,.sl 1 0 4 4] [some ⟨true,nv [rc (0:Rat),rc (0:Rat),rc (1:Rat),rc (0:Rat),rc (1:Rat),rc (1:Rat),rc (0:Rat),rc (1:Rat)]⟩,some ⟨true,nv [rc (4:Rat),rc (5:Rat),rc (5:Rat),rc (5:Rat),rc (5:Rat),rc (6:Rat),rc (4:Rat),rc (6:Rat)]⟩] (.c (.tuple #[Rv (mn (mn (mn (mn (mn (mn (mn (mn (mn (mn (te (0:Rat) (0:Rat) (4:Rat) (5:Rat) (5:Rat) (5:Rat)) (te (0:Rat) (0:Rat) (5:Rat) (5:Rat) (5:Rat) (6:Rat))) (te (0:Rat) (0:Rat) (5:Rat) (6:Rat) (4:Rat) (6:Rat))) (te (0:Rat) (0:Rat) (4:Rat) (6:Rat) (4:Rat) (5:Rat))) (mn (mn (mn (te (1:Rat) (0:Rat) (4:Rat) (5:Rat) (5:Rat) (5:Rat)) (te (1:Rat) (0:Rat) (5:Rat) (5:Rat) (5:Rat) (6:Rat))) (te (1:Rat) (0:Rat) (5:Rat) (6:Rat) (4:Rat) (6:Rat))) (te (1:Rat) (0:Rat) (4:Rat) (6:Rat) (4:Rat) (5:Rat)))) (mn (mn (mn (te (1:Rat) (1:Rat) (4:Rat) (5:Rat) (5:Rat) (5:Rat)) (te (1:Rat) (1:Rat) (5:Rat) (5:Rat) (5:Rat) (6:Rat))) (te (1:Rat) (1:Rat) (5:Rat) (6:Rat) (4:Rat) (6:Rat))) (te (1:Rat) (1:Rat) (4:Rat) (6:Rat) (4:Rat) (5:Rat)))) (mn (mn (mn (te (0:Rat) (1:Rat) (4:Rat) (5:Rat) (5:Rat) (5:Rat)) (te (0:Rat) (1:Rat) (5:Rat) (5:Rat) (5:Rat) (6:Rat))) (te (0:Rat) (1:Rat) (5:Rat) (6:Rat) (4:Rat) (6:Rat))) (te (0:Rat) (1:Rat) (4:Rat) (6:Rat) (4:Rat) (5:Rat)))) (mn (mn (mn (te (4:Rat) (5:Rat) (0:Rat) (0:Rat) (1:Rat) (0:Rat)) (te (4:Rat) (5:Rat) (1:Rat) (0:Rat) (1:Rat) (1:Rat))) (te (4:Rat) (5:Rat) (1:Rat) (1:Rat) (0:Rat) (1:Rat))) (te (4:Rat) (5:Rat) (0:Rat) (1:Rat) (0:Rat) (0:Rat)))) (mn (mn (mn (te (5:Rat) (5:Rat) (0:Rat) (0:Rat) (1:Rat) (0:Rat)) (te (5:Rat) (5:Rat) (1:Rat) (0:Rat) (1:Rat) (1:Rat))) (te (5:Rat) (5:Rat) (1:Rat) (1:Rat) (0:Rat) (1:Rat))) (te (5:Rat) (5:Rat) (0:Rat) (1:Rat) (0:Rat) (0:Rat)))) (mn (mn (mn (te (5:Rat) (6:Rat) (0:Rat) (0:Rat) (1:Rat) (0:Rat)) (te (5:Rat) (6:Rat) (1:Rat) (0:Rat) (1:Rat) (1:Rat))) (te (5:Rat) (6:Rat) (1:Rat) (1:Rat) (0:Rat) (1:Rat))) (te (5:Rat) (6:Rat) (0:Rat) (1:Rat) (0:Rat) (0:Rat)))) (mn (mn (mn (te (4:Rat) (6:Rat) (0:Rat) (0:Rat) (1:Rat) (0:Rat)) (te (4:Rat) (6:Rat) (1:Rat) (0:Rat) (1:Rat) (1:Rat))) (te (4:Rat) (6:Rat) (1:Rat) (1:Rat) (0:Rat) (1:Rat))) (te (4:Rat) (6:Rat) (0:Rat) (1:Rat) (0:Rat) (0:Rat)))),.int IntKind.i64 (0:Int)])) [some ⟨true,nv [rc (0:Rat),rc (0:Rat),rc (1:Rat),rc (0:Rat),rc (1:Rat),rc (1:Rat),rc (0:Rat),rc (1:Rat)]⟩,some ⟨true,nv [rc (4:Rat),rc (5:Rat),rc (5:Rat),rc (5:Rat),rc (5:Rat),rc (6:Rat),rc (4:Rat),rc (6:Rat)]⟩]:=by
  have s0:=sz0_s
  have s1:=sz4_s
  have s2:=sz5_s
  have s3:=sz6_s
  have s4:=(te_s s0 s0 s1 s2 s2 s2)
  have s5:=(te_s s0 s0 s2 s2 s2 s3)
  have s6:=(mn_s s4 s5)
  have s7:=(te_s s0 s0 s2 s3 s1 s3)
  have s8:=(mn_s s6 s7)
  have s9:=(te_s s0 s0 s1 s3 s1 s2)
  have s10:=(mn_s s8 s9)
  have s11:=(isR_s s10)
  have s12:=sz1_s
  have s13:=(te_s s12 s0 s1 s2 s2 s2)
  have s14:=(te_s s12 s0 s2 s2 s2 s3)
  have s15:=(mn_s s13 s14)
  have s16:=(te_s s12 s0 s2 s3 s1 s3)
  have s17:=(mn_s s15 s16)
  have s18:=(te_s s12 s0 s1 s3 s1 s2)
  have s19:=(mn_s s17 s18)
  have s20:=(isR_s s19)
  have s21:=(mn_s s10 s19)
  have s22:=(isR_s s21)
  have s23:=(te_s s12 s12 s1 s2 s2 s2)
  have s24:=(te_s s12 s12 s2 s2 s2 s3)
  have s25:=(mn_s s23 s24)
  have s26:=(te_s s12 s12 s2 s3 s1 s3)
  have s27:=(mn_s s25 s26)
  have s28:=(te_s s12 s12 s1 s3 s1 s2)
  have s29:=(mn_s s27 s28)
  have s30:=(isR_s s29)
  have s31:=(mn_s s21 s29)
  have s32:=(isR_s s31)
  have s33:=(te_s s0 s12 s1 s2 s2 s2)
  have s34:=(te_s s0 s12 s2 s2 s2 s3)
  have s35:=(mn_s s33 s34)
  have s36:=(te_s s0 s12 s2 s3 s1 s3)
  have s37:=(mn_s s35 s36)
  have s38:=(te_s s0 s12 s1 s3 s1 s2)
  have s39:=(mn_s s37 s38)
  have s40:=(isR_s s39)
  have s41:=(mn_s s31 s39)
  have s42:=(isR_s s41)
  have s43:=(te_s s1 s2 s0 s0 s12 s0)
  have s44:=(te_s s1 s2 s12 s0 s12 s12)
  have s45:=(mn_s s43 s44)
  have s46:=(te_s s1 s2 s12 s12 s0 s12)
  have s47:=(mn_s s45 s46)
  have s48:=(te_s s1 s2 s0 s12 s0 s0)
  have s49:=(mn_s s47 s48)
  have s50:=(isR_s s49)
  have s51:=(mn_s s41 s49)
  have s52:=(isR_s s51)
  have s53:=(te_s s2 s2 s0 s0 s12 s0)
  have s54:=(te_s s2 s2 s12 s0 s12 s12)
  have s55:=(mn_s s53 s54)
  have s56:=(te_s s2 s2 s12 s12 s0 s12)
  have s57:=(mn_s s55 s56)
  have s58:=(te_s s2 s2 s0 s12 s0 s0)
  have s59:=(mn_s s57 s58)
  have s60:=(isR_s s59)
  have s61:=(mn_s s51 s59)
  have s62:=(isR_s s61)
  have s63:=(te_s s2 s3 s0 s0 s12 s0)
  have s64:=(te_s s2 s3 s12 s0 s12 s12)
  have s65:=(mn_s s63 s64)
  have s66:=(te_s s2 s3 s12 s12 s0 s12)
  have s67:=(mn_s s65 s66)
  have s68:=(te_s s2 s3 s0 s12 s0 s0)
  have s69:=(mn_s s67 s68)
  have s70:=(isR_s s69)
  have s71:=(mn_s s61 s69)
  have s72:=(isR_s s71)
  have s73:=(te_s s1 s3 s0 s0 s12 s0)
  have s74:=(te_s s1 s3 s12 s0 s12 s12)
  have s75:=(mn_s s73 s74)
  have s76:=(te_s s1 s3 s12 s12 s0 s12)
  have s77:=(mn_s s75 s76)
  have s78:=(te_s s1 s3 s0 s12 s0 s0)
  have s79:=(mn_s s77 s78)
  have s80:=(isR_s s79)
  exact fspec_ok Tryd.func137 (sc:=[(1,2,.sub true [0,1] (.c (.tuple #[.bool false,.int IntKind.i64 (0:Int)])) none),(6,4,.read (Rv (mn (mn (mn (te (0:Rat) (0:Rat) (4:Rat) (5:Rat) (5:Rat) (5:Rat)) (te (0:Rat) (0:Rat) (5:Rat) (5:Rat) (5:Rat) (6:Rat))) (te (0:Rat) (0:Rat) (5:Rat) (6:Rat) (4:Rat) (6:Rat))) (te (0:Rat) (0:Rat) (4:Rat) (6:Rat) (4:Rat) (5:Rat))))),(1010,3,.read (Rv (mn (mn (mn (te (0:Rat) (0:Rat) (4:Rat) (5:Rat) (5:Rat) (5:Rat)) (te (0:Rat) (0:Rat) (5:Rat) (5:Rat) (5:Rat) (6:Rat))) (te (0:Rat) (0:Rat) (5:Rat) (6:Rat) (4:Rat) (6:Rat))) (te (0:Rat) (0:Rat) (4:Rat) (6:Rat) (4:Rat) (5:Rat))))),(1010,4,.fix (Rv (mn (mn (mn (te (0:Rat) (0:Rat) (4:Rat) (5:Rat) (5:Rat) (5:Rat)) (te (0:Rat) (0:Rat) (5:Rat) (5:Rat) (5:Rat) (6:Rat))) (te (0:Rat) (0:Rat) (5:Rat) (6:Rat) (4:Rat) (6:Rat))) (te (0:Rat) (0:Rat) (4:Rat) (6:Rat) (4:Rat) (5:Rat))))),(2010,3,.read (Rv (mn (mn (mn (te (1:Rat) (0:Rat) (4:Rat) (5:Rat) (5:Rat) (5:Rat)) (te (1:Rat) (0:Rat) (5:Rat) (5:Rat) (5:Rat) (6:Rat))) (te (1:Rat) (0:Rat) (5:Rat) (6:Rat) (4:Rat) (6:Rat))) (te (1:Rat) (0:Rat) (4:Rat) (6:Rat) (4:Rat) (5:Rat))))),(2010,4,.fix (Rv (mn (mn (mn (mn (te (0:Rat) (0:Rat) (4:Rat) (5:Rat) (5:Rat) (5:Rat)) (te (0:Rat) (0:Rat) (5:Rat) (5:Rat) (5:Rat) (6:Rat))) (te (0:Rat) (0:Rat) (5:Rat) (6:Rat) (4:Rat) (6:Rat))) (te (0:Rat) (0:Rat) (4:Rat) (6:Rat) (4:Rat) (5:Rat))) (mn (mn (mn (te (1:Rat) (0:Rat) (4:Rat) (5:Rat) (5:Rat) (5:Rat)) (te (1:Rat) (0:Rat) (5:Rat) (5:Rat) (5:Rat) (6:Rat))) (te (1:Rat) (0:Rat) (5:Rat) (6:Rat) (4:Rat) (6:Rat))) (te (1:Rat) (0:Rat) (4:Rat) (6:Rat) (4:Rat) (5:Rat)))))),(3010,3,.read (Rv (mn (mn (mn (te (1:Rat) (1:Rat) (4:Rat) (5:Rat) (5:Rat) (5:Rat)) (te (1:Rat) (1:Rat) (5:Rat) (5:Rat) (5:Rat) (6:Rat))) (te (1:Rat) (1:Rat) (5:Rat) (6:Rat) (4:Rat) (6:Rat))) (te (1:Rat) (1:Rat) (4:Rat) (6:Rat) (4:Rat) (5:Rat))))),(3010,4,.fix (Rv (mn (mn (mn (mn (mn (te (0:Rat) (0:Rat) (4:Rat) (5:Rat) (5:Rat) (5:Rat)) (te (0:Rat) (0:Rat) (5:Rat) (5:Rat) (5:Rat) (6:Rat))) (te (0:Rat) (0:Rat) (5:Rat) (6:Rat) (4:Rat) (6:Rat))) (te (0:Rat) (0:Rat) (4:Rat) (6:Rat) (4:Rat) (5:Rat))) (mn (mn (mn (te (1:Rat) (0:Rat) (4:Rat) (5:Rat) (5:Rat) (5:Rat)) (te (1:Rat) (0:Rat) (5:Rat) (5:Rat) (5:Rat) (6:Rat))) (te (1:Rat) (0:Rat) (5:Rat) (6:Rat) (4:Rat) (6:Rat))) (te (1:Rat) (0:Rat) (4:Rat) (6:Rat) (4:Rat) (5:Rat)))) (mn (mn (mn (te (1:Rat) (1:Rat) (4:Rat) (5:Rat) (5:Rat) (5:Rat)) (te (1:Rat) (1:Rat) (5:Rat) (5:Rat) (5:Rat) (6:Rat))) (te (1:Rat) (1:Rat) (5:Rat) (6:Rat) (4:Rat) (6:Rat))) (te (1:Rat) (1:Rat) (4:Rat) (6:Rat) (4:Rat) (5:Rat)))))),(4010,3,.read (Rv (mn (mn (mn (te (0:Rat) (1:Rat) (4:Rat) (5:Rat) (5:Rat) (5:Rat)) (te (0:Rat) (1:Rat) (5:Rat) (5:Rat) (5:Rat) (6:Rat))) (te (0:Rat) (1:Rat) (5:Rat) (6:Rat) (4:Rat) (6:Rat))) (te (0:Rat) (1:Rat) (4:Rat) (6:Rat) (4:Rat) (5:Rat))))),(4010,4,.fix (Rv (mn (mn (mn (mn (mn (mn (te (0:Rat) (0:Rat) (4:Rat) (5:Rat) (5:Rat) (5:Rat)) (te (0:Rat) (0:Rat) (5:Rat) (5:Rat) (5:Rat) (6:Rat))) (te (0:Rat) (0:Rat) (5:Rat) (6:Rat) (4:Rat) (6:Rat))) (te (0:Rat) (0:Rat) (4:Rat) (6:Rat) (4:Rat) (5:Rat))) (mn (mn (mn (te (1:Rat) (0:Rat) (4:Rat) (5:Rat) (5:Rat) (5:Rat)) (te (1:Rat) (0:Rat) (5:Rat) (5:Rat) (5:Rat) (6:Rat))) (te (1:Rat) (0:Rat) (5:Rat) (6:Rat) (4:Rat) (6:Rat))) (te (1:Rat) (0:Rat) (4:Rat) (6:Rat) (4:Rat) (5:Rat)))) (mn (mn (mn (te (1:Rat) (1:Rat) (4:Rat) (5:Rat) (5:Rat) (5:Rat)) (te (1:Rat) (1:Rat) (5:Rat) (5:Rat) (5:Rat) (6:Rat))) (te (1:Rat) (1:Rat) (5:Rat) (6:Rat) (4:Rat) (6:Rat))) (te (1:Rat) (1:Rat) (4:Rat) (6:Rat) (4:Rat) (5:Rat)))) (mn (mn (mn (te (0:Rat) (1:Rat) (4:Rat) (5:Rat) (5:Rat) (5:Rat)) (te (0:Rat) (1:Rat) (5:Rat) (5:Rat) (5:Rat) (6:Rat))) (te (0:Rat) (1:Rat) (5:Rat) (6:Rat) (4:Rat) (6:Rat))) (te (0:Rat) (1:Rat) (4:Rat) (6:Rat) (4:Rat) (5:Rat)))))),(1015,3,.read (Rv (mn (mn (mn (te (4:Rat) (5:Rat) (0:Rat) (0:Rat) (1:Rat) (0:Rat)) (te (4:Rat) (5:Rat) (1:Rat) (0:Rat) (1:Rat) (1:Rat))) (te (4:Rat) (5:Rat) (1:Rat) (1:Rat) (0:Rat) (1:Rat))) (te (4:Rat) (5:Rat) (0:Rat) (1:Rat) (0:Rat) (0:Rat))))),(1015,4,.fix (Rv (mn (mn (mn (mn (mn (mn (mn (te (0:Rat) (0:Rat) (4:Rat) (5:Rat) (5:Rat) (5:Rat)) (te (0:Rat) (0:Rat) (5:Rat) (5:Rat) (5:Rat) (6:Rat))) (te (0:Rat) (0:Rat) (5:Rat) (6:Rat) (4:Rat) (6:Rat))) (te (0:Rat) (0:Rat) (4:Rat) (6:Rat) (4:Rat) (5:Rat))) (mn (mn (mn (te (1:Rat) (0:Rat) (4:Rat) (5:Rat) (5:Rat) (5:Rat)) (te (1:Rat) (0:Rat) (5:Rat) (5:Rat) (5:Rat) (6:Rat))) (te (1:Rat) (0:Rat) (5:Rat) (6:Rat) (4:Rat) (6:Rat))) (te (1:Rat) (0:Rat) (4:Rat) (6:Rat) (4:Rat) (5:Rat)))) (mn (mn (mn (te (1:Rat) (1:Rat) (4:Rat) (5:Rat) (5:Rat) (5:Rat)) (te (1:Rat) (1:Rat) (5:Rat) (5:Rat) (5:Rat) (6:Rat))) (te (1:Rat) (1:Rat) (5:Rat) (6:Rat) (4:Rat) (6:Rat))) (te (1:Rat) (1:Rat) (4:Rat) (6:Rat) (4:Rat) (5:Rat)))) (mn (mn (mn (te (0:Rat) (1:Rat) (4:Rat) (5:Rat) (5:Rat) (5:Rat)) (te (0:Rat) (1:Rat) (5:Rat) (5:Rat) (5:Rat) (6:Rat))) (te (0:Rat) (1:Rat) (5:Rat) (6:Rat) (4:Rat) (6:Rat))) (te (0:Rat) (1:Rat) (4:Rat) (6:Rat) (4:Rat) (5:Rat)))) (mn (mn (mn (te (4:Rat) (5:Rat) (0:Rat) (0:Rat) (1:Rat) (0:Rat)) (te (4:Rat) (5:Rat) (1:Rat) (0:Rat) (1:Rat) (1:Rat))) (te (4:Rat) (5:Rat) (1:Rat) (1:Rat) (0:Rat) (1:Rat))) (te (4:Rat) (5:Rat) (0:Rat) (1:Rat) (0:Rat) (0:Rat)))))),(2015,3,.read (Rv (mn (mn (mn (te (5:Rat) (5:Rat) (0:Rat) (0:Rat) (1:Rat) (0:Rat)) (te (5:Rat) (5:Rat) (1:Rat) (0:Rat) (1:Rat) (1:Rat))) (te (5:Rat) (5:Rat) (1:Rat) (1:Rat) (0:Rat) (1:Rat))) (te (5:Rat) (5:Rat) (0:Rat) (1:Rat) (0:Rat) (0:Rat))))),(2015,4,.fix (Rv (mn (mn (mn (mn (mn (mn (mn (mn (te (0:Rat) (0:Rat) (4:Rat) (5:Rat) (5:Rat) (5:Rat)) (te (0:Rat) (0:Rat) (5:Rat) (5:Rat) (5:Rat) (6:Rat))) (te (0:Rat) (0:Rat) (5:Rat) (6:Rat) (4:Rat) (6:Rat))) (te (0:Rat) (0:Rat) (4:Rat) (6:Rat) (4:Rat) (5:Rat))) (mn (mn (mn (te (1:Rat) (0:Rat) (4:Rat) (5:Rat) (5:Rat) (5:Rat)) (te (1:Rat) (0:Rat) (5:Rat) (5:Rat) (5:Rat) (6:Rat))) (te (1:Rat) (0:Rat) (5:Rat) (6:Rat) (4:Rat) (6:Rat))) (te (1:Rat) (0:Rat) (4:Rat) (6:Rat) (4:Rat) (5:Rat)))) (mn (mn (mn (te (1:Rat) (1:Rat) (4:Rat) (5:Rat) (5:Rat) (5:Rat)) (te (1:Rat) (1:Rat) (5:Rat) (5:Rat) (5:Rat) (6:Rat))) (te (1:Rat) (1:Rat) (5:Rat) (6:Rat) (4:Rat) (6:Rat))) (te (1:Rat) (1:Rat) (4:Rat) (6:Rat) (4:Rat) (5:Rat)))) (mn (mn (mn (te (0:Rat) (1:Rat) (4:Rat) (5:Rat) (5:Rat) (5:Rat)) (te (0:Rat) (1:Rat) (5:Rat) (5:Rat) (5:Rat) (6:Rat))) (te (0:Rat) (1:Rat) (5:Rat) (6:Rat) (4:Rat) (6:Rat))) (te (0:Rat) (1:Rat) (4:Rat) (6:Rat) (4:Rat) (5:Rat)))) (mn (mn (mn (te (4:Rat) (5:Rat) (0:Rat) (0:Rat) (1:Rat) (0:Rat)) (te (4:Rat) (5:Rat) (1:Rat) (0:Rat) (1:Rat) (1:Rat))) (te (4:Rat) (5:Rat) (1:Rat) (1:Rat) (0:Rat) (1:Rat))) (te (4:Rat) (5:Rat) (0:Rat) (1:Rat) (0:Rat) (0:Rat)))) (mn (mn (mn (te (5:Rat) (5:Rat) (0:Rat) (0:Rat) (1:Rat) (0:Rat)) (te (5:Rat) (5:Rat) (1:Rat) (0:Rat) (1:Rat) (1:Rat))) (te (5:Rat) (5:Rat) (1:Rat) (1:Rat) (0:Rat) (1:Rat))) (te (5:Rat) (5:Rat) (0:Rat) (1:Rat) (0:Rat) (0:Rat)))))),(3015,3,.read (Rv (mn (mn (mn (te (5:Rat) (6:Rat) (0:Rat) (0:Rat) (1:Rat) (0:Rat)) (te (5:Rat) (6:Rat) (1:Rat) (0:Rat) (1:Rat) (1:Rat))) (te (5:Rat) (6:Rat) (1:Rat) (1:Rat) (0:Rat) (1:Rat))) (te (5:Rat) (6:Rat) (0:Rat) (1:Rat) (0:Rat) (0:Rat))))),(3015,4,.fix (Rv (mn (mn (mn (mn (mn (mn (mn (mn (mn (te (0:Rat) (0:Rat) (4:Rat) (5:Rat) (5:Rat) (5:Rat)) (te (0:Rat) (0:Rat) (5:Rat) (5:Rat) (5:Rat) (6:Rat))) (te (0:Rat) (0:Rat) (5:Rat) (6:Rat) (4:Rat) (6:Rat))) (te (0:Rat) (0:Rat) (4:Rat) (6:Rat) (4:Rat) (5:Rat))) (mn (mn (mn (te (1:Rat) (0:Rat) (4:Rat) (5:Rat) (5:Rat) (5:Rat)) (te (1:Rat) (0:Rat) (5:Rat) (5:Rat) (5:Rat) (6:Rat))) (te (1:Rat) (0:Rat) (5:Rat) (6:Rat) (4:Rat) (6:Rat))) (te (1:Rat) (0:Rat) (4:Rat) (6:Rat) (4:Rat) (5:Rat)))) (mn (mn (mn (te (1:Rat) (1:Rat) (4:Rat) (5:Rat) (5:Rat) (5:Rat)) (te (1:Rat) (1:Rat) (5:Rat) (5:Rat) (5:Rat) (6:Rat))) (te (1:Rat) (1:Rat) (5:Rat) (6:Rat) (4:Rat) (6:Rat))) (te (1:Rat) (1:Rat) (4:Rat) (6:Rat) (4:Rat) (5:Rat)))) (mn (mn (mn (te (0:Rat) (1:Rat) (4:Rat) (5:Rat) (5:Rat) (5:Rat)) (te (0:Rat) (1:Rat) (5:Rat) (5:Rat) (5:Rat) (6:Rat))) (te (0:Rat) (1:Rat) (5:Rat) (6:Rat) (4:Rat) (6:Rat))) (te (0:Rat) (1:Rat) (4:Rat) (6:Rat) (4:Rat) (5:Rat)))) (mn (mn (mn (te (4:Rat) (5:Rat) (0:Rat) (0:Rat) (1:Rat) (0:Rat)) (te (4:Rat) (5:Rat) (1:Rat) (0:Rat) (1:Rat) (1:Rat))) (te (4:Rat) (5:Rat) (1:Rat) (1:Rat) (0:Rat) (1:Rat))) (te (4:Rat) (5:Rat) (0:Rat) (1:Rat) (0:Rat) (0:Rat)))) (mn (mn (mn (te (5:Rat) (5:Rat) (0:Rat) (0:Rat) (1:Rat) (0:Rat)) (te (5:Rat) (5:Rat) (1:Rat) (0:Rat) (1:Rat) (1:Rat))) (te (5:Rat) (5:Rat) (1:Rat) (1:Rat) (0:Rat) (1:Rat))) (te (5:Rat) (5:Rat) (0:Rat) (1:Rat) (0:Rat) (0:Rat)))) (mn (mn (mn (te (5:Rat) (6:Rat) (0:Rat) (0:Rat) (1:Rat) (0:Rat)) (te (5:Rat) (6:Rat) (1:Rat) (0:Rat) (1:Rat) (1:Rat))) (te (5:Rat) (6:Rat) (1:Rat) (1:Rat) (0:Rat) (1:Rat))) (te (5:Rat) (6:Rat) (0:Rat) (1:Rat) (0:Rat) (0:Rat)))))),(4015,3,.read (Rv (mn (mn (mn (te (4:Rat) (6:Rat) (0:Rat) (0:Rat) (1:Rat) (0:Rat)) (te (4:Rat) (6:Rat) (1:Rat) (0:Rat) (1:Rat) (1:Rat))) (te (4:Rat) (6:Rat) (1:Rat) (1:Rat) (0:Rat) (1:Rat))) (te (4:Rat) (6:Rat) (0:Rat) (1:Rat) (0:Rat) (0:Rat))))),(4015,4,.fix (Rv (mn (mn (mn (mn (mn (mn (mn (mn (mn (mn (te (0:Rat) (0:Rat) (4:Rat) (5:Rat) (5:Rat) (5:Rat)) (te (0:Rat) (0:Rat) (5:Rat) (5:Rat) (5:Rat) (6:Rat))) (te (0:Rat) (0:Rat) (5:Rat) (6:Rat) (4:Rat) (6:Rat))) (te (0:Rat) (0:Rat) (4:Rat) (6:Rat) (4:Rat) (5:Rat))) (mn (mn (mn (te (1:Rat) (0:Rat) (4:Rat) (5:Rat) (5:Rat) (5:Rat)) (te (1:Rat) (0:Rat) (5:Rat) (5:Rat) (5:Rat) (6:Rat))) (te (1:Rat) (0:Rat) (5:Rat) (6:Rat) (4:Rat) (6:Rat))) (te (1:Rat) (0:Rat) (4:Rat) (6:Rat) (4:Rat) (5:Rat)))) (mn (mn (mn (te (1:Rat) (1:Rat) (4:Rat) (5:Rat) (5:Rat) (5:Rat)) (te (1:Rat) (1:Rat) (5:Rat) (5:Rat) (5:Rat) (6:Rat))) (te (1:Rat) (1:Rat) (5:Rat) (6:Rat) (4:Rat) (6:Rat))) (te (1:Rat) (1:Rat) (4:Rat) (6:Rat) (4:Rat) (5:Rat)))) (mn (mn (mn (te (0:Rat) (1:Rat) (4:Rat) (5:Rat) (5:Rat) (5:Rat)) (te (0:Rat) (1:Rat) (5:Rat) (5:Rat) (5:Rat) (6:Rat))) (te (0:Rat) (1:Rat) (5:Rat) (6:Rat) (4:Rat) (6:Rat))) (te (0:Rat) (1:Rat) (4:Rat) (6:Rat) (4:Rat) (5:Rat)))) (mn (mn (mn (te (4:Rat) (5:Rat) (0:Rat) (0:Rat) (1:Rat) (0:Rat)) (te (4:Rat) (5:Rat) (1:Rat) (0:Rat) (1:Rat) (1:Rat))) (te (4:Rat) (5:Rat) (1:Rat) (1:Rat) (0:Rat) (1:Rat))) (te (4:Rat) (5:Rat) (0:Rat) (1:Rat) (0:Rat) (0:Rat)))) (mn (mn (mn (te (5:Rat) (5:Rat) (0:Rat) (0:Rat) (1:Rat) (0:Rat)) (te (5:Rat) (5:Rat) (1:Rat) (0:Rat) (1:Rat) (1:Rat))) (te (5:Rat) (5:Rat) (1:Rat) (1:Rat) (0:Rat) (1:Rat))) (te (5:Rat) (5:Rat) (0:Rat) (1:Rat) (0:Rat) (0:Rat)))) (mn (mn (mn (te (5:Rat) (6:Rat) (0:Rat) (0:Rat) (1:Rat) (0:Rat)) (te (5:Rat) (6:Rat) (1:Rat) (0:Rat) (1:Rat) (1:Rat))) (te (5:Rat) (6:Rat) (1:Rat) (1:Rat) (0:Rat) (1:Rat))) (te (5:Rat) (6:Rat) (0:Rat) (1:Rat) (0:Rat) (0:Rat)))) (mn (mn (mn (te (4:Rat) (6:Rat) (0:Rat) (0:Rat) (1:Rat) (0:Rat)) (te (4:Rat) (6:Rat) (1:Rat) (0:Rat) (1:Rat) (1:Rat))) (te (4:Rat) (6:Rat) (1:Rat) (1:Rat) (0:Rat) (1:Rat))) (te (4:Rat) (6:Rat) (0:Rat) (1:Rat) (0:Rat) (0:Rat))))))]) (sb:=[]) (keep:=[]) (by kernel_rfl) (hP (flatB_flat (m:=[some ⟨true,nv [rc (0:Rat),rc (0:Rat),rc (1:Rat),rc (0:Rat),rc (1:Rat),rc (1:Rat),rc (0:Rat),rc (1:Rat)]⟩,some ⟨true,nv [rc (4:Rat),rc (5:Rat),rc (5:Rat),rc (5:Rat),rc (5:Rat),rc (6:Rat),rc (4:Rat),rc (6:Rat)]⟩]) rfl) (hF meetAB_k (hP (show (0:Int) ≤ (0:Int) ∧ (0:Int) < (4:Int) by decide) (hF (near_k s0 s0 s1 s2 s2 s2 s2 s3 s1 s3 (by decide +kernel)) (hP (show (0:Int) ≤ (0:Int) ∧ (0:Int) < (4:Int) by decide) (hF (near_k s0 s0 s1 s2 s2 s2 s2 s3 s1 s3 (by decide +kernel)) (hC (mi_self_k s11 (by decide +kernel)) (hP (show (0:Int) ≤ (1:Int) ∧ (1:Int) < (4:Int) by decide) (hF (near_k s12 s0 s1 s2 s2 s2 s2 s3 s1 s3 (by decide +kernel)) (hC (min_k s11 s20 (by decide +kernel)) (hP (show (0:Int) ≤ (2:Int) ∧ (2:Int) < (4:Int) by decide) (hF (near_k s12 s12 s1 s2 s2 s2 s2 s3 s1 s3 (by decide +kernel)) (hC (min_k s22 s30 (by decide +kernel)) (hP (show (0:Int) ≤ (3:Int) ∧ (3:Int) < (4:Int) by decide) (hF (near_k s0 s12 s1 s2 s2 s2 s2 s3 s1 s3 (by decide +kernel)) (hC (min_k s32 s40 (by decide +kernel)) (hP (show (0:Int) ≤ (0:Int) ∧ (0:Int) < (4:Int) by decide) (hF (near_k s1 s2 s0 s0 s12 s0 s12 s12 s0 s12 (by decide +kernel)) (hC (min_k s42 s50 (by decide +kernel)) (hP (show (0:Int) ≤ (1:Int) ∧ (1:Int) < (4:Int) by decide) (hF (near_k s2 s2 s0 s0 s12 s0 s12 s12 s0 s12 (by decide +kernel)) (hC (min_k s52 s60 (by decide +kernel)) (hP (show (0:Int) ≤ (2:Int) ∧ (2:Int) < (4:Int) by decide) (hF (near_k s2 s3 s0 s0 s12 s0 s12 s12 s0 s12 (by decide +kernel)) (hC (min_k s62 s70 (by decide +kernel)) (hP (show (0:Int) ≤ (3:Int) ∧ (3:Int) < (4:Int) by decide) (hF (near_k s1 s3 s0 s0 s12 s0 s12 s12 s0 s12 (by decide +kernel)) (hC (min_k s72 s80 (by decide +kernel)) hN))))))))))))))))))))))))))))
theorem areaC_k    : FSpec Tryd.prog 176 [.sl 0 0 4 4] [some ⟨true,nv [rc (0:Rat),rc (0:Rat),rc (2:Rat),rc (0:Rat),rc (2:Rat),rc (2:Rat),rc (0:Rat),rc (2:Rat)]⟩] (.c (Rv ((↑(1:Int):Rat) / (↑(2:Int):Rat) * ((0:Rat) + ((0:Rat) * (0:Rat) - (0:Rat) * (2:Rat)) + ((2:Rat) * (2:Rat) - (0:Rat) * (2:Rat)) + ((2:Rat) * (2:Rat) - (2:Rat) * (0:Rat)) + ((0:Rat) * (0:Rat) - (2:Rat) * (0:Rat)))))) [some ⟨true,nv [rc (0:Rat),rc (0:Rat),rc (2:Rat),rc (0:Rat),rc (2:Rat),rc (2:Rat),rc (0:Rat),rc (2:Rat)]⟩]:=by
  have s0:=sz0_s
  have s1:=(isR_s s0)
  have s2:=sz2_s
  have s3:=(isR_s s2)
  have s4:=(mul_s s0 s0)
  have s5:=(mul_s s0 s2)
  have s6:=(sub_s s4 s5)
  have s7:=(isR_s s6)
  have s8:=(add_s s0 s6)
  have s9:=(isR_s s8)
  have s10:=(mul_s s2 s2)
  have s11:=(sub_s s10 s5)
  have s12:=(isR_s s11)
  have s13:=(add_s s8 s11)
  have s14:=(isR_s s13)
  have s15:=(mul_s s2 s0)
  have s16:=(sub_s s10 s15)
  have s17:=(isR_s s16)
  have s18:=(add_s s13 s16)
  have s19:=(isR_s s18)
  have s20:=(sub_s s4 s15)
  have s21:=(isR_s s20)
  have s22:=(int_s (n:=(1:Int)) (by decide +kernel))
  have s23:=(int_s (n:=(2:Int)) (by decide +kernel))
  have s24:=(div_s s22 s23)
  have s25:=(isR_s s24)
  have s26:=(add_s s18 s20)
  have s27:=(isR_s s26)
  exact fspec_ok Tryd.func176 (sc:=[(1,0,.fix (Rv (0:Rat))),(2,1,.sub true [0] (.c (.int IntKind.i64 (0:Int))) none),(1007,10,.fix (Rv ((0:Rat) * (0:Rat) - (0:Rat) * (2:Rat)))),(1007,11,.fix (Rv ((0:Rat) + ((0:Rat) * (0:Rat) - (0:Rat) * (2:Rat))))),(2007,10,.fix (Rv ((2:Rat) * (2:Rat) - (0:Rat) * (2:Rat)))),(2007,11,.fix (Rv ((0:Rat) + ((0:Rat) * (0:Rat) - (0:Rat) * (2:Rat)) + ((2:Rat) * (2:Rat) - (0:Rat) * (2:Rat))))),(3007,10,.fix (Rv ((2:Rat) * (2:Rat) - (2:Rat) * (0:Rat)))),(3007,11,.fix (Rv ((0:Rat) + ((0:Rat) * (0:Rat) - (0:Rat) * (2:Rat)) + ((2:Rat) * (2:Rat) - (0:Rat) * (2:Rat)) + ((2:Rat) * (2:Rat) - (2:Rat) * (0:Rat))))),(4007,10,.fix (Rv ((0:Rat) * (0:Rat) - (2:Rat) * (0:Rat)))),(4007,11,.fix (Rv ((0:Rat) + ((0:Rat) * (0:Rat) - (0:Rat) * (2:Rat)) + ((2:Rat) * (2:Rat) - (0:Rat) * (2:Rat)) + ((2:Rat) * (2:Rat) - (2:Rat) * (0:Rat)) + ((0:Rat) * (0:Rat) - (2:Rat) * (0:Rat))))),(9,0,.fix (.tuple #[Rv ((↑(1:Int):Rat) / (↑(2:Int):Rat)),.int IntKind.i64 (0:Int)])),(10,2,.fix (Rv ((↑(1:Int):Rat) / (↑(2:Int):Rat) * ((0:Rat) + ((0:Rat) * (0:Rat) - (0:Rat) * (2:Rat)) + ((2:Rat) * (2:Rat) - (0:Rat) * (2:Rat)) + ((2:Rat) * (2:Rat) - (2:Rat) * (0:Rat)) + ((0:Rat) * (0:Rat) - (2:Rat) * (0:Rat))))))]) (sb:=[]) (keep:=[]) (by kernel_rfl) (hP (flatB_flat (m:=[some ⟨true,nv [rc (0:Rat),rc (0:Rat),rc (2:Rat),rc (0:Rat),rc (2:Rat),rc (2:Rat),rc (0:Rat),rc (2:Rat)]⟩]) rfl) (hC of0_k (hF convexC_k (hP (show (0:Int) ≤ (0:Int) ∧ (0:Int) < (4:Int) by decide) (hP (show (0:Int) ≤ (1:Int) ∧ (1:Int) < (4:Int) by decide) (hC (vcross_k s1 (by decide +kernel) s1 (by decide +kernel) s3 (by decide +kernel) s1 (by decide +kernel)) (hC (add_k s1 s7 (by decide +kernel)) (hP (show (0:Int) ≤ (1:Int) ∧ (1:Int) < (4:Int) by decide) (hP (show (0:Int) ≤ (2:Int) ∧ (2:Int) < (4:Int) by decide) (hC (vcross_k s3 (by decide +kernel) s1 (by decide +kernel) s3 (by decide +kernel) s3 (by decide +kernel)) (hC (add_k s9 s12 (by decide +kernel)) (hP (show (0:Int) ≤ (2:Int) ∧ (2:Int) < (4:Int) by decide) (hP (show (0:Int) ≤ (3:Int) ∧ (3:Int) < (4:Int) by decide) (hC (vcross_k s3 (by decide +kernel) s3 (by decide +kernel) s1 (by decide +kernel) s3 (by decide +kernel)) (hC (add_k s14 s17 (by decide +kernel)) (hP (show (0:Int) ≤ (3:Int) ∧ (3:Int) < (4:Int) by decide) (hP (show (0:Int) ≤ (0:Int) ∧ (0:Int) < (4:Int) by decide) (hC (vcross_k s1 (by decide +kernel) s3 (by decide +kernel) s1 (by decide +kernel) s1 (by decide +kernel)) (hC (add_k s19 s21 (by decide +kernel)) (hC (make_k (n:=(1:Int)) (m:=(2:Int)) (by decide +kernel) (by decide +kernel) (by decide +kernel) (by decide +kernel) (by decide +kernel)) (hC (mul_k s25 s27 (by decide +kernel)) hN)))))))))))))))))))))
theorem polyBegun_k    : CSpec Tryd.prog 139 #[] (.bool true):=by
  exact fn_ok Tryd.func139 (sc:=[(1,0,.fix (.bool true)),(1,2,.sub true [] (V.sl (0:Nat) (0:Nat) (4:Nat) (4:Nat)) (some [some ⟨Bool.true,nv [rc ((0:Rat)),rc ((0:Rat)),rc ((2:Rat)),rc ((0:Rat)),rc ((2:Rat)),rc ((2:Rat)),rc ((0:Rat)),rc ((2:Rat))]⟩])),(1,3,.sub true [0] (.c (Rv ((↑(1:Int):Rat) / (↑(2:Int):Rat) * ((0:Rat) + ((0:Rat) * (0:Rat) - (0:Rat) * (2:Rat)) + ((2:Rat) * (2:Rat) - (0:Rat) * (2:Rat)) + ((2:Rat) * (2:Rat) - (2:Rat) * (0:Rat)) + ((0:Rat) * (0:Rat) - (2:Rat) * (0:Rat)))))) none),(1,4,.fix (Rv (4:Rat)))]) (sb:=[]) (by kernel_rfl) (hC ratBegun_k (hF squareC_k (hF areaC_k (hC ri4_k hN))))
theorem apartBegun_k    : CSpec Tryd.prog 78 #[] (.bool true):=by
  exact fn_ok Tryd.func78 (sc:=[(1,0,.sub true [] (V.sl (0:Nat) (0:Nat) (4:Nat) (4:Nat)) (some [some ⟨Bool.true,nv [rc ((0:Rat)),rc ((0:Rat)),rc ((1:Rat)),rc ((0:Rat)),rc ((1:Rat)),rc ((1:Rat)),rc ((0:Rat)),rc ((1:Rat))]⟩])),(1,1,.sub true [] (V.sl (0:Nat) (0:Nat) (4:Nat) (4:Nat)) (some [some ⟨Bool.true,nv [rc ((4:Rat)),rc ((5:Rat)),rc ((5:Rat)),rc ((5:Rat)),rc ((5:Rat)),rc ((6:Rat)),rc ((4:Rat)),rc ((6:Rat))]⟩])),(1,2,.sub true [0,1] (.c (.tuple #[Rv (mn (mn (mn (mn (mn (mn (mn (mn (mn (mn (te (0:Rat) (0:Rat) (4:Rat) (5:Rat) (5:Rat) (5:Rat)) (te (0:Rat) (0:Rat) (5:Rat) (5:Rat) (5:Rat) (6:Rat))) (te (0:Rat) (0:Rat) (5:Rat) (6:Rat) (4:Rat) (6:Rat))) (te (0:Rat) (0:Rat) (4:Rat) (6:Rat) (4:Rat) (5:Rat))) (mn (mn (mn (te (1:Rat) (0:Rat) (4:Rat) (5:Rat) (5:Rat) (5:Rat)) (te (1:Rat) (0:Rat) (5:Rat) (5:Rat) (5:Rat) (6:Rat))) (te (1:Rat) (0:Rat) (5:Rat) (6:Rat) (4:Rat) (6:Rat))) (te (1:Rat) (0:Rat) (4:Rat) (6:Rat) (4:Rat) (5:Rat)))) (mn (mn (mn (te (1:Rat) (1:Rat) (4:Rat) (5:Rat) (5:Rat) (5:Rat)) (te (1:Rat) (1:Rat) (5:Rat) (5:Rat) (5:Rat) (6:Rat))) (te (1:Rat) (1:Rat) (5:Rat) (6:Rat) (4:Rat) (6:Rat))) (te (1:Rat) (1:Rat) (4:Rat) (6:Rat) (4:Rat) (5:Rat)))) (mn (mn (mn (te (0:Rat) (1:Rat) (4:Rat) (5:Rat) (5:Rat) (5:Rat)) (te (0:Rat) (1:Rat) (5:Rat) (5:Rat) (5:Rat) (6:Rat))) (te (0:Rat) (1:Rat) (5:Rat) (6:Rat) (4:Rat) (6:Rat))) (te (0:Rat) (1:Rat) (4:Rat) (6:Rat) (4:Rat) (5:Rat)))) (mn (mn (mn (te (4:Rat) (5:Rat) (0:Rat) (0:Rat) (1:Rat) (0:Rat)) (te (4:Rat) (5:Rat) (1:Rat) (0:Rat) (1:Rat) (1:Rat))) (te (4:Rat) (5:Rat) (1:Rat) (1:Rat) (0:Rat) (1:Rat))) (te (4:Rat) (5:Rat) (0:Rat) (1:Rat) (0:Rat) (0:Rat)))) (mn (mn (mn (te (5:Rat) (5:Rat) (0:Rat) (0:Rat) (1:Rat) (0:Rat)) (te (5:Rat) (5:Rat) (1:Rat) (0:Rat) (1:Rat) (1:Rat))) (te (5:Rat) (5:Rat) (1:Rat) (1:Rat) (0:Rat) (1:Rat))) (te (5:Rat) (5:Rat) (0:Rat) (1:Rat) (0:Rat) (0:Rat)))) (mn (mn (mn (te (5:Rat) (6:Rat) (0:Rat) (0:Rat) (1:Rat) (0:Rat)) (te (5:Rat) (6:Rat) (1:Rat) (0:Rat) (1:Rat) (1:Rat))) (te (5:Rat) (6:Rat) (1:Rat) (1:Rat) (0:Rat) (1:Rat))) (te (5:Rat) (6:Rat) (0:Rat) (1:Rat) (0:Rat) (0:Rat)))) (mn (mn (mn (te (4:Rat) (6:Rat) (0:Rat) (0:Rat) (1:Rat) (0:Rat)) (te (4:Rat) (6:Rat) (1:Rat) (0:Rat) (1:Rat) (1:Rat))) (te (4:Rat) (6:Rat) (1:Rat) (1:Rat) (0:Rat) (1:Rat))) (te (4:Rat) (6:Rat) (0:Rat) (1:Rat) (0:Rat) (0:Rat)))),.int IntKind.i64 (0:Int)])) none),(2,0,.fix (.bool true)),(2,7,.fix (Rv (25:Rat)))]) (sb:=[]) (by kernel_rfl) (hF squareA_k (hF squareB_k (hF sqAB_k (hC polyBegun_k (hC ri25_k hN)))))
end Go.Proofs.YtikepohhmagdpaaDoor.G
end
section
namespace Go.Proofs.YtikepohhmagdpaaDoor.G
open Go.Proofs.YtikepohhmagdpaaDoor.U Go.RowKit
set_option linter.unusedVariables false
set_option maxRecDepth 100000
theorem valid1 {n1:Bool} {a1 b1:ByteArray} {x1:Rat} {K1:Nat}{n2:Bool} {a2 b2:ByteArray} {x2:Rat} {K2:Nat}{n3:Bool} {a3 b3:ByteArray} {x3:Rat} {K3:Nat}{n4:Bool} {a4 b4:ByteArray} {x4:Rat} {K4:Nat} (h1':IsR n1 a1 b1 x1 K1) (k1:K1 ≤ 1000000000) (h2':IsR n2 a2 b2 x2 K2) (k2:K2 ≤ 1000000000) (h3':IsR n3 a3 b3 x3 K3) (k3:K3 ≤ 1000000000) (h4':IsR n4 a4 b4 x4 K4) (k4:K4 ≤ 1000000000) (h0:decide (cmpR x1 x3 ≤ (0:Int)) = false):CSpec Tryd.prog 140 #[(ag [rr n1 a1 b1,rr n2 a2 b2,rr n3 a3 b3,rr n4 a4 b4])] (.bool false):=by
  exact fn_ok Tryd.func140 (sc:=[(1,6,.fix (.int IntKind.i64 (cmpR x1 x3))),(1,7,.is (.c (.bool false)))]) (sb:=[]) (by kernel_rfl) (hC (cmp_k h1' h3' (by omega)) (hP (isB h0) hN))
theorem valid2 {n1:Bool} {a1 b1:ByteArray} {x1:Rat} {K1:Nat}{n2:Bool} {a2 b2:ByteArray} {x2:Rat} {K2:Nat}{n3:Bool} {a3 b3:ByteArray} {x3:Rat} {K3:Nat}{n4:Bool} {a4 b4:ByteArray} {x4:Rat} {K4:Nat} (h1':IsR n1 a1 b1 x1 K1) (k1:K1 ≤ 1000000000) (h2':IsR n2 a2 b2 x2 K2) (k2:K2 ≤ 1000000000) (h3':IsR n3 a3 b3 x3 K3) (k3:K3 ≤ 1000000000) (h4':IsR n4 a4 b4 x4 K4) (k4:K4 ≤ 1000000000) (h0:decide (cmpR x1 x3 ≤ (0:Int)) = true):CSpec Tryd.prog 140 #[(ag [rr n1 a1 b1,rr n2 a2 b2,rr n3 a3 b3,rr n4 a4 b4])] (.bool (decide (cmpR x2 x4 ≤ (0:Int)))):=by
  exact fn_ok Tryd.func140 (sc:=[(1,6,.fix (.int IntKind.i64 (cmpR x1 x3))),(1,7,.is (.c (.bool true))),(1,15,.fix (.int IntKind.i64 (cmpR x2 x4)))]) (sb:=[]) (by kernel_rfl) (hC (cmp_k h1' h3' (by omega)) (hP (isB h0) (hC (cmp_k h2' h4' (by omega)) hN)))
theorem boxis1 {n1:Bool} {a1 b1:ByteArray} {x1:Rat} {K1:Nat}{n2:Bool} {a2 b2:ByteArray} {x2:Rat} {K2:Nat}{n3:Bool} {a3 b3:ByteArray} {x3:Rat} {K3:Nat}{n4:Bool} {a4 b4:ByteArray} {x4:Rat} {K4:Nat} (h1':IsR n1 a1 b1 x1 K1) (k1:K1 ≤ 1000000000) (h2':IsR n2 a2 b2 x2 K2) (k2:K2 ≤ 1000000000) (h3':IsR n3 a3 b3 x3 K3) (k3:K3 ≤ 1000000000) (h4':IsR n4 a4 b4 x4 K4) (k4:K4 ≤ 1000000000) (h2:decide ((0:Int) ≤ Int.sign (Rat.num (x3 - x1))) = false):CSpec Tryd.prog 80 #[(ag [rr n1 a1 b1,rr n2 a2 b2,rr n3 a3 b3,rr n4 a4 b4])] (.bool false):=by
  have s0:=(sub_s (szr h3') (szr h1'))
  have s1:=(isR_s s0)
  exact fn_ok Tryd.func80 (sc:=[(1,6,.fix (Rv (x3 - x1))),(1,7,.fix (.int IntKind.i64 (Int.sign (Rat.num (x3 - x1))))),(1,8,.is (.c (.bool false)))]) (sb:=[]) (by kernel_rfl) (hC (sub_k h3' h1' (by omega)) (hC (sign_k s1 (by omega)) (hP (isB h2) hN)))
theorem boxis2 {n1:Bool} {a1 b1:ByteArray} {x1:Rat} {K1:Nat}{n2:Bool} {a2 b2:ByteArray} {x2:Rat} {K2:Nat}{n3:Bool} {a3 b3:ByteArray} {x3:Rat} {K3:Nat}{n4:Bool} {a4 b4:ByteArray} {x4:Rat} {K4:Nat} (h1':IsR n1 a1 b1 x1 K1) (k1:K1 ≤ 1000000000) (h2':IsR n2 a2 b2 x2 K2) (k2:K2 ≤ 1000000000) (h3':IsR n3 a3 b3 x3 K3) (k3:K3 ≤ 1000000000) (h4':IsR n4 a4 b4 x4 K4) (k4:K4 ≤ 1000000000) (h2:decide ((0:Int) ≤ Int.sign (Rat.num (x3 - x1))) = true):CSpec Tryd.prog 80 #[(ag [rr n1 a1 b1,rr n2 a2 b2,rr n3 a3 b3,rr n4 a4 b4])] (.bool (decide ((0:Int) ≤ Int.sign (Rat.num (x4 - x2))))):=by
  have s0:=(sub_s (szr h3') (szr h1'))
  have s1:=(isR_s s0)
  have s3:=(sub_s (szr h4') (szr h2'))
  have s4:=(isR_s s3)
  exact fn_ok Tryd.func80 (sc:=[(1,6,.fix (Rv (x3 - x1))),(1,7,.fix (.int IntKind.i64 (Int.sign (Rat.num (x3 - x1))))),(1,8,.is (.c (.bool true))),(1,16,.fix (Rv (x4 - x2))),(1,17,.fix (.int IntKind.i64 (Int.sign (Rat.num (x4 - x2)))))]) (sb:=[]) (by kernel_rfl) (hC (sub_k h3' h1' (by omega)) (hC (sign_k s1 (by omega)) (hP (isB h2) (hC (sub_k h4' h2' (by omega)) (hC (sign_k s4 (by omega)) hN)))))
def vb (x1 x2 x3 x4:Rat):Bool:=decide (x1 ≤ x3) && decide (x2 ≤ x4)
theorem valid_k {n1:Bool} {a1 b1:ByteArray} {x1:Rat} {K1:Nat}{n2:Bool} {a2 b2:ByteArray} {x2:Rat} {K2:Nat}{n3:Bool} {a3 b3:ByteArray} {x3:Rat} {K3:Nat}{n4:Bool} {a4 b4:ByteArray} {x4:Rat} {K4:Nat} (h1':IsR n1 a1 b1 x1 K1) (k1:K1 ≤ 1000000000) (h2':IsR n2 a2 b2 x2 K2) (k2:K2 ≤ 1000000000) (h3':IsR n3 a3 b3 x3 K3) (k3:K3 ≤ 1000000000) (h4':IsR n4 a4 b4 x4 K4) (k4:K4 ≤ 1000000000):CSpec Tryd.prog 140 #[ag [rr n1 a1 b1,rr n2 a2 b2,rr n3 a3 b3,rr n4 a4 b4]] (.bool (vb x1 x2 x3 x4)):=by
  unfold vb
  by_cases h:x1 ≤ x3
  · rw [decide_eq_true h,Bool.true_and]
    exact cbool (valid2 h1' k1 h2' k2 h3' k3 h4' k4 (decide_eq_true (cmpR_le.2 h))) (decide_eq_decide.2 cmpR_le)
  rw [decide_eq_false h,Bool.false_and]
  exact valid1 h1' k1 h2' k2 h3' k3 h4' k4 (decide_eq_false (fun g=>h (cmpR_le.1 g)))
theorem sub_ge {x y:Rat}:0 ≤ Int.sign (Rat.num (y - x)) ↔ x ≤ y:=by
  rcases Int.lt_trichotomy (Rat.num (y - x)) 0 with h | h | h
  · rw [Int.sign_eq_neg_one_of_neg h]
    have:=num_neg.1 h
    exact ⟨fun g=>by omega,fun g=>by grind⟩
  · rw [h]
    have:=Rat.num_eq_zero.1 h
    exact ⟨fun _=>by grind,fun _=>by decide⟩
  rw [Int.sign_eq_one_of_pos h]
  have:=num_pos.1 h
  exact ⟨fun _=>by grind,fun _=>by decide⟩
theorem boxis_k {n1:Bool} {a1 b1:ByteArray} {x1:Rat} {K1:Nat}{n2:Bool} {a2 b2:ByteArray} {x2:Rat} {K2:Nat}{n3:Bool} {a3 b3:ByteArray} {x3:Rat} {K3:Nat}{n4:Bool} {a4 b4:ByteArray} {x4:Rat} {K4:Nat} (h1':IsR n1 a1 b1 x1 K1) (k1:K1 ≤ 1000000000) (h2':IsR n2 a2 b2 x2 K2) (k2:K2 ≤ 1000000000) (h3':IsR n3 a3 b3 x3 K3) (k3:K3 ≤ 1000000000) (h4':IsR n4 a4 b4 x4 K4) (k4:K4 ≤ 1000000000):CSpec Tryd.prog 80 #[ag [rr n1 a1 b1,rr n2 a2 b2,rr n3 a3 b3,rr n4 a4 b4]] (.bool (vb x1 x2 x3 x4)):=by
  unfold vb
  by_cases h:x1 ≤ x3
  · rw [decide_eq_true h,Bool.true_and]
    exact cbool (boxis2 h1' k1 h2' k2 h3' k3 h4' k4 (decide_eq_true (sub_ge.2 h))) (decide_eq_decide.2 sub_ge)
  rw [decide_eq_false h,Bool.false_and]
  exact boxis1 h1' k1 h2' k2 h3' k3 h4' k4 (decide_eq_false (fun g=>h (sub_ge.1 g)))
theorem common2_k {n1:Bool} {a1 b1:ByteArray} {x1:Rat} {K1:Nat}{n2:Bool} {a2 b2:ByteArray} {x2:Rat} {K2:Nat}{n3:Bool} {a3 b3:ByteArray} {x3:Rat} {K3:Nat}{n4:Bool} {a4 b4:ByteArray} {x4:Rat} {K4:Nat}{n5:Bool} {a5 b5:ByteArray} {x5:Rat} {K5:Nat}{n6:Bool} {a6 b6:ByteArray} {x6:Rat} {K6:Nat}{n7:Bool} {a7 b7:ByteArray} {x7:Rat} {K7:Nat}{n8:Bool} {a8 b8:ByteArray} {x8:Rat} {K8:Nat} (h1':IsR n1 a1 b1 x1 K1) (k1:K1 ≤ 100000000) (h2':IsR n2 a2 b2 x2 K2) (k2:K2 ≤ 100000000) (h3':IsR n3 a3 b3 x3 K3) (k3:K3 ≤ 100000000) (h4':IsR n4 a4 b4 x4 K4) (k4:K4 ≤ 100000000) (h5':IsR n5 a5 b5 x5 K5) (k5:K5 ≤ 100000000) (h6':IsR n6 a6 b6 x6 K6) (k6:K6 ≤ 100000000) (h7':IsR n7 a7 b7 x7 K7) (k7:K7 ≤ 100000000) (h8':IsR n8 a8 b8 x8 K8) (k8:K8 ≤ 100000000)  : CSpec Tryd.prog 81 #[(ag [rr n1 a1 b1,rr n2 a2 b2,rr n3 a3 b3,rr n4 a4 b4]),(ag [rr n5 a5 b5,rr n6 a6 b6,rr n7 a7 b7,rr n8 a8 b8])] (.bool (vb (mx x1 x5) (mx x2 x6) (mn x3 x7) (mn x4 x8))):=by
  have s0:=(mx_s (szr h1') (szr h5'))
  have s1:=(isR_s s0)
  have s2:=(mx_s (szr h2') (szr h6'))
  have s3:=(isR_s s2)
  have s4:=(mn_s (szr h3') (szr h7'))
  have s5:=(isR_s s4)
  have s6:=(mn_s (szr h4') (szr h8'))
  have s7:=(isR_s s6)
  exact fn_ok Tryd.func81 (sc:=[(1,6,.fix (Rv (mx x1 x5))),(1,13,.fix (Rv (mx x2 x6))),(2,6,.fix (Rv (mn x3 x7))),(2,13,.fix (Rv (mn x4 x8))),(3,3,.fix (.bool (vb (mx x1 x5) (mx x2 x6) (mn x3 x7) (mn x4 x8))))]) (sb:=[]) (by kernel_rfl) (hC (max_k h1' h5' (by omega)) (hC (max_k h2' h6' (by omega)) (hC (min_k h3' h7' (by omega)) (hC (min_k h4' h8' (by omega)) (hC (boxis_k s1 (by omega) s3 (by omega) s5 (by omega) s7 (by omega)) hN)))))
theorem boxes1 {n1:Bool} {a1 b1:ByteArray} {x1:Rat} {K1:Nat}{n2:Bool} {a2 b2:ByteArray} {x2:Rat} {K2:Nat}{n3:Bool} {a3 b3:ByteArray} {x3:Rat} {K3:Nat}{n4:Bool} {a4 b4:ByteArray} {x4:Rat} {K4:Nat}{n5:Bool} {a5 b5:ByteArray} {x5:Rat} {K5:Nat}{n6:Bool} {a6 b6:ByteArray} {x6:Rat} {K6:Nat}{n7:Bool} {a7 b7:ByteArray} {x7:Rat} {K7:Nat}{n8:Bool} {a8 b8:ByteArray} {x8:Rat} {K8:Nat} (h1':IsR n1 a1 b1 x1 K1) (k1:K1 ≤ 100000000) (h2':IsR n2 a2 b2 x2 K2) (k2:K2 ≤ 100000000) (h3':IsR n3 a3 b3 x3 K3) (k3:K3 ≤ 100000000) (h4':IsR n4 a4 b4 x4 K4) (k4:K4 ≤ 100000000) (h5':IsR n5 a5 b5 x5 K5) (k5:K5 ≤ 100000000) (h6':IsR n6 a6 b6 x6 K6) (k6:K6 ≤ 100000000) (h7':IsR n7 a7 b7 x7 K7) (k7:K7 ≤ 100000000) (h8':IsR n8 a8 b8 x8 K8) (k8:K8 ≤ 100000000) (h0:vb x1 x2 x3 x4 = false):CSpec Tryd.prog 79 #[(ag [rr n1 a1 b1,rr n2 a2 b2,rr n3 a3 b3,rr n4 a4 b4]),(ag [rr n5 a5 b5,rr n6 a6 b6,rr n7 a7 b7,rr n8 a8 b8])] (.bool false):=by
  exact fn_ok Tryd.func79 (sc:=[(1,1,.fix (.bool false))]) (sb:=[]) (by kernel_rfl) (hC (cbool (valid_k h1' (by omega) h2' (by omega) h3' (by omega) h4' (by omega)) h0) hN)
theorem boxes2 {n1:Bool} {a1 b1:ByteArray} {x1:Rat} {K1:Nat}{n2:Bool} {a2 b2:ByteArray} {x2:Rat} {K2:Nat}{n3:Bool} {a3 b3:ByteArray} {x3:Rat} {K3:Nat}{n4:Bool} {a4 b4:ByteArray} {x4:Rat} {K4:Nat}{n5:Bool} {a5 b5:ByteArray} {x5:Rat} {K5:Nat}{n6:Bool} {a6 b6:ByteArray} {x6:Rat} {K6:Nat}{n7:Bool} {a7 b7:ByteArray} {x7:Rat} {K7:Nat}{n8:Bool} {a8 b8:ByteArray} {x8:Rat} {K8:Nat} (h1':IsR n1 a1 b1 x1 K1) (k1:K1 ≤ 100000000) (h2':IsR n2 a2 b2 x2 K2) (k2:K2 ≤ 100000000) (h3':IsR n3 a3 b3 x3 K3) (k3:K3 ≤ 100000000) (h4':IsR n4 a4 b4 x4 K4) (k4:K4 ≤ 100000000) (h5':IsR n5 a5 b5 x5 K5) (k5:K5 ≤ 100000000) (h6':IsR n6 a6 b6 x6 K6) (k6:K6 ≤ 100000000) (h7':IsR n7 a7 b7 x7 K7) (k7:K7 ≤ 100000000) (h8':IsR n8 a8 b8 x8 K8) (k8:K8 ≤ 100000000) (h0:vb x1 x2 x3 x4 = true) (h1:vb x5 x6 x7 x8 = false):CSpec Tryd.prog 79 #[(ag [rr n1 a1 b1,rr n2 a2 b2,rr n3 a3 b3,rr n4 a4 b4]),(ag [rr n5 a5 b5,rr n6 a6 b6,rr n7 a7 b7,rr n8 a8 b8])] (.bool false):=by
  exact fn_ok Tryd.func79 (sc:=[(1,1,.fix (.bool true)),(1,4,.fix (.bool false))]) (sb:=[]) (by kernel_rfl) (hC (cbool (valid_k h1' (by omega) h2' (by omega) h3' (by omega) h4' (by omega)) h0) (hC (cbool (valid_k h5' (by omega) h6' (by omega) h7' (by omega) h8' (by omega)) h1) hN))
theorem boxes3 {n1:Bool} {a1 b1:ByteArray} {x1:Rat} {K1:Nat}{n2:Bool} {a2 b2:ByteArray} {x2:Rat} {K2:Nat}{n3:Bool} {a3 b3:ByteArray} {x3:Rat} {K3:Nat}{n4:Bool} {a4 b4:ByteArray} {x4:Rat} {K4:Nat}{n5:Bool} {a5 b5:ByteArray} {x5:Rat} {K5:Nat}{n6:Bool} {a6 b6:ByteArray} {x6:Rat} {K6:Nat}{n7:Bool} {a7 b7:ByteArray} {x7:Rat} {K7:Nat}{n8:Bool} {a8 b8:ByteArray} {x8:Rat} {K8:Nat} (h1':IsR n1 a1 b1 x1 K1) (k1:K1 ≤ 100000000) (h2':IsR n2 a2 b2 x2 K2) (k2:K2 ≤ 100000000) (h3':IsR n3 a3 b3 x3 K3) (k3:K3 ≤ 100000000) (h4':IsR n4 a4 b4 x4 K4) (k4:K4 ≤ 100000000) (h5':IsR n5 a5 b5 x5 K5) (k5:K5 ≤ 100000000) (h6':IsR n6 a6 b6 x6 K6) (k6:K6 ≤ 100000000) (h7':IsR n7 a7 b7 x7 K7) (k7:K7 ≤ 100000000) (h8':IsR n8 a8 b8 x8 K8) (k8:K8 ≤ 100000000) (h0:vb x1 x2 x3 x4 = true) (h1:vb x5 x6 x7 x8 = true) (h2:decide (cmpR x1 x7 ≤ (0:Int)) = false):CSpec Tryd.prog 79 #[(ag [rr n1 a1 b1,rr n2 a2 b2,rr n3 a3 b3,rr n4 a4 b4]),(ag [rr n5 a5 b5,rr n6 a6 b6,rr n7 a7 b7,rr n8 a8 b8])] (.bool false):=by
  exact fn_ok Tryd.func79 (sc:=[(1,1,.fix (.bool true)),(1,4,.fix (.bool true)),(1,13,.fix (.int IntKind.i64 (cmpR x1 x7))),(1,14,.is (.c (.bool false)))]) (sb:=[]) (by kernel_rfl) (hC (cbool (valid_k h1' (by omega) h2' (by omega) h3' (by omega) h4' (by omega)) h0) (hC (cbool (valid_k h5' (by omega) h6' (by omega) h7' (by omega) h8' (by omega)) h1) (hC (cmp_k h1' h7' (by omega)) (hP (isB h2) hN))))
theorem boxes4 {n1:Bool} {a1 b1:ByteArray} {x1:Rat} {K1:Nat}{n2:Bool} {a2 b2:ByteArray} {x2:Rat} {K2:Nat}{n3:Bool} {a3 b3:ByteArray} {x3:Rat} {K3:Nat}{n4:Bool} {a4 b4:ByteArray} {x4:Rat} {K4:Nat}{n5:Bool} {a5 b5:ByteArray} {x5:Rat} {K5:Nat}{n6:Bool} {a6 b6:ByteArray} {x6:Rat} {K6:Nat}{n7:Bool} {a7 b7:ByteArray} {x7:Rat} {K7:Nat}{n8:Bool} {a8 b8:ByteArray} {x8:Rat} {K8:Nat} (h1':IsR n1 a1 b1 x1 K1) (k1:K1 ≤ 100000000) (h2':IsR n2 a2 b2 x2 K2) (k2:K2 ≤ 100000000) (h3':IsR n3 a3 b3 x3 K3) (k3:K3 ≤ 100000000) (h4':IsR n4 a4 b4 x4 K4) (k4:K4 ≤ 100000000) (h5':IsR n5 a5 b5 x5 K5) (k5:K5 ≤ 100000000) (h6':IsR n6 a6 b6 x6 K6) (k6:K6 ≤ 100000000) (h7':IsR n7 a7 b7 x7 K7) (k7:K7 ≤ 100000000) (h8':IsR n8 a8 b8 x8 K8) (k8:K8 ≤ 100000000) (h0:vb x1 x2 x3 x4 = true) (h1:vb x5 x6 x7 x8 = true) (h2:decide (cmpR x1 x7 ≤ (0:Int)) = true) (h3:decide (cmpR x5 x3 ≤ (0:Int)) = false):CSpec Tryd.prog 79 #[(ag [rr n1 a1 b1,rr n2 a2 b2,rr n3 a3 b3,rr n4 a4 b4]),(ag [rr n5 a5 b5,rr n6 a6 b6,rr n7 a7 b7,rr n8 a8 b8])] (.bool false):=by
  exact fn_ok Tryd.func79 (sc:=[(1,1,.fix (.bool true)),(1,4,.fix (.bool true)),(1,13,.fix (.int IntKind.i64 (cmpR x1 x7))),(1,14,.is (.c (.bool true))),(1,23,.fix (.int IntKind.i64 (cmpR x5 x3))),(1,24,.is (.c (.bool false)))]) (sb:=[]) (by kernel_rfl) (hC (cbool (valid_k h1' (by omega) h2' (by omega) h3' (by omega) h4' (by omega)) h0) (hC (cbool (valid_k h5' (by omega) h6' (by omega) h7' (by omega) h8' (by omega)) h1) (hC (cmp_k h1' h7' (by omega)) (hP (isB h2) (hC (cmp_k h5' h3' (by omega)) (hP (isB h3) hN))))))
theorem boxes5 {n1:Bool} {a1 b1:ByteArray} {x1:Rat} {K1:Nat}{n2:Bool} {a2 b2:ByteArray} {x2:Rat} {K2:Nat}{n3:Bool} {a3 b3:ByteArray} {x3:Rat} {K3:Nat}{n4:Bool} {a4 b4:ByteArray} {x4:Rat} {K4:Nat}{n5:Bool} {a5 b5:ByteArray} {x5:Rat} {K5:Nat}{n6:Bool} {a6 b6:ByteArray} {x6:Rat} {K6:Nat}{n7:Bool} {a7 b7:ByteArray} {x7:Rat} {K7:Nat}{n8:Bool} {a8 b8:ByteArray} {x8:Rat} {K8:Nat} (h1':IsR n1 a1 b1 x1 K1) (k1:K1 ≤ 100000000) (h2':IsR n2 a2 b2 x2 K2) (k2:K2 ≤ 100000000) (h3':IsR n3 a3 b3 x3 K3) (k3:K3 ≤ 100000000) (h4':IsR n4 a4 b4 x4 K4) (k4:K4 ≤ 100000000) (h5':IsR n5 a5 b5 x5 K5) (k5:K5 ≤ 100000000) (h6':IsR n6 a6 b6 x6 K6) (k6:K6 ≤ 100000000) (h7':IsR n7 a7 b7 x7 K7) (k7:K7 ≤ 100000000) (h8':IsR n8 a8 b8 x8 K8) (k8:K8 ≤ 100000000) (h0:vb x1 x2 x3 x4 = true) (h1:vb x5 x6 x7 x8 = true) (h2:decide (cmpR x1 x7 ≤ (0:Int)) = true) (h3:decide (cmpR x5 x3 ≤ (0:Int)) = true) (h4:decide (cmpR x2 x8 ≤ (0:Int)) = false):CSpec Tryd.prog 79 #[(ag [rr n1 a1 b1,rr n2 a2 b2,rr n3 a3 b3,rr n4 a4 b4]),(ag [rr n5 a5 b5,rr n6 a6 b6,rr n7 a7 b7,rr n8 a8 b8])] (.bool false):=by
  exact fn_ok Tryd.func79 (sc:=[(1,1,.fix (.bool true)),(1,4,.fix (.bool true)),(1,13,.fix (.int IntKind.i64 (cmpR x1 x7))),(1,14,.is (.c (.bool true))),(1,23,.fix (.int IntKind.i64 (cmpR x5 x3))),(1,24,.is (.c (.bool true))),(1,33,.fix (.int IntKind.i64 (cmpR x2 x8))),(1,34,.is (.c (.bool false)))]) (sb:=[]) (by kernel_rfl) (hC (cbool (valid_k h1' (by omega) h2' (by omega) h3' (by omega) h4' (by omega)) h0) (hC (cbool (valid_k h5' (by omega) h6' (by omega) h7' (by omega) h8' (by omega)) h1) (hC (cmp_k h1' h7' (by omega)) (hP (isB h2) (hC (cmp_k h5' h3' (by omega)) (hP (isB h3) (hC (cmp_k h2' h8' (by omega)) (hP (isB h4) hN))))))))
theorem boxes6 {n1:Bool} {a1 b1:ByteArray} {x1:Rat} {K1:Nat}{n2:Bool} {a2 b2:ByteArray} {x2:Rat} {K2:Nat}{n3:Bool} {a3 b3:ByteArray} {x3:Rat} {K3:Nat}{n4:Bool} {a4 b4:ByteArray} {x4:Rat} {K4:Nat}{n5:Bool} {a5 b5:ByteArray} {x5:Rat} {K5:Nat}{n6:Bool} {a6 b6:ByteArray} {x6:Rat} {K6:Nat}{n7:Bool} {a7 b7:ByteArray} {x7:Rat} {K7:Nat}{n8:Bool} {a8 b8:ByteArray} {x8:Rat} {K8:Nat} (h1':IsR n1 a1 b1 x1 K1) (k1:K1 ≤ 100000000) (h2':IsR n2 a2 b2 x2 K2) (k2:K2 ≤ 100000000) (h3':IsR n3 a3 b3 x3 K3) (k3:K3 ≤ 100000000) (h4':IsR n4 a4 b4 x4 K4) (k4:K4 ≤ 100000000) (h5':IsR n5 a5 b5 x5 K5) (k5:K5 ≤ 100000000) (h6':IsR n6 a6 b6 x6 K6) (k6:K6 ≤ 100000000) (h7':IsR n7 a7 b7 x7 K7) (k7:K7 ≤ 100000000) (h8':IsR n8 a8 b8 x8 K8) (k8:K8 ≤ 100000000) (h0:vb x1 x2 x3 x4 = true) (h1:vb x5 x6 x7 x8 = true) (h2:decide (cmpR x1 x7 ≤ (0:Int)) = true) (h3:decide (cmpR x5 x3 ≤ (0:Int)) = true) (h4:decide (cmpR x2 x8 ≤ (0:Int)) = true):CSpec Tryd.prog 79 #[(ag [rr n1 a1 b1,rr n2 a2 b2,rr n3 a3 b3,rr n4 a4 b4]),(ag [rr n5 a5 b5,rr n6 a6 b6,rr n7 a7 b7,rr n8 a8 b8])] (.bool (decide (cmpR x6 x4 ≤ (0:Int)))):=by
  exact fn_ok Tryd.func79 (sc:=[(1,1,.fix (.bool true)),(1,4,.fix (.bool true)),(1,13,.fix (.int IntKind.i64 (cmpR x1 x7))),(1,14,.is (.c (.bool true))),(1,23,.fix (.int IntKind.i64 (cmpR x5 x3))),(1,24,.is (.c (.bool true))),(1,33,.fix (.int IntKind.i64 (cmpR x2 x8))),(1,34,.is (.c (.bool true))),(1,43,.fix (.int IntKind.i64 (cmpR x6 x4)))]) (sb:=[]) (by kernel_rfl) (hC (cbool (valid_k h1' (by omega) h2' (by omega) h3' (by omega) h4' (by omega)) h0) (hC (cbool (valid_k h5' (by omega) h6' (by omega) h7' (by omega) h8' (by omega)) h1) (hC (cmp_k h1' h7' (by omega)) (hP (isB h2) (hC (cmp_k h5' h3' (by omega)) (hP (isB h3) (hC (cmp_k h2' h8' (by omega)) (hP (isB h4) (hC (cmp_k h6' h4' (by omega)) hN)))))))))
def cb (x1 x2 x3 x4 x5 x6 x7 x8:Rat):Bool:=decide (x1 ≤ x7) && (decide (x5 ≤ x3) && (decide (x2 ≤ x8) && decide (x6 ≤ x4)))
theorem boxes_k {n1:Bool} {a1 b1:ByteArray} {x1:Rat} {K1:Nat}{n2:Bool} {a2 b2:ByteArray} {x2:Rat} {K2:Nat}{n3:Bool} {a3 b3:ByteArray} {x3:Rat} {K3:Nat}{n4:Bool} {a4 b4:ByteArray} {x4:Rat} {K4:Nat}{n5:Bool} {a5 b5:ByteArray} {x5:Rat} {K5:Nat}{n6:Bool} {a6 b6:ByteArray} {x6:Rat} {K6:Nat}{n7:Bool} {a7 b7:ByteArray} {x7:Rat} {K7:Nat}{n8:Bool} {a8 b8:ByteArray} {x8:Rat} {K8:Nat} (h1':IsR n1 a1 b1 x1 K1) (k1:K1 ≤ 100000000) (h2':IsR n2 a2 b2 x2 K2) (k2:K2 ≤ 100000000) (h3':IsR n3 a3 b3 x3 K3) (k3:K3 ≤ 100000000) (h4':IsR n4 a4 b4 x4 K4) (k4:K4 ≤ 100000000) (h5':IsR n5 a5 b5 x5 K5) (k5:K5 ≤ 100000000) (h6':IsR n6 a6 b6 x6 K6) (k6:K6 ≤ 100000000) (h7':IsR n7 a7 b7 x7 K7) (k7:K7 ≤ 100000000) (h8':IsR n8 a8 b8 x8 K8) (k8:K8 ≤ 100000000):CSpec Tryd.prog 79 #[ag [rr n1 a1 b1,rr n2 a2 b2,rr n3 a3 b3,rr n4 a4 b4],ag [rr n5 a5 b5,rr n6 a6 b6,rr n7 a7 b7,rr n8 a8 b8]] (.bool (vb x1 x2 x3 x4 && (vb x5 x6 x7 x8 && cb x1 x2 x3 x4 x5 x6 x7 x8))):=by
  unfold cb
  cases v1:vb x1 x2 x3 x4 with
  | false=>exact boxes1 h1' k1 h2' k2 h3' k3 h4' k4 h5' k5 h6' k6 h7' k7 h8' k8 v1
  | true =>
    cases v2:vb x5 x6 x7 x8 with
    | false=>exact boxes2 h1' k1 h2' k2 h3' k3 h4' k4 h5' k5 h6' k6 h7' k7 h8' k8 v1 v2
    | true =>
      simp only [Bool.true_and]
      by_cases h1:x1 ≤ x7
      case neg=>rw [decide_eq_false h1,Bool.false_and]; exact boxes3 h1' k1 h2' k2 h3' k3 h4' k4 h5' k5 h6' k6 h7' k7 h8' k8 v1 v2 (decide_eq_false (fun g=>h1 (cmpR_le.1 g)))
      by_cases h2:x5 ≤ x3
      case neg=>rw [decide_eq_false h2,Bool.false_and,Bool.and_false]; exact boxes4 h1' k1 h2' k2 h3' k3 h4' k4 h5' k5 h6' k6 h7' k7 h8' k8 v1 v2 (decide_eq_true (cmpR_le.2 h1)) (decide_eq_false (fun g=>h2 (cmpR_le.1 g)))
      by_cases h3:x2 ≤ x8
      case neg=>rw [decide_eq_false h3,Bool.false_and,Bool.and_false,Bool.and_false]; exact boxes5 h1' k1 h2' k2 h3' k3 h4' k4 h5' k5 h6' k6 h7' k7 h8' k8 v1 v2 (decide_eq_true (cmpR_le.2 h1)) (decide_eq_true (cmpR_le.2 h2)) (decide_eq_false (fun g=>h3 (cmpR_le.1 g)))
      rw [decide_eq_true h1,decide_eq_true h2,decide_eq_true h3,Bool.true_and,Bool.true_and,Bool.true_and]
      exact cbool (boxes6 h1' k1 h2' k2 h3' k3 h4' k4 h5' k5 h6' k6 h7' k7 h8' k8 v1 v2 (decide_eq_true (cmpR_le.2 h1)) (decide_eq_true (cmpR_le.2 h2)) (decide_eq_true (cmpR_le.2 h3))) (decide_eq_decide.2 cmpR_le)
noncomputable def apartBoxes_w_sc (n1:Bool) (a1 b1:ByteArray) (x1:Rat) (K1:Nat) (n2:Bool) (a2 b2:ByteArray) (x2:Rat) (K2:Nat) (n3:Bool) (a3 b3:ByteArray) (x3:Rat) (K3:Nat) (n4:Bool) (a4 b4:ByteArray) (x4:Rat) (K4:Nat) (n5:Bool) (a5 b5:ByteArray) (x5:Rat) (K5:Nat) (n6:Bool) (a6 b6:ByteArray) (x6:Rat) (K6:Nat) (n7:Bool) (a7 b7:ByteArray) (x7:Rat) (K7:Nat) (n8:Bool) (a8 b8:ByteArray) (x8:Rat) (K8:Nat):Script:=[(1,0,.fix (.bool true)),(1,4,.fix (.bool (vb x1 x2 x3 x4 && (vb x5 x6 x7 x8 && cb x1 x2 x3 x4 x5 x6 x7 x8)))),(1,16,.is (.c (.bool true))),(1,14,.fix (.bool (vb (mx x1 x5) (mx x2 x6) (mn x3 x7) (mn x4 x8))))]
theorem apartBoxes_w {n1:Bool} {a1 b1:ByteArray} {x1:Rat} {K1:Nat}{n2:Bool} {a2 b2:ByteArray} {x2:Rat} {K2:Nat}{n3:Bool} {a3 b3:ByteArray} {x3:Rat} {K3:Nat}{n4:Bool} {a4 b4:ByteArray} {x4:Rat} {K4:Nat}{n5:Bool} {a5 b5:ByteArray} {x5:Rat} {K5:Nat}{n6:Bool} {a6 b6:ByteArray} {x6:Rat} {K6:Nat}{n7:Bool} {a7 b7:ByteArray} {x7:Rat} {K7:Nat}{n8:Bool} {a8 b8:ByteArray} {x8:Rat} {K8:Nat} (h1':IsR n1 a1 b1 x1 K1) (k1:K1 ≤ 100000000) (h2':IsR n2 a2 b2 x2 K2) (k2:K2 ≤ 100000000) (h3':IsR n3 a3 b3 x3 K3) (k3:K3 ≤ 100000000) (h4':IsR n4 a4 b4 x4 K4) (k4:K4 ≤ 100000000) (h5':IsR n5 a5 b5 x5 K5) (k5:K5 ≤ 100000000) (h6':IsR n6 a6 b6 x6 K6) (k6:K6 ≤ 100000000) (h7':IsR n7 a7 b7 x7 K7) (k7:K7 ≤ 100000000) (h8':IsR n8 a8 b8 x8 K8) (k8:K8 ≤ 100000000)  : ((vb x1 x2 x3 x4 = false) → (((vb x1 x2 x3 x4 && (vb x5 x6 x7 x8 && cb x1 x2 x3 x4 x5 x6 x7 x8)) == false) = true) → CSpec Tryd.prog 10 #[(ag [rr n1 a1 b1,rr n2 a2 b2,rr n3 a3 b3,rr n4 a4 b4]),(ag [rr n5 a5 b5,rr n6 a6 b6,rr n7 a7 b7,rr n8 a8 b8])] (.bool true)) ∧ ((vb x1 x2 x3 x4 = true) → (vb x5 x6 x7 x8 = false) → (((vb x1 x2 x3 x4 && (vb x5 x6 x7 x8 && cb x1 x2 x3 x4 x5 x6 x7 x8)) == false) = true) → CSpec Tryd.prog 10 #[(ag [rr n1 a1 b1,rr n2 a2 b2,rr n3 a3 b3,rr n4 a4 b4]),(ag [rr n5 a5 b5,rr n6 a6 b6,rr n7 a7 b7,rr n8 a8 b8])] (.bool true)) ∧ ((vb x1 x2 x3 x4 = true) → (vb x5 x6 x7 x8 = true) → (((vb x1 x2 x3 x4 && (vb x5 x6 x7 x8 && cb x1 x2 x3 x4 x5 x6 x7 x8)) == vb (mx x1 x5) (mx x2 x6) (mn x3 x7) (mn x4 x8)) = true) → CSpec Tryd.prog 10 #[(ag [rr n1 a1 b1,rr n2 a2 b2,rr n3 a3 b3,rr n4 a4 b4]),(ag [rr n5 a5 b5,rr n6 a6 b6,rr n7 a7 b7,rr n8 a8 b8])] (.bool true)):=by
  refine ⟨?_,?_,?_⟩
  · intro g0 g1
    exact fn_ok Tryd.func10 (sc:=[(1,6,.fix (.bool false))] ++ apartBoxes_w_sc n1 a1 b1 x1 K1 n2 a2 b2 x2 K2 n3 a3 b3 x3 K3 n4 a4 b4 x4 K4 n5 a5 b5 x5 K5 n6 a6 b6 x6 K6 n7 a7 b7 x7 K7 n8 a8 b8 x8 K8) (sb:=[]) (by kernel_rfl) (hC apartBegun_k (hC (boxes_k h1' k1 h2' k2 h3' k3 h4' k4 h5' k5 h6' k6 h7' k7 h8' k8) (hC (cbool (boxis_k h1' (by omega) h2' (by omega) h3' (by omega) h4' (by omega)) g0) (hP (isB g1) hN))))
  · intro g2 g3 g1
    exact fn_ok Tryd.func10 (sc:=[(1,6,.fix (.bool true)),(1,9,.fix (.bool false))] ++ apartBoxes_w_sc n1 a1 b1 x1 K1 n2 a2 b2 x2 K2 n3 a3 b3 x3 K3 n4 a4 b4 x4 K4 n5 a5 b5 x5 K5 n6 a6 b6 x6 K6 n7 a7 b7 x7 K7 n8 a8 b8 x8 K8) (sb:=[]) (by kernel_rfl) (hC apartBegun_k (hC (boxes_k h1' k1 h2' k2 h3' k3 h4' k4 h5' k5 h6' k6 h7' k7 h8' k8) (hC (cbool (boxis_k h1' (by omega) h2' (by omega) h3' (by omega) h4' (by omega)) g2) (hC (cbool (boxis_k h5' (by omega) h6' (by omega) h7' (by omega) h8' (by omega)) g3) (hP (isB g1) hN)))))
  intro g2 g4 g5
  exact fn_ok Tryd.func10 (sc:=[(1,6,.fix (.bool true)),(1,9,.fix (.bool true))] ++ apartBoxes_w_sc n1 a1 b1 x1 K1 n2 a2 b2 x2 K2 n3 a3 b3 x3 K3 n4 a4 b4 x4 K4 n5 a5 b5 x5 K5 n6 a6 b6 x6 K6 n7 a7 b7 x7 K7 n8 a8 b8 x8 K8) (sb:=[]) (by kernel_rfl) (hC apartBegun_k (hC (boxes_k h1' k1 h2' k2 h3' k3 h4' k4 h5' k5 h6' k6 h7' k7 h8' k8) (hC (cbool (boxis_k h1' (by omega) h2' (by omega) h3' (by omega) h4' (by omega)) g2) (hC (cbool (boxis_k h5' (by omega) h6' (by omega) h7' (by omega) h8' (by omega)) g4) (hC (common2_k h1' k1 h2' k2 h3' k3 h4' k4 h5' k5 h6' k6 h7' k7 h8' k8) (hP (isB g5) hN))))))
theorem vb_common {x1 x2 x3 x4 x5 x6 x7 x8:Rat} (h1:vb x1 x2 x3 x4 = true) (h2:vb x5 x6 x7 x8 = true):cb x1 x2 x3 x4 x5 x6 x7 x8 = vb (mx x1 x5) (mx x2 x6) (mn x3 x7) (mn x4 x8):=by
  unfold vb at *
  unfold cb
  simp only [Bool.and_eq_true,decide_eq_true_eq] at h1 h2
  obtain ⟨h1,h3⟩:=h1
  obtain ⟨h2,h4⟩:=h2
  have e1:mx x1 x5 ≤ mn x3 x7 ↔ x1 ≤ x7 ∧ x5 ≤ x3:=by unfold mx mn; constructor <;> intro h <;> grind
  have e2:mx x2 x6 ≤ mn x4 x8 ↔ x2 ≤ x8 ∧ x6 ≤ x4:=by unfold mx mn; constructor <;> intro h <;> grind
  rw [Bool.eq_iff_iff]
  simp only [Bool.and_eq_true,decide_eq_true_eq,e1,e2]
  exact ⟨fun ⟨a,b,c,d⟩=>⟨⟨a,b⟩,c,d⟩,fun ⟨⟨a,b⟩,c,d⟩=>⟨a,b,c,d⟩⟩
theorem apartBoxes_law (n1:Bool) (a1 b1:ByteArray) (n2:Bool) (a2 b2:ByteArray) (n3:Bool) (a3 b3:ByteArray) (n4:Bool) (a4 b4:ByteArray) (n5:Bool) (a5 b5:ByteArray) (n6:Bool) (a6 b6:ByteArray) (n7:Bool) (a7 b7:ByteArray) (n8:Bool) (a8 b8:ByteArray) (s1:a1.size ≤ 1048576) (t1:b1.size ≤ 1048576) (s2:a2.size ≤ 1048576) (t2:b2.size ≤ 1048576) (s3:a3.size ≤ 1048576) (t3:b3.size ≤ 1048576) (s4:a4.size ≤ 1048576) (t4:b4.size ≤ 1048576) (s5:a5.size ≤ 1048576) (t5:b5.size ≤ 1048576) (s6:a6.size ≤ 1048576) (t6:b6.size ≤ 1048576) (s7:a7.size ≤ 1048576) (t7:b7.size ≤ 1048576) (s8:a8.size ≤ 1048576) (t8:b8.size ≤ 1048576):CSpec Tryd.prog 10 #[ag [rr n1 a1 b1,rr n2 a2 b2,rr n3 a3 b3,rr n4 a4 b4],ag [rr n5 a5 b5,rr n6 a6 b6,rr n7 a7 b7,rr n8 a8 b8]] (.bool true):=by
  obtain ⟨c0,c1,c2⟩:=apartBoxes_w (IsR.raw n1 a1 b1 s1 t1 (by decide)) (by decide) (IsR.raw n2 a2 b2 s2 t2 (by decide)) (by decide) (IsR.raw n3 a3 b3 s3 t3 (by decide)) (by decide) (IsR.raw n4 a4 b4 s4 t4 (by decide)) (by decide) (IsR.raw n5 a5 b5 s5 t5 (by decide)) (by decide) (IsR.raw n6 a6 b6 s6 t6 (by decide)) (by decide) (IsR.raw n7 a7 b7 s7 t7 (by decide)) (by decide) (IsR.raw n8 a8 b8 s8 t8 (by decide)) (by decide)
  cases h1:vb (qv n1 a1 b1) (qv n2 a2 b2) (qv n3 a3 b3) (qv n4 a4 b4) with
  | false=>exact c0 h1 (by rw [h1]; rfl)
  | true =>
    cases h2:vb (qv n5 a5 b5) (qv n6 a6 b6) (qv n7 a7 b7) (qv n8 a8 b8) with
    | false=>exact c1 h1 h2 (by rw [h1,h2]; rfl)
    | true=>exact c2 h1 h2 (by rw [h1,h2,vb_common h1 h2]; simp)
end Go.Proofs.YtikepohhmagdpaaDoor.G
end
