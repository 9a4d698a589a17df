import Derived.Test.YtmkgijiniopalaaDoorYL0
import Derived.Test.YtmkgijiniopalaaDoorYA2
namespace Go.Proofs.YtmkgijiniopalaaDoor.L
open Go.RowKit Go.Proofs.YtmkgijiniopalaaDoor.Z Go.Proofs.YtmkgijiniopalaaDoor.A Go.Proofs.YtmkgijiniopalaaDoor.H Go.Proofs.YtmkgijiniopalaaDoorW.PrintWords Go.Proofs.YtmkgijiniopalaaDoorW.PrintLast Go.Proofs.YtmkgijiniopalaaDoorW.PrintMore
attribute [local go_sem] max2_int min2_int max_two min_two max_three min_three max_four min_four
set_option linter.unusedVariables false
set_option linter.unusedSimpArgs false
set_option maxHeartbeats 8000000
set_option maxRecDepth 100000
mutual
def nat_long.l0:Nat→List Int→Int→Int→List Int→List Int→Int→Option (List Int × List Int)
 | 0,_,_,_,_,_,_=>none
 | k+1,x4,x6,x7,x8,x9,x10=>if x10≥0 then (if 0≤(wrap64 (x10+x7)) then (if (wrap64 (x10+x7)) < (x8.length:Int) then (if 0≤(wrap64 ((wrap64 (x10+x7)) - 1)) then (if (wrap64 ((wrap64 (x10+x7)) - 1)) < (x8.length:Int) then (if 0≤(wrap64 (x7 - 1)) then (if (wrap64 (x7 - 1)) < (x9.length:Int) then (if (IntKind.u64.wrap (rd x9 (wrap64 (x7 - 1))))=0 then (none) else (nat_long.l1 k x4 x6 x7 x8 x9 x10 (IntKind.u64.wrap (Int.tdiv (Go.bits .or .u64 (IntKind.u64.wrap ((IntKind.u64.wrap (rd x8 (wrap64 (x10+x7))))*4294967296)) (IntKind.u64.wrap (rd x8 (wrap64 ((wrap64 (x10+x7)) - 1))))) (IntKind.u64.wrap (rd x9 (wrap64 (x7 - 1)))))) (Int.tmod (Go.bits .or .u64 (IntKind.u64.wrap ((IntKind.u64.wrap (rd x8 (wrap64 (x10+x7))))*4294967296)) (IntKind.u64.wrap (rd x8 (wrap64 ((wrap64 (x10+x7)) - 1))))) (IntKind.u64.wrap (rd x9 (wrap64 (x7 - 1))))))) else (none)) else (none)) else (none)) else (none)) else (none)) else (none)) else (nat_long.l2 k x4 x6 x7 x8 x7 0)
def nat_long.j3:Nat→List Int→Int→Int→List Int→List Int→Int→Int→Option (List Int × List Int)
 | 0,_,_,_,_,_,_,_=>none
 | k+1,x4,x6,x7,x8,x9,x10,x12=>(nat_takeAwayAt.f x8 x9 x12 x10 x7).bind fun bt126=>(if bt126.1=true then ((nat_putBackAt.f bt126.2 x9 x10 x7).bind fun t128=>(if 0≤x10 then (if x10 < (x4.length:Int) then (nat_long.l0 k (x4.set (x10:Int).toNat ((IntKind.u64.wrap (x12 - 1))%4294967296)) x6 x7 t128 x9 (wrap64 (x10 - 1))) else (none)) else (none))) else (if 0≤x10 then (if x10 < (x4.length:Int) then (nat_long.l0 k (x4.set (x10:Int).toNat ((x12)%4294967296)) x6 x7 bt126.2 x9 (wrap64 (x10 - 1))) else (none)) else (none)))
def nat_long.l1:Nat→List Int→Int→Int→List Int→List Int→Int→Int→Int→Option (List Int × List Int)
 | 0,_,_,_,_,_,_,_,_=>none
 | k+1,x4,x6,x7,x8,x9,x10,x12,x13=>if (x12/4294967296) > 0 then (nat_long.j2 k x4 x6 x7 x8 x9 x10 x12 x13 true) else (if 0≤(wrap64 (x7 - 2)) then (if (wrap64 (x7 - 2)) < (x9.length:Int) then (if 0≤(wrap64 ((wrap64 (x10+x7)) - 2)) then (if (wrap64 ((wrap64 (x10+x7)) - 2)) < (x8.length:Int) then (nat_long.j2 k x4 x6 x7 x8 x9 x10 x12 x13 (decide ((IntKind.u64.wrap (x12*(IntKind.u64.wrap (rd x9 (wrap64 (x7 - 2)))))) > (Go.bits .or .u64 (IntKind.u64.wrap (x13*4294967296)) (IntKind.u64.wrap (rd x8 (wrap64 ((wrap64 (x10+x7)) - 2)))))))) else (none)) else (none)) else (none)) else (none))
def nat_long.j2:Nat→List Int→Int→Int→List Int→List Int→Int→Int→Int→Bool→Option (List Int × List Int)
 | 0,_,_,_,_,_,_,_,_,_=>none
 | k+1,x4,x6,x7,x8,x9,x10,x12,x13,x101=>if x101=true then (if 0≤(wrap64 (x7 - 1)) then (if (wrap64 (x7 - 1)) < (x9.length:Int) then (if ((IntKind.u64.wrap (x13+(IntKind.u64.wrap (rd x9 (wrap64 (x7 - 1))))))/4294967296) > 0 then (nat_long.j3 k x4 x6 x7 x8 x9 x10 (IntKind.u64.wrap (x12 - 1))) else (nat_long.l1 k x4 x6 x7 x8 x9 x10 (IntKind.u64.wrap (x12 - 1)) (IntKind.u64.wrap (x13+(IntKind.u64.wrap (rd x9 (wrap64 (x7 - 1)))))))) else (none)) else (none)) else (nat_long.j3 k x4 x6 x7 x8 x9 x10 x12)
def nat_long.l2:Nat→List Int→Int→Int→List Int→Int→Int→Option (List Int × List Int)
 | 0,_,_,_,_,_,_=>none
 | k+1,x4,x6,x7,x8,x145,x146=>if x146 < x145 then (if 0≤x146 then (if x146 < (x8.length:Int) then (if 0≤x6 then ((some (x8.set (x146:Int).toNat (shr .u32 (rd x8 x146) x6):List Int)).bind fun y132=>(if (wrap64 (x146+1)) < x7 then (if 0≤(wrap64 (x146+1)) then (if (wrap64 (x146+1)) < (x8.length:Int) then (if 0≤(wrap64 (32 - x6)) then (nat_long.l2 k x4 x6 x7 (y132.set (x146:Int).toNat (Go.bits .or .u32 (rd y132 x146) ((shl .u64 (IntKind.u64.wrap (rd y132 (wrap64 (x146+1)))) (wrap64 (32 - x6)))%4294967296))) x145 (wrap64 (x146+1))) else (none)) else (none)) else (none)) else (nat_long.l2 k x4 x6 x7 y132 x145 (wrap64 (x146+1))))) else (none)) else (none)) else (none)) else (some (x4,x8))
end
def nat_long.f (k:Nat) (l0:List Int) (l1:List Int):Option (List Int × List Int):=if 0≤(wrap64 ((l1.length:Int) - 1)) then (if (wrap64 ((l1.length:Int) - 1)) < (l1.length:Int) then ((bits_LeadingZeros32.f (rd l1 (wrap64 ((l1.length:Int) - 1)))).bind fun t109=>((nat_left.f k l0 t109).bind fun t110=>((nat_left.f k l1 t109).bind fun t113=>(if 0≤(wrap64 ((t110.length:Int) - (l1.length:Int))) then (if (wrap64 ((t110.length:Int) - (l1.length:Int)):Int).toNat≤70368744177664 then ((some (List.replicate (wrap64 ((t110.length:Int) - (l1.length:Int)):Int).toNat 0:List Int)).bind fun y116=>(nat_long.l0 k y116 t109 (l1.length:Int) t110 t113 (wrap64 ((y116.length:Int) - 1)))) else (none)) else (none))))) else (none)) else (none)
theorem nat_long.mono_l:∀ k,(∀ y0 y1 y2 y3 y4 y5,LeO (nat_long.l0 k y0 y1 y2 y3 y4 y5) (nat_long.l0 (k+1) y0 y1 y2 y3 y4 y5))∧(∀ y0 y1 y2 y3 y4 y5 y6,LeO (nat_long.j3 k y0 y1 y2 y3 y4 y5 y6) (nat_long.j3 (k+1) y0 y1 y2 y3 y4 y5 y6))∧(∀ y0 y1 y2 y3 y4 y5 y6 y7,LeO (nat_long.l1 k y0 y1 y2 y3 y4 y5 y6 y7) (nat_long.l1 (k+1) y0 y1 y2 y3 y4 y5 y6 y7))∧(∀ y0 y1 y2 y3 y4 y5 y6 y7 y8,LeO (nat_long.j2 k y0 y1 y2 y3 y4 y5 y6 y7 y8) (nat_long.j2 (k+1) y0 y1 y2 y3 y4 y5 y6 y7 y8))∧(∀ y0 y1 y2 y3 y4 y5,LeO (nat_long.l2 k y0 y1 y2 y3 y4 y5) (nat_long.l2 (k+1) y0 y1 y2 y3 y4 y5))
 | 0=>⟨fun _ _ _ _ _ _ r h=>by simp [nat_long.l0] at h,fun _ _ _ _ _ _ _ r h=>by simp [nat_long.j3] at h,fun _ _ _ _ _ _ _ _ r h=>by simp [nat_long.l1] at h,fun _ _ _ _ _ _ _ _ _ r h=>by simp [nat_long.j2] at h,fun _ _ _ _ _ _ r h=>by simp [nat_long.l2] at h⟩
 | k+1=>by
  obtain ⟨ih0,ih1,ih2,ih3,ih4⟩:=nat_long.mono_l k
  refine ⟨?_,?_,?_,?_,?_⟩
  ·intro y0 y1 y2 y3 y4 y5
   unfold nat_long.l0
   have m0:=@nat_left.mono
   exact zM
  ·intro y0 y1 y2 y3 y4 y5 y6
   unfold nat_long.j3
   have m0:=@nat_left.mono
   exact zM
  ·intro y0 y1 y2 y3 y4 y5 y6 y7
   unfold nat_long.l1
   have m0:=@nat_left.mono
   exact zM
  ·intro y0 y1 y2 y3 y4 y5 y6 y7 y8
   unfold nat_long.j2
   have m0:=@nat_left.mono
   exact zM
  intro y0 y1 y2 y3 y4 y5
  unfold nat_long.l2
  have m0:=@nat_left.mono
  exact zM
theorem nat_long.mono:∀ a0 a1 k,LeO (nat_long.f k a0 a1) (nat_long.f (k+1) a0 a1):=by
 intro a0 a1 k
 obtain ⟨ih0,ih1,ih2,ih3,ih4⟩:=nat_long.mono_l k
 unfold nat_long.f
 have m0:=@nat_left.mono
 exact zM
def nat_long.T3:Bool × List (List Nat × List Nat):=(true,[([],[]),([],[]),([0,1],[0,1]),([],[]),([],[]),([3,4,2],[3,4]),([],[]),([5,6],[5,6]),([2,5,0,1,2],[2]),([7,8,0,1,2,3,4,5,6,7,8],[7])])
def nat_long.B3:List Nat:=[0,0,3,0,0,31,0,127,63,511]
theorem nat_long.tab3:rtab .any (opsOf Tryd.f83 3)=nat_long.T3:=by kernel_rfl
theorem nat_long.bits3:waitsOk nat_long.T3.2 nat_long.B3=true:=by kernel_rfl
def nat_long.T8:Bool × List (List Nat × List Nat):=(true,[([],[]),([],[]),([],[]),([1,2],[1,2]),([0,3],[0,3]),([4],[4]),([5],[5]),([6],[6]),([],[]),([],[]),([],[]),([9,10],[9,10]),([11],[11]),([8,12],[8,12]),([13],[13]),([14],[14]),([7,15],[7,15]),([16,0,1,2,3,4,5,6,7,8,9,10,11,12,13,14,15,16],[16])])
def nat_long.B8:List Nat:=[0,0,0,6,15,31,63,127,0,0,0,1536,3584,7936,16128,32512,65535,131071]
theorem nat_long.tab8:rtab .any (opsOf Tryd.f83 8)=nat_long.T8:=by kernel_rfl
theorem nat_long.bits8:waitsOk nat_long.T8.2 nat_long.B8=true:=by kernel_rfl
def nat_long.T9:Bool × List (List Nat × List Nat):=(true,[([],[]),([],[]),([],[]),([2],[2]),([1,3],[1,3]),([4],[4]),([5],[5]),([0,6],[0,6]),([],[]),([],[]),([],[]),([10],[10]),([9,11],[9,11]),([12],[12]),([13],[13]),([8,14],[8,14]),([7,0,1,2,3,4,5,6,7],[7]),([15,16,0,1,2,3,4,5,6,7,8,9,10,11,12,13,14,15,16],[15])])
def nat_long.B9:List Nat:=[0,0,0,4,14,30,62,127,0,0,0,1024,3584,7680,15872,32512,255,131071]
theorem nat_long.tab9:rtab .any (opsOf Tryd.f83 9)=nat_long.T9:=by kernel_rfl
theorem nat_long.bits9:waitsOk nat_long.T9.2 nat_long.B9=true:=by kernel_rfl
def nat_long.T10:Bool × List (List Nat × List Nat):=(true,[([],[]),([0],[0]),([1],[1]),([2],[2]),([3],[3]),([3],[3]),([3],[3]),([6,3],[3,6]),([5,7,3],[3,5,7]),([8,3],[3,8]),([9,3],[3,9]),([4,10,3],[3,4,10]),([3],[3]),([12,3],[3,12]),([3],[3]),([3],[3]),([3],[3]),([15,16,3],[3,15,16]),([17,3],[3,17]),([14,18,3],[3,14,18]),([19,3],[3,19]),([20,3],[3,20]),([13,21,3],[3,13,21]),([11,22,3],[3,11,22]),([3,23],[3,23])])
def nat_long.B10:List Nat:=[0,1,3,7,15,15,15,79,239,495,1007,2047,15,4111,15,15,15,98319,229391,507919,1032207,2080783,4190223,8388607,16777215]
theorem nat_long.tab10:rtab .any (opsOf Tryd.f83 10)=nat_long.T10:=by kernel_rfl
theorem nat_long.bits10:waitsOk nat_long.T10.2 nat_long.B10=true:=by kernel_rfl
def nat_long.T24:Bool × List (List Nat × List Nat):=(true,[([],[]),([],[]),([0,1],[0,1]),([2],[2]),([],[]),([],[]),([5],[5]),([4,6],[4,6]),([7],[7]),([8],[8]),([],[]),([10],[10]),([9,11],[9,11]),([12],[12]),([3,13],[3,13]),([0,1,0,1,2,3,4,5,6,7,8,9,10,11,12,13,14],[0,1]),([15,14,0,1,2,3,4,5,6,7,8,9,10,11,12,13,14],[14,15])])
def nat_long.B24:List Nat:=[0,0,3,7,0,0,32,112,240,496,0,1024,4080,8176,16383,32767,65535]
theorem nat_long.tab24:rtab .any (opsOf Tryd.f83 24)=nat_long.T24:=by kernel_rfl
theorem nat_long.bits24:waitsOk nat_long.T24.2 nat_long.B24=true:=by kernel_rfl
theorem nat_long.calls (k:Nat) (A0:Option Addr) (c0:Nat) (l0:List Int) (A1:Option Addr) (c1:Nat) (l1:List Int) (r1:List Int) (r2:List Int) (w:World) (hr0:Kd.C (Kd.int .u32) w A0 l0.length l0) (hc0:l0.length≤c0) (hr1:Kd.C (Kd.int .u32) w A1 l1.length l1) (hc1:l1.length≤c1) (h:nat_long.f k l0 l1=some (r1,r2)) :
 Calls Tryd.prog 83 #[.slice A0 l0.length c0,.slice A1 l1.length c1] w fun e w'=>∃ v0_ v1_:Value,e = .returned (.tuple #[v0_,v1_])∧Kd.R (Kd.int .u32) 89 w' w.heap.size (fun k_=>some k_≠(v1_:Value).ownBlock) v0_ r1∧Kd.R (Kd.int .u32) 89 w' w.heap.size (fun k_=>some k_≠(v0_:Value).ownBlock) v1_ (r2.take l1.length)∧Below w.heap.size w w':=by
 have HR0:=Aside0.mk hr0
 have HC0:=Aside0.mk hc0
 clear hr0 hc0
 have HR1:=Aside0.mk hr1
 have HC1:=Aside0.mk hc1
 clear hr1 hc1
 have HB:=Aside0.mk (Below.refl w.heap.size w)
 have H:(if 0≤(wrap64 ((l1.length:Int) - 1)) then (if (wrap64 ((l1.length:Int) - 1)) < (l1.length:Int) then ((bits_LeadingZeros32.f (rd l1 (wrap64 ((l1.length:Int) - 1)))).bind fun t109=>((nat_left.f k l0 t109).bind fun t110=>((nat_left.f k l1 t109).bind fun t113=>(if 0≤(wrap64 ((t110.length:Int) - (l1.length:Int))) then (if (wrap64 ((t110.length:Int) - (l1.length:Int)):Int).toNat≤70368744177664 then ((some (List.replicate (wrap64 ((t110.length:Int) - (l1.length:Int)):Int).toNat 0:List Int)).bind fun y116=>(nat_long.l0 k y116 t109 (l1.length:Int) t110 t113 (wrap64 ((y116.length:Int) - 1)))) else (none)) else (none))))) else (none)) else (none))=some (r1,r2):=h
 clear h
 obtain ⟨ji3,hji3⟩:∃ j_:Int,(wrap64 ((l1.length:Int) - 1))=j_:=⟨_,rfl⟩
 replace H:(if 0≤(ji3) then (if (ji3) < (l1.length:Int) then ((bits_LeadingZeros32.f (rd l1 (ji3))).bind fun t109=>((nat_left.f k l0 t109).bind fun t110=>((nat_left.f k l1 t109).bind fun t113=>(if 0≤(wrap64 ((t110.length:Int) - (l1.length:Int))) then (if (wrap64 ((t110.length:Int) - (l1.length:Int)):Int).toNat≤70368744177664 then ((some (List.replicate (wrap64 ((t110.length:Int) - (l1.length:Int)):Int).toNat 0:List Int)).bind fun y116=>(nat_long.l0 k y116 t109 (l1.length:Int) t110 t113 (wrap64 ((y116.length:Int) - 1)))) else (none)) else (none))))) else (none)) else (none))=some (r1,r2):=by first | (rw [hji3] at H; exact H) | (simp only [hji3] at H ⊢; exact H)
 have hji3w:(IntKind.i64.wrap ((l1.length:Int) - 1))=ji3:=(i64_w _).trans hji3
 by_cases c4:0≤(ji3)
 rotate_left
 ·rw [if_neg c4] at H
  exact absurd H (by simp)
 rw [if_pos c4] at H
 have c4b0:decide (0≤(ji3))=true:=decide_eq_true c4
 clear c4
 by_cases c5:(ji3) < (l1.length:Int)
 rotate_left
 ·rw [if_neg c5] at H
  exact absurd H (by simp)
 rw [if_pos c5] at H
 have c5b0:decide ((ji3) < (l1.length:Int))=true:=decide_eq_true c5
 clear c5
 replace H:=Option.bind_eq_some_iff.mp H
 obtain ⟨t109,A60,H⟩:=H
 replace H:((nat_left.f k l0 t109).bind fun t110=>((nat_left.f k l1 t109).bind fun t113=>(if 0≤(wrap64 ((t110.length:Int) - (l1.length:Int))) then (if (wrap64 ((t110.length:Int) - (l1.length:Int)):Int).toNat≤70368744177664 then ((some (List.replicate (wrap64 ((t110.length:Int) - (l1.length:Int)):Int).toNat 0:List Int)).bind fun y116=>(nat_long.l0 k y116 t109 (l1.length:Int) t110 t113 (wrap64 ((y116.length:Int) - 1)))) else (none)) else (none))))=some (r1,r2):=H
 have A6:=Aside0.mk A60
 clear A60
 replace H:=Option.bind_eq_some_iff.mp H
 obtain ⟨t110,A70,H⟩:=H
 replace H:((nat_left.f k l1 t109).bind fun t113=>(if 0≤(wrap64 ((t110.length:Int) - (l1.length:Int))) then (if (wrap64 ((t110.length:Int) - (l1.length:Int)):Int).toNat≤70368744177664 then ((some (List.replicate (wrap64 ((t110.length:Int) - (l1.length:Int)):Int).toNat 0:List Int)).bind fun y116=>(nat_long.l0 k y116 t109 (l1.length:Int) t110 t113 (wrap64 ((y116.length:Int) - 1)))) else (none)) else (none)))=some (r1,r2):=H
 have A7:=Aside0.mk A70
 clear A70
 replace H:=Option.bind_eq_some_iff.mp H
 obtain ⟨t113,A80,H⟩:=H
 replace H:(if 0≤(wrap64 ((t110.length:Int) - (l1.length:Int))) then (if (wrap64 ((t110.length:Int) - (l1.length:Int)):Int).toNat≤70368744177664 then ((some (List.replicate (wrap64 ((t110.length:Int) - (l1.length:Int)):Int).toNat 0:List Int)).bind fun y116=>(nat_long.l0 k y116 t109 (l1.length:Int) t110 t113 (wrap64 ((y116.length:Int) - 1)))) else (none)) else (none))=some (r1,r2):=H
 have A8:=Aside0.mk A80
 clear A80
 obtain ⟨ji9,hji9⟩:∃ j_:Int,(wrap64 ((t110.length:Int) - (l1.length:Int)))=j_:=⟨_,rfl⟩
 replace H:(if 0≤(ji9) then (if (ji9:Int).toNat≤70368744177664 then ((some (List.replicate (ji9:Int).toNat 0:List Int)).bind fun y116=>(nat_long.l0 k y116 t109 (l1.length:Int) t110 t113 (wrap64 ((y116.length:Int) - 1)))) else (none)) else (none))=some (r1,r2):=by first | (rw [hji9] at H; exact H) | (simp only [hji9] at H ⊢; exact H)
 (try rw [hji9] at A6)
 (try rw [hji9] at A7)
 (try rw [hji9] at A8)
 have hji9w:(IntKind.i64.wrap ((t110.length:Int) - (l1.length:Int)))=ji9:=(i64_w _).trans hji9
 by_cases c10:0≤(ji9)
 rotate_left
 ·rw [if_neg c10] at H
  exact absurd H (by simp)
 rw [if_pos c10] at H
 have c10b0:=eq_true c10
 have c10b1:decide (0≤(ji9))=true:=decide_eq_true c10
 clear c10
 by_cases c11:(ji9:Int).toNat≤70368744177664
 rotate_left
 ·rw [if_neg c11] at H
  exact absurd H (by simp)
 rw [if_pos c11] at H
 have c11b0:=eq_true c11
 have c11b1:decide ((ji9:Int).toNat≤70368744177664)=true:=decide_eq_true c11
 clear c11
 obtain ⟨y116,hy116⟩:∃ y_:List Int,y_=(List.replicate (ji9:Int).toNat 0):=⟨_,rfl⟩
 replace H:(nat_long.l0 k y116 t109 (l1.length:Int) t110 t113 (wrap64 ((y116.length:Int) - 1)))=some (r1,r2):=by first | (rw [hy116]; with_reducible exact H) | (have H2_:=(Option.bind_some _ _).symm.trans H; rw [hy116]; with_reducible exact H2_) | (have H2_:=(Option.bind_some _ _).symm.trans H; with_reducible exact H2_) | with_reducible exact H | (rw [hy116]; exact H) | exact H
 have Ny116:=Aside0.mk hy116
 clear hy116
 have H':=Aside0.mk H
 clear H
 have p108:0≤((ji3):Int):=zD
 have q108:(ji3) < (l1.length:Int):=zD
 obtain ⟨ad108,e108,hx108_0⟩:=Kd.at_int HR1.out (ji3) p108 q108
 cases e108
 replace p108:=eq_true p108
 replace q108:=eq_true q108
 go_enter Tryd.func83,Tryd.ntmps83
 try go_wp2_with (first | ((with_reducible refine zG 92 ?_); refine goesL_ (some 21) rfl rfl Tryd.func92 (by kernel_rfl) rfl #[.int .u32 (rd l1 (ji3))] rfl (by (try simp only [List.map_toArray,List.map_cons,List.map_nil]); first | done | (simp only [hji3]; rfl) | rfl | (simp only [List.length_drop,List.length_take]; rfl)) ?_; (with_reducible refine (bits_LeadingZeros32.calls (rd l1 (ji3)) t109 _ A6.out).mono ?_); rintro e w12 ⟨rfl,hb⟩; refine ⟨_,rfl,?_⟩; replace HB:=zP hb; (try clear hb)))
 have n0_:=Aside0.mk (below_drew1 HB.out)
 clear HB
 have HB:=n0_
 clear n0_
 refine start_ (n:=10) (S:=fun w'=>True) (ds:=[]) #[false,false,false,false,false,false,false,false,false,false] (by kernel_rfl) rfl rfl trivial (fun hHeld=>?_); refine with_tabW nat_long.tab3 nat_long.bits3 (fun HT_ HW_=>?_)
 generalize w12.drew=w13 at HB hHeld ⊢
 refine zU 0 24 #[true,false,false,false,false,false,false,false,false,false] ?_
 refine zU 1 25 #[true,true,false,false,false,false,false,false,false,false] ?_
 refine zU 3 27 #[true,true,false,true,false,false,false,false,false,false] ?_
 refine zU 4 28 #[true,true,false,true,true,false,false,false,false,false] ?_
 refine zU 6 30 #[true,true,false,true,true,false,true,false,false,false] ?_
 refine one_ (i:=2) (N:=some 26) #[true,true,true,true,true,false,true,false,false,false] rfl rfl (one_of HT_.out (by kernel_rfl)) (by decide) (fun K hK=>?_)
 refine goes_ Tryd.func93 (by kernel_rfl) rfl #[.slice A0 l0.length c0,.int .i64 t109] (by rfl) rfl rfl (by (try simp only [List.map_toArray,List.map_cons,List.map_nil]); first | done | rfl | (simp only [List.length_drop,List.length_take]; rfl)) ?_
 with_reducible refine (nat_left.calls k _ _ l0 t109 t110 _ ?side1 ?side2 A7.out).mono ?_
 (case side1=>repeat (first | exact (Kd.C_below HR0.out HB.out) | (with_reducible refine Kd.C_alloc ?_ _) | (with_reducible refine Kd.C_drewN ?_ _) | (with_reducible refine Kd.C_drew ?_)))
 (case side2=>exact HC0.out)
 rintro e w14 ⟨v111,rfl,ho0,hb⟩
 refine ⟨_,rfl,?_⟩
 have n0_:=Aside0.mk (Kd.R_lower ho0 (below_size zB))
 have n1_:=Aside0.mk (below_step zB hb)
 clear HB
 have HO112:=n0_
 have HB:=n1_
 clear n0_ n1_
 (try clear hb)
 (try clear hb2)
 (try clear hk)
 (try clear hi)
 (try clear ho0)
 refine hK.out _ _ trivial (fun hHeld=>?_)
 clear hK K
 refine norm_ (a':=?_) ?_ ?_
 rotate_left
 ·show Act.put _ (some 26) _=_
  simp only [Act.put,List.setIfInBounds_toArray,List.set_cons_zero,List.set_cons_succ,i64_w,i32_w]
  rfl
 refine one_ (i:=5) (N:=some 29) #[true,true,true,true,true,true,true,false,false,false] rfl rfl (one_of HT_.out (by kernel_rfl)) (by decide) (fun K hK=>?_)
 refine goes_ Tryd.func93 (by kernel_rfl) rfl #[.slice (some ad108) l1.length c1,.int .i64 t109] (by rfl) rfl rfl (by (try simp only [List.map_toArray,List.map_cons,List.map_nil]); first | done | rfl | (simp only [List.length_drop,List.length_take]; rfl)) ?_
 with_reducible refine (nat_left.calls k _ _ l1 t109 t113 _ ?side1 ?side2 A8.out).mono ?_
 (case side1=>repeat (first | exact (Kd.C_below HR1.out HB.out) | (with_reducible refine Kd.C_alloc ?_ _) | (with_reducible refine Kd.C_drewN ?_ _) | (with_reducible refine Kd.C_drew ?_)))
 (case side2=>exact HC1.out)
 rintro e w15 ⟨v114,rfl,ho0,hb⟩
 refine ⟨_,rfl,?_⟩
 have n0_:=Aside0.mk (Kd.R_elder' (zO HO112) (Kd.R_base ho0) hb)
 have n1_:=Aside0.mk (Kd.R_lower (Kd.R_new' ho0 (Kd.R_lt (zO HO112))) (below_size zB))
 have n2_:=Aside0.mk (below_step zB hb)
 clear HO112
 clear HB
 have HO112:=n0_
 have HO115:=n1_
 have HB:=n2_
 clear n0_ n1_ n2_
 (try clear hb)
 (try clear hb2)
 (try clear hk)
 (try clear hi)
 (try clear ho0)
 refine hK.out _ _ trivial (fun hHeld=>?_)
 clear hK K
 refine norm_ (a':=?_) ?_ ?_
 rotate_left
 ·show Act.put _ (some 29) _=_
  simp only [Act.put,List.setIfInBounds_toArray,List.set_cons_zero,List.set_cons_succ,i64_w,i32_w]
  rfl
 have hLV_:=Aside0.mk (left_len A8.out).2
 have hLU_:=Aside0.mk (show l1.length≤t110.length from sub_le (by have:=left_len A7.out; omega) (by have:=left_len A8.out; omega) hji9 (of_decide_eq_true c10b1))
 obtain ⟨AoV,coV,eoV⟩:=Kd.R_slice HO115.out
 obtain ⟨iV,hiV0,_,hsV0,_⟩:=info_parts info89
 have hiV:=Aside0.mk hiV0
 have hsV:=Aside0.mk hsV0
 clear hiV0 hsV0
 have hcapV_:=(Kd.R_reads' (n:=t113.length) (c:=coV) (A:=AoV) (by rw [← eoV]; exact HO115.out)).2.1
 have hcV_:=Aside0.mk (show l1.length≤coV by have:=left_len A8.out; omega)
 have hcutV:∀ W:World,(Instr.slice 47 v114 none (some (.int .i64 (l1.length:Int))) none).run Tryd.prog W = .ok (.slice AoV l1.length coV) W:=(by intro W; rw [eoV]; have h2_:=cut_to (P:=Tryd.prog) 47 89 .i64 Tryd.underlying47 hiV.out AoV t113.length coV (l1.length:Int) (by omega) (by have:=left_len A8.out; omega) hcapV_ W; rw [Int.toNat_natCast] at h2_; exact h2_)
 clear hcapV_
 have EOV:=Aside0.mk eoV
 clear eoV
 refine pure_ (i:=7) (N:=some 31) (v:=?_) (a':=?_) #[true,true,true,true,true,true,true,true,false,false] rfl rfl (any_of HT_.out (by kernel_rfl)) (fun _ _ _ h=>h) (Or.inl ⟨by rfl,?_⟩) ?_ ?_
 rotate_left
 ·intro w'
  go_simp
  first | with_reducible rfl | (rw [hcutV]; with_reducible rfl) | (rw [hcutV]; rfl) | (rw [if_pos hcV_.out]; with_reducible rfl) | (rw [if_pos hcV_.out]; rfl)
 rotate_left
 ·simp only [Act.put,List.setIfInBounds_toArray,List.set_cons_zero,List.set_cons_succ,i64_w,i32_w]
  rfl
 refine zU 8 8 #[true,true,true,true,true,true,true,true,true,false] ?_
 refine zU 9 9 #[true,true,true,true,true,true,true,true,true,true] ?_
 refine done_ (done_of HT_.out (by kernel_rfl)) ?_
 obtain ⟨Ao16,co16,eo16⟩:=Kd.R_slice HO112.out
 subst eo16
 try go_wp2_with (first | ((with_reducible refine gate_dst (N:=36) rfl ?_); refine Kd.R_make (Kd.int .u32) _ 89 rfl (N:=36) rfl 47 _ _ rfl ji9 rfl rfl Tryd.underlying47 (.int .u32 0) 4 info89 rfl (by decide) (by omega) 0 (ok:=fun _=>True) (okp:=fun _=>True) rfl zI trivial zD (Nat.le_trans (Nat.mul_le_mul_right _ (zD:ji9.toNat≤70368744177664)) (by omega)) (Below.refl _ _) (Nat.le_refl _) ?_; intro v117 w17 ho18 hb hg_ hnew_; clear hg_ hnew_; (first | rw [← Ny116.out] at ho18 | (simp only [Int.reduceToNat] at ho18; rw [← Ny116.out] at ho18)); have HO118:=Aside0.mk (Kd.R_lower (Kd.R_new' (Kd.R_new' ho18 (Kd.R_lt (zO HO112))) (Kd.R_lt (zO HO115))) (below_size zB)); replace HO112:=Aside0.mk (Kd.R_elder' (zO HO112) (Kd.R_base ho18) hb); replace HO115:=Aside0.mk (Kd.R_elder' (zO HO115) (Kd.R_base ho18) hb); replace HB:=zP hb; clear hb ho18; obtain ⟨Ao19,co19,eo19⟩:=Kd.R_slice HO118.out; subst eo19))
 go_loopg [10] k (fun kq v10 w'=>∃ (x4_1:List Int) (x8_1:List Int) (x9_1:List Int) (x10_1:Int),v10 = .int .i64 x10_1∧Aside0 (nat_long.l0 kq x4_1 t109 (l1.length:Int) x8_1 x9_1 x10_1=some (r1,r2))∧Aside0 (kq≤k)∧Aside0 (Kd.R (Kd.int .u32) 89 w' w.heap.size (fun k_=>some k_≠((.slice Ao16 t110.length co16):Value).ownBlock∧some k_≠(v114:Value).ownBlock) (.slice Ao19 y116.length co19) x4_1)∧Aside0 (Kd.R (Kd.int .u32) 89 w' w.heap.size (fun k_=>some k_≠((.slice Ao19 y116.length co19):Value).ownBlock∧some k_≠(v114:Value).ownBlock) (.slice Ao16 t110.length co16) x8_1)∧Aside0 (Kd.R (Kd.int .u32) 89 w' w.heap.size (fun k_=>some k_≠((.slice Ao19 y116.length co19):Value).ownBlock∧some k_≠((.slice Ao16 t110.length co16):Value).ownBlock) v114 x9_1)∧Aside0 (Below w.heap.size w w'))
 case atStart=>exact ⟨(y116),(t110),(t113),(wrap64 ((y116.length:Int) - 1)),zS,H',⟨Nat.le_refl _⟩,⟨by (with_reducible repeat (first | apply Kd.R_alloc | apply Kd.R_drewN | apply Kd.R_drew)); exact Kd.R_mono HO118.out (fun _ hk=>⟨hk.1.2,hk.2⟩)⟩,⟨by (with_reducible repeat (first | apply Kd.R_alloc | apply Kd.R_drewN | apply Kd.R_drew)); exact Kd.R_mono HO112.out (fun _ hk=>⟨hk.2,hk.1.2⟩)⟩,⟨by (with_reducible repeat (first | apply Kd.R_alloc | apply Kd.R_drewN | apply Kd.R_drew)); exact Kd.R_mono HO115.out (fun _ hk=>⟨hk.2,hk.1.2⟩)⟩,⟨zB⟩⟩
 case round =>
  clear H'
  try clear c1
  try clear p1
  try clear q1
  try clear hx1
  try clear p2
  try clear c4
  try clear c4b0
  try clear c5
  try clear c5b0
  try clear p6
  try clear c8
  try clear c9
  try clear c10
  try clear c10b0
  try clear c10b1
  try clear p10
  try clear q10
  try clear hx10
  try clear c11
  try clear c11b0
  try clear c11b1
  try clear hx108_0
  try clear p108
  try clear q108
  obtain ⟨x4_1,x8_1,x9_1,x10_1,rfl,HA,HK1,HO_4,HO_8,HO_9,HB⟩:=hrel
  have hl4_1:=(Kd.R_reads' HO_4.out).1
  rw [hl4_1] at HO_4
  (try simp only [hl4_1])
  (try simp only [hl4_1] at HO_8)
  (try simp only [hl4_1] at HO_9)
  have hl8_1:=(Kd.R_reads' HO_8.out).1
  rw [hl8_1] at HO_8
  (try simp only [hl8_1])
  (try simp only [hl8_1] at HO_4)
  (try simp only [hl8_1] at HO_9)
  cases gk with
  | zero=>exact absurd HA.out (by simp [nat_long.l0])
  | succ k1 =>
   have H:=HA.out
   clear HA
   simp only [nat_long.l0] at H
   by_cases c20:x10_1≥0
   rotate_left
   ·rw [if_neg c20] at H
    have c20b0:decide (0≤x10_1)=false:=decide_eq_false c20
    clear c20
    have H':=Aside0.mk H
    clear H
    have hLU8_:l1.length≤x8_1.length:=by have:=hLU_.out; omega
    have hcapF_:=(Kd.R_reads' HO_8.out).2.1
    have hcutF:∀ W:World,(Instr.slice 47 (.slice Ao16 x8_1.length co16) none (some (.int .i64 (l1.length:Int))) none).run Tryd.prog W = .ok (.slice Ao16 l1.length co16) W:=(by intro W; have h2_:=cut_to (P:=Tryd.prog) 47 89 .i64 Tryd.underlying47 hiV.out Ao16 x8_1.length co16 (l1.length:Int) (by omega) (by omega) hcapF_ W; rw [Int.toNat_natCast] at h2_; exact h2_)
    clear hcapF_
    go_wp2
    go_loopg [146] k1 (fun kq v146 w'=>∃ (x8_2:List Int) (x146_2:Int),v146 = .int .i64 x146_2∧Aside0 (nat_long.l2 kq x4_1 t109 (l1.length:Int) x8_2 (l1.length:Int) x146_2=some (r1,r2))∧Aside0 (kq≤k1)∧Aside0 (Kd.R (Kd.int .u32) 89 w' w.heap.size (fun k_=>some k_≠((.slice Ao16 x8_1.length co16):Value).ownBlock) (.slice Ao19 x4_1.length co19) x4_1)∧Aside0 (Kd.R (Kd.int .u32) 89 w' w.heap.size (fun k_=>some k_≠((.slice Ao19 x4_1.length co19):Value).ownBlock) (.slice Ao16 x8_1.length co16) x8_2)∧Aside0 (Below w.heap.size w w'))
    case atStart=>exact ⟨(x8_1),(0),zS,H',⟨Nat.le_refl _⟩,⟨by (try simp only [hl4_1]); (try simp only [hl8_1]); (with_reducible repeat (first | apply Kd.R_alloc | apply Kd.R_drewN | apply Kd.R_drew)); exact Kd.R_mono HO_4.out (fun _ hk=>hk.1)⟩,⟨by (try simp only [hl4_1]); (try simp only [hl8_1]); (with_reducible repeat (first | apply Kd.R_alloc | apply Kd.R_drewN | apply Kd.R_drew)); exact Kd.R_mono HO_8.out (fun _ hk=>hk.1)⟩,⟨zB⟩⟩
    case round =>
     clear H'
     try clear c1
     try clear p1
     try clear q1
     try clear hx1
     try clear c2
     try clear p2
     try clear c3
     try clear c4
     try clear c4b0
     try clear c5
     try clear c5b0
     try clear p5
     try clear q5
     try clear hx5
     try clear hf5
     try clear c6
     try clear p6
     try clear q6
     try clear hx6
     try clear hf6
     try clear c8
     try clear c9
     try clear c10
     try clear c10b0
     try clear c10b1
     try clear p10
     try clear q10
     try clear hx10
     try clear c11
     try clear c11b0
     try clear c11b1
     try clear p11
     try clear q11
     try clear hx11
     try clear p12
     try clear q12
     try clear hx12
     try clear c20
     try clear c20b0
     try clear c22
     try clear c22b0
     try clear c23
     try clear c23b0
     try clear c25
     try clear c25b0
     try clear c26
     try clear c26b0
     try clear c28
     try clear c28b0
     try clear c29
     try clear c29b0
     try clear c30
     try clear c30b0
     try clear c30b1
     try clear c36
     try clear c36b0
     try clear c39
     try clear c39b0
     try clear c40
     try clear c40b0
     try clear c42
     try clear c42b0
     try clear c43
     try clear c43b0
     try clear c45
     try clear c47
     try clear c47b0
     try clear c48
     try clear c48b0
     try clear c49
     try clear c49b0
     try clear c51
     try clear c53
     try clear c53b0
     try clear c54
     try clear c54b0
     try clear p55
     try clear q55
     try clear hx55
     try clear hf55
     try clear c60
     try clear c60b0
     try clear c61
     try clear c61b0
     try clear p62
     try clear q62
     try clear hx62
     try clear hf62
     try clear p64
     try clear hx108_0
     try clear hx119_0
     try clear hx120_0
     try clear hx121_0
     try clear hx122_0
     try clear hx123_0
     try clear hx124_0
     try clear hx125_0
     try clear hx55_0
     try clear hx62_0
     try clear p1
     try clear p10
     try clear p108
     try clear p11
     try clear p119
     try clear p12
     try clear p120
     try clear p121
     try clear p122
     try clear p123
     try clear p124
     try clear p125
     try clear p2
     try clear p55
     try clear p6
     try clear p62
     try clear q1
     try clear q10
     try clear q108
     try clear q11
     try clear q119
     try clear q12
     try clear q120
     try clear q121
     try clear q122
     try clear q123
     try clear q124
     try clear q125
     try clear q55
     try clear q62
     obtain ⟨x8_2,x146_2,rfl,HA,HK2,HO_4,HO_8,HB⟩:=hrel
     have hl8_2:=(Kd.R_reads' HO_8.out).1
     rw [hl8_2] at HO_8
     (try simp only [hl8_2])
     (try simp only [hl8_2] at HO_4)
     cases gk with
     | zero=>exact absurd HA.out (by simp [nat_long.l2])
     | succ k2 =>
      have H:=HA.out
      clear HA
      simp only [nat_long.l2] at H
      by_cases c66:x146_2 < (l1.length:Int)
      rotate_left
      ·rw [if_neg c66] at H
       have c66b0:decide (x146_2 < (l1.length:Int))=false:=decide_eq_false c66
       (try (have c66b0_0:=c66b0; simp only [hl4_1] at c66b0_0))
       (try (have c66b0_1:=c66b0; simp only [hl8_1] at c66b0_1))
       (try (have c66b0_2:=c66b0; simp only [hl8_2] at c66b0_2))
       clear c66
       simp only [Option.some.injEq,Prod.mk.injEq] at H
       obtain ⟨rfl,rfl⟩:=H
       go_wp2
       go_ret2
       exact ⟨_,_,by first | rfl | (simp [errW_none,errW_some]<;>rfl) | (simp only [← hji3,← hji9]; first | rfl | (simp [errW_none,errW_some]<;>rfl)) | (simp [*,errW_none,errW_some]<;>rfl),by (with_reducible repeat (first | apply Kd.R_alloc | apply Kd.R_drewN | apply Kd.R_drew)); exact Kd.R_mono HO_4.out (fun k_ hk_=>by have hb_:(Value.slice Ao16 x8_2.length co16).ownBlock=(Value.slice Ao16 l1.length co16).ownBlock:=(by cases Ao16<;>rfl); exact fun h_=>hk_ (h_.trans hb_.symm)),by (with_reducible repeat (first | apply Kd.R_alloc | apply Kd.R_drewN | apply Kd.R_drew)); exact Kd.R_take (m:=l1.length) HO_8.out (by have:=hLU_.out; omega),zB⟩
      rw [if_pos c66] at H
      have c66b0:decide (x146_2 < (l1.length:Int))=true:=decide_eq_true c66
      (try (have c66b0_0:=c66b0; simp only [hl4_1] at c66b0_0))
      (try (have c66b0_1:=c66b0; simp only [hl8_1] at c66b0_1))
      (try (have c66b0_2:=c66b0; simp only [hl8_2] at c66b0_2))
      clear c66
      by_cases c67:0≤x146_2
      rotate_left
      ·rw [if_neg c67] at H
       exact absurd H (by simp)
      rw [if_pos c67] at H
      have c67b0:decide (0≤x146_2)=true:=decide_eq_true c67
      clear c67
      by_cases c68:x146_2 < (x8_2.length:Int)
      rotate_left
      ·rw [if_neg c68] at H
       exact absurd H (by simp)
      rw [if_pos c68] at H
      have c68b0:decide (x146_2 < (x8_2.length:Int))=true:=decide_eq_true c68
      (try (have c68b0_0:=c68b0; simp only [hl4_1] at c68b0_0))
      (try (have c68b0_1:=c68b0; simp only [hl8_1] at c68b0_1))
      (try (have c68b0_2:=c68b0; simp only [hl8_2] at c68b0_2))
      clear c68
      by_cases c69:0≤t109
      rotate_left
      ·rw [if_neg c69] at H
       exact absurd H (by simp)
      rw [if_pos c69] at H
      have c69b0:=eq_true c69
      have c69b1:decide (0≤t109)=true:=decide_eq_true c69
      clear c69
      obtain ⟨ji70,hji70⟩:∃ j_:Int,(shr .u32 (rd x8_2 x146_2) t109)=j_:=⟨_,rfl⟩
      replace H:((some (x8_2.set (x146_2:Int).toNat (ji70):List Int)).bind fun y132=>(if (wrap64 (x146_2+1)) < (l1.length:Int) then (if 0≤(wrap64 (x146_2+1)) then (if (wrap64 (x146_2+1)) < (x8_2.length:Int) then (if 0≤(wrap64 (32 - t109)) then (nat_long.l2 k2 x4_1 t109 (l1.length:Int) (y132.set (x146_2:Int).toNat (Go.bits .or .u32 (rd y132 x146_2) ((shl .u64 (IntKind.u64.wrap (rd y132 (wrap64 (x146_2+1)))) (wrap64 (32 - t109)))%4294967296))) (l1.length:Int) (wrap64 (x146_2+1))) else (none)) else (none)) else (none)) else (nat_long.l2 k2 x4_1 t109 (l1.length:Int) y132 (l1.length:Int) (wrap64 (x146_2+1)))))=some (r1,r2):=by first | (rw [hji70] at H; exact H) | (simp only [hji70] at H ⊢; exact H)
      have hji70_:((rd x8_2 x146_2)/2^min t109.toNat 32)=ji70:=hji70
      have hji70z:t109≤32→((rd x8_2 x146_2)/2^t109.toNat)=ji70:=shr_small hji70
      obtain ⟨y132,hy132⟩:∃ y_:List Int,y_=(x8_2.set (x146_2:Int).toNat (ji70)):=⟨_,rfl⟩
      replace H:(if (wrap64 (x146_2+1)) < (l1.length:Int) then (if 0≤(wrap64 (x146_2+1)) then (if (wrap64 (x146_2+1)) < (x8_2.length:Int) then (if 0≤(wrap64 (32 - t109)) then (nat_long.l2 k2 x4_1 t109 (l1.length:Int) (y132.set (x146_2:Int).toNat (Go.bits .or .u32 (rd y132 x146_2) ((shl .u64 (IntKind.u64.wrap (rd y132 (wrap64 (x146_2+1)))) (wrap64 (32 - t109)))%4294967296))) (l1.length:Int) (wrap64 (x146_2+1))) else (none)) else (none)) else (none)) else (nat_long.l2 k2 x4_1 t109 (l1.length:Int) y132 (l1.length:Int) (wrap64 (x146_2+1))))=some (r1,r2):=by first | (rw [hy132]; with_reducible exact H) | (have H2_:=(Option.bind_some _ _).symm.trans H; rw [hy132]; with_reducible exact H2_) | (have H2_:=(Option.bind_some _ _).symm.trans H; with_reducible exact H2_) | with_reducible exact H | (rw [hy132]; exact H) | exact H
      have Ny132:=Aside0.mk hy132
      clear hy132
      by_cases c72:(wrap64 (x146_2+1)) < (l1.length:Int)
      rotate_left
      ·rw [if_neg c72] at H
       have c72b0:decide ((wrap64 (x146_2+1)) < (l1.length:Int))=false:=decide_eq_false c72
       (try (have c72b0_0:=c72b0; simp only [hl4_1] at c72b0_0))
       (try (have c72b0_1:=c72b0; simp only [hl8_1] at c72b0_1))
       (try (have c72b0_2:=c72b0; simp only [hl8_2] at c72b0_2))
       clear c72
       have H':=Aside0.mk H
       clear H
       have p131:0≤(x146_2:Int):=zD
       have q131:x146_2 < (x8_2.length:Int):=zD
       obtain ⟨ad131,e131,hx131_0⟩:=Kd.at_int (Kd.R_reads' HO_8.out).2.2 x146_2 p131 q131
       cases e131
       replace p131:=eq_true p131
       replace q131:=eq_true q131
       have vq131:=eq_true (of_decide_eq_true c66b0)
       have p71:0≤(x146_2:Int):=zD
       have q71:(x146_2:Int) < ((x8_2.length:Int):Int):=zD
       obtain ⟨go71,co71,eo71,gb71,gl71,cl71,HG71⟩:=Kd.R_form HO_8.out (by omega)
       (first | cases eo71 | (injection eo71 with ea_ en_ ec_; (first | subst ea_ | (injection ea_ with ea_; subst ea_)); subst ec_; clear en_))
       have GB71:=Aside0.mk gb71
       have GG71:=Aside0.mk HG71
       clear gb71 gl71 HG71
       (first | simp only [add_plain] at hx131_0 | skip)
       obtain ⟨hx71_0,hf71_0⟩:=Kd.R_celln 0 HO_8.out (x146_2:Int) p71 q71
       replace p71:=eq_true p71
       replace q71:=eq_true q71
       have HP84:=Kd.R_putg HO_8.out (x146_2:Int) ji70
       go_wp2_with (first | ((with_reducible refine gate_store (t:=89) (p:=155) rfl ?_); refine store_event (t:=89) (p:=155) (v:=?vo_w85) (w1:=(wr.setCell ⟨go71,(x146_2:Int).toNat,none⟩ (.int .u32 ji70))) ?hg ?ho ?hn ?hr ?_; (case ho=>rfl); (case hg=>rfl); (case hn=>rfl); (case hr=>first | (go_simp; done) | (go_simp; rfl)); intro w85 hw; have hg:wr.grownBy w85 (some go71):=(by rw [hw]; exact HP84.2); have hp_:Kd.R (Kd.int .u32) 89 w85 w.heap.size (fun k_=>some k_≠(.slice Ao19 x4_1.length co19:Value).ownBlock) (.slice (some ⟨go71,0,none⟩) x8_2.length co16) y132:=(by rw [hw,Ny132.out]; exact HP84.1); clear HP84; replace HO_4:=Aside0.mk (Kd.R_after (v:=(.slice (some ⟨go71,0,none⟩) x8_2.length co16)) (v1:=(.slice (some ⟨go71,0,none⟩) x8_2.length co16)) (ok:=(fun _=>True)) (by (with_reducible repeat (first | apply Kd.R_alloc | apply Kd.R_drewN | apply Kd.R_drew)); exact Kd.R_mono HO_4.out (fun _ hk=>⟨trivial,hk⟩)) hg (.inl rfl)); replace HO_8:=Aside0.mk (hp_); replace HB:=Aside0.mk ((by rw [hw]; exact below_set (HB.out) GB71.out:Below w.heap.size w w85)); clear hg hw hp_))
       (try simp only [← hl8_2])
       go_roundg k2
       case measure=>have:=HK1.out; have:=HK2.out; omega
       case rel=>exact ⟨(y132),(wrap64 (x146_2+1)),zS,H',⟨by have:=HK1.out; have:=HK2.out; omega⟩,⟨by (try simp only [hl4_1]); (try simp only [hl8_1]); (try simp only [hl8_2]); (with_reducible repeat (first | apply Kd.R_alloc | apply Kd.R_drewN | apply Kd.R_drew)); exact Kd.R_mono HO_4.out (fun _ hk=>hk.2)⟩,⟨by (try simp only [hl4_1]); (try simp only [hl8_1]); (try simp only [hl8_2]); (with_reducible repeat (first | apply Kd.R_alloc | apply Kd.R_drewN | apply Kd.R_drew)); exact HO_8.out⟩,⟨zB⟩⟩
      rw [if_pos c72] at H
      have c72b0:decide ((wrap64 (x146_2+1)) < (l1.length:Int))=true:=decide_eq_true c72
      (try (have c72b0_0:=c72b0; simp only [hl4_1] at c72b0_0))
      (try (have c72b0_1:=c72b0; simp only [hl8_1] at c72b0_1))
      (try (have c72b0_2:=c72b0; simp only [hl8_2] at c72b0_2))
      clear c72
      obtain ⟨ji73,hji73⟩:∃ j_:Int,(wrap64 (x146_2+1))=j_:=⟨_,rfl⟩
      replace H:(if 0≤(ji73) then (if (ji73) < (x8_2.length:Int) then (if 0≤(wrap64 (32 - t109)) then (nat_long.l2 k2 x4_1 t109 (l1.length:Int) (y132.set (x146_2:Int).toNat (Go.bits .or .u32 (rd y132 x146_2) ((shl .u64 (IntKind.u64.wrap (rd y132 (ji73))) (wrap64 (32 - t109)))%4294967296))) (l1.length:Int) ji73) else (none)) else (none)) else (none))=some (r1,r2):=by first | (rw [hji73] at H; exact H) | (simp only [hji73] at H ⊢; exact H)
      (try rw [hji73] at c72b0)
      have hji73w:(IntKind.i64.wrap (x146_2+1))=ji73:=(i64_w _).trans hji73
      by_cases c74:0≤(ji73)
      rotate_left
      ·rw [if_neg c74] at H
       exact absurd H (by simp)
      rw [if_pos c74] at H
      have c74b0:decide (0≤(ji73))=true:=decide_eq_true c74
      clear c74
      by_cases c75:(ji73) < (x8_2.length:Int)
      rotate_left
      ·rw [if_neg c75] at H
       exact absurd H (by simp)
      rw [if_pos c75] at H
      have c75b0:decide ((ji73) < (x8_2.length:Int))=true:=decide_eq_true c75
      (try (have c75b0_0:=c75b0; simp only [hl4_1] at c75b0_0))
      (try (have c75b0_1:=c75b0; simp only [hl8_1] at c75b0_1))
      (try (have c75b0_2:=c75b0; simp only [hl8_2] at c75b0_2))
      clear c75
      obtain ⟨ji76,hji76⟩:∃ j_:Int,(wrap64 (32 - t109))=j_:=⟨_,rfl⟩
      replace H:(if 0≤(ji76) then (nat_long.l2 k2 x4_1 t109 (l1.length:Int) (y132.set (x146_2:Int).toNat (Go.bits .or .u32 (rd y132 x146_2) ((shl .u64 (IntKind.u64.wrap (rd y132 (ji73))) (ji76))%4294967296))) (l1.length:Int) ji73) else (none))=some (r1,r2):=by first | (rw [hji76] at H; exact H) | (simp only [hji76] at H ⊢; exact H)
      have hji76w:(IntKind.i64.wrap (32 - t109))=ji76:=(i64_w _).trans hji76
      by_cases c77:0≤(ji76)
      rotate_left
      ·rw [if_neg c77] at H
       exact absurd H (by simp)
      rw [if_pos c77] at H
      have c77b0:=eq_true c77
      have c77b1:decide (0≤(ji76))=true:=decide_eq_true c77
      clear c77
      obtain ⟨ji78,hji78⟩:∃ j_:Int,(shl .u64 (IntKind.u64.wrap (rd y132 (ji73))) (ji76))=j_:=⟨_,rfl⟩
      replace H:(nat_long.l2 k2 x4_1 t109 (l1.length:Int) (y132.set (x146_2:Int).toNat (Go.bits .or .u32 (rd y132 x146_2) ((ji78)%4294967296))) (l1.length:Int) ji73)=some (r1,r2):=by first | (rw [hji78] at H; exact H) | (simp only [hji78] at H ⊢; exact H)
      have hji78_:(IntKind.u64.wrap ((IntKind.u64.wrap (rd y132 (ji73)))*2^min (ji76).toNat 64))=ji78:=hji78
      have hji78z:(ji76)≤64→(IntKind.u64.wrap ((IntKind.u64.wrap (rd y132 (ji73)))*2^(ji76).toNat))=ji78:=shl_small hji78
      obtain ⟨y135,hy135⟩:∃ y_:List Int,y_=(y132.set (x146_2:Int).toNat (Go.bits .or .u32 (rd y132 x146_2) ((ji78)%4294967296))):=⟨_,rfl⟩
      replace H:(nat_long.l2 k2 x4_1 t109 (l1.length:Int) y135 (l1.length:Int) ji73)=some (r1,r2):=by first | (rw [hy135]; with_reducible exact H) | (have H2_:=(Option.bind_some _ _).symm.trans H; rw [hy135]; with_reducible exact H2_) | (have H2_:=(Option.bind_some _ _).symm.trans H; with_reducible exact H2_) | with_reducible exact H | (rw [hy135]; exact H) | exact H
      have Ny135:=Aside0.mk hy135
      clear hy135
      have H':=Aside0.mk H
      clear H
      have p131:0≤(x146_2:Int):=zD
      have q131:x146_2 < (x8_2.length:Int):=zD
      obtain ⟨ad131,e131,hx131_0⟩:=Kd.at_int (Kd.R_reads' HO_8.out).2.2 x146_2 p131 q131
      cases e131
      replace p131:=eq_true p131
      replace q131:=eq_true q131
      have vq131:=eq_true (of_decide_eq_true c66b0)
      have p71:0≤(x146_2:Int):=zD
      have q71:(x146_2:Int) < ((x8_2.length:Int):Int):=zD
      obtain ⟨go71,co71,eo71,gb71,gl71,cl71,HG71⟩:=Kd.R_form HO_8.out (by omega)
      (first | cases eo71 | (injection eo71 with ea_ en_ ec_; (first | subst ea_ | (injection ea_ with ea_; subst ea_)); subst ec_; clear en_))
      have GB71:=Aside0.mk gb71
      have GG71:=Aside0.mk HG71
      clear gb71 gl71 HG71
      (first | simp only [add_plain] at hx131_0 | skip)
      obtain ⟨hx71_0,hf71_0⟩:=Kd.R_celln 0 HO_8.out (x146_2:Int) p71 q71
      replace p71:=eq_true p71
      replace q71:=eq_true q71
      have HP80:=Kd.R_putg HO_8.out (x146_2:Int) ji70
      try go_wp2_with (first | ((with_reducible refine gate_store (t:=89) (p:=155) rfl ?_); refine store_event (t:=89) (p:=155) (v:=?vo_w81) (w1:=(wr.setCell ⟨go71,(x146_2:Int).toNat,none⟩ (.int .u32 ji70))) ?hg ?ho ?hn ?hr ?_; (case ho=>rfl); (case hg=>rfl); (case hn=>rfl); (case hr=>first | (go_simp; done) | (go_simp; rfl)); intro w81 hw; have hg:wr.grownBy w81 (some go71):=(by rw [hw]; exact HP80.2); have hp_:Kd.R (Kd.int .u32) 89 w81 w.heap.size (fun k_=>some k_≠(.slice Ao19 x4_1.length co19:Value).ownBlock) (.slice (some ⟨go71,0,none⟩) x8_2.length co16) y132:=(by rw [hw,Ny132.out]; exact HP80.1); clear HP80; replace HO_4:=Aside0.mk (Kd.R_after (v:=(.slice (some ⟨go71,0,none⟩) x8_2.length co16)) (v1:=(.slice (some ⟨go71,0,none⟩) x8_2.length co16)) (ok:=(fun _=>True)) (by (with_reducible repeat (first | apply Kd.R_alloc | apply Kd.R_drewN | apply Kd.R_drew)); exact Kd.R_mono HO_4.out (fun _ hk=>⟨trivial,hk⟩)) hg (.inl rfl)); replace HO_8:=Aside0.mk (hp_); replace HB:=Aside0.mk ((by rw [hw]; exact below_set (HB.out) GB71.out:Below w.heap.size w w81)); clear hg hw hp_))
      have n0_:=Aside0.mk (Kd.R_drew HO_4.out)
      have n1_:=Aside0.mk (Kd.R_drew HO_8.out)
      have n2_:=Aside0.mk (below_drew1 HB.out)
      clear HO_4
      clear HO_8
      clear HB
      have HO_4:=n0_
      have HO_8:=n1_
      have HB:=n2_
      clear n0_ n1_ n2_
      have p133:0≤(x146_2:Int):=zD
      have q133:x146_2 < (y132.length:Int):=(by have h_:(x146_2:Int) < ((x8_2.length:Int):Int):=zD; first | (have e_:=(Kd.R_reads' HO_8.out).1; omega) | simpa only [Ny132.out,List.length_set] using h_)
      have ql133:((x146_2:Int) < ((x8_2.length:Int):Int))=True:=eq_true zD
      obtain ⟨ad133,e133,hx133_0⟩:=Kd.at_int (Kd.R_reads' HO_8.out).2.2 x146_2 p133 q133
      obtain rfl:(⟨go71,0,none⟩:Addr)=ad133:=(by injection e133)
      (first | simp only [add_plain] at hx133_0 | simp only [add_at] at hx133_0 | simp only [Addr.add,Nat.zero_add] at hx133_0 | skip)
      replace p133:=eq_true p133
      replace q133:=eq_true q133
      have p134:0≤((ji73):Int):=zD
      have q134:(ji73) < (y132.length:Int):=(by have h_:((ji73):Int) < ((x8_2.length:Int):Int):=zD; first | (have e_:=(Kd.R_reads' HO_8.out).1; omega) | simpa only [Ny132.out,List.length_set] using h_)
      have ql134:(((ji73):Int) < ((x8_2.length:Int):Int))=True:=eq_true zD
      obtain ⟨ad134,e134,hx134_0⟩:=Kd.at_int (Kd.R_reads' HO_8.out).2.2 (ji73) p134 q134
      obtain rfl:(⟨go71,0,none⟩:Addr)=ad134:=(by injection e134)
      (first | simp only [add_plain] at hx134_0 | simp only [add_at] at hx134_0 | simp only [Addr.add,Nat.zero_add] at hx134_0 | skip)
      replace p134:=eq_true p134
      replace q134:=eq_true q134
      have p79:0≤(x146_2:Int):=zD
      have q79:(x146_2:Int) < ((x8_2.length:Int):Int):=zD
      obtain ⟨hx79_0,hf79_0⟩:=Kd.R_celln 0 HO_8.out (x146_2:Int) p79 q79
      replace p79:=eq_true p79
      replace q79:=eq_true q79
      have HP83:=Kd.R_putn HO_8.out (x146_2:Int) (Go.bits .or .u32 (rd y132 x146_2) ((ji78)%4294967296))
      rw [← Ny135.out] at HP83
      have HQ83:=Aside0.mk HP83
      clear HP83
      refine start_ (n:=17) (S:=fun w'=>w'.cell? ⟨go71,(x146_2).toNat,none⟩=some (.int .u32 (rd y132 x146_2))∧w'.cell? ⟨go71,((ji73)).toNat,none⟩=some (.int .u32 (rd y132 (ji73)))) (ds:=[16]) #[false,false,false,false,false,false,false,false,false,false,false,false,false,false,false,false,false] (by kernel_rfl) rfl rfl ⟨hx133_0,hx134_0⟩ (fun hHeld=>?_); refine with_tabW nat_long.tab24 nat_long.bits24 (fun HT_ HW_=>?_)
      generalize w81.drew=w82 at HO_4 HO_8 HB HQ83 hf79_0 hx133_0 hx134_0 hx79_0 hHeld ⊢
      refine zU 0 160 #[true,false,false,false,false,false,false,false,false,false,false,false,false,false,false,false,false] ?_
      refine zU 1 161 #[true,true,false,false,false,false,false,false,false,false,false,false,false,false,false,false,false] ?_
      refine zU 2 162 #[true,true,true,false,false,false,false,false,false,false,false,false,false,false,false,false,false] ?_
      refine zU 4 164 #[true,true,true,false,true,false,false,false,false,false,false,false,false,false,false,false,false] ?_
      refine zU 5 165 #[true,true,true,false,true,true,false,false,false,false,false,false,false,false,false,false,false] ?_
      refine zU 6 166 #[true,true,true,false,true,true,true,false,false,false,false,false,false,false,false,false,false] ?_
      refine zU 7 167 #[true,true,true,false,true,true,true,true,false,false,false,false,false,false,false,false,false] ?_
      refine zU 10 170 #[true,true,true,false,true,true,true,true,false,false,true,false,false,false,false,false,false] ?_
      refine zU 11 171 #[true,true,true,false,true,true,true,true,false,false,true,true,false,false,false,false,false] ?_
      refine take_ (i:=3) (N:=some 163) (v:=?_) (a':=?_) #[true,true,true,true,true,true,true,true,false,false,true,true,false,false,false,false,false] rfl rfl (take_ofW HT_.out HW_.out (by kernel_rfl)) (fun _ _ _ h=>h) (Or.inl ⟨by rfl,?_⟩) hHeld ?_ ?_
      rotate_left
      ·rintro w' ⟨s0,s1⟩
       go_simp
       with_reducible rfl
      rotate_left
      ·simp only [Act.put,List.setIfInBounds_toArray,List.set_cons_zero,List.set_cons_succ,i64_w,i32_w]
       rfl
      refine take_ (i:=8) (N:=some 168) (v:=?_) (a':=?_) #[true,true,true,true,true,true,true,true,true,false,true,true,false,false,false,false,false] rfl rfl (take_ofW HT_.out HW_.out (by kernel_rfl)) (fun _ _ _ h=>h) (Or.inl ⟨by rfl,?_⟩) hHeld ?_ ?_
      rotate_left
      ·rintro w' ⟨s0,s1⟩
       go_simp
       with_reducible rfl
      rotate_left
      ·simp only [Act.put,List.setIfInBounds_toArray,List.set_cons_zero,List.set_cons_succ,i64_w,i32_w]
       rfl
      refine zU 9 169 #[true,true,true,true,true,true,true,true,true,true,true,true,false,false,false,false,false] ?_
      refine zU 12 172 #[true,true,true,true,true,true,true,true,true,true,true,true,true,false,false,false,false] ?_
      refine zU 13 173 #[true,true,true,true,true,true,true,true,true,true,true,true,true,true,false,false,false] ?_
      refine zU 14 174 #[true,true,true,true,true,true,true,true,true,true,true,true,true,true,true,false,false] ?_
      refine zU 15 175 #[true,true,true,true,true,true,true,true,true,true,true,true,true,true,true,true,false] ?_
      refine last_ (i:=16) (N:=none) #[true,true,true,true,true,true,true,true,true,true,true,true,true,true,true,true,true] rfl rfl (one_of HT_.out (by kernel_rfl)) (by decide) (fun K hK=>?_)
      refine skip_ (w1:=?_) (by rfl) rfl ?_ ?_
      rotate_left
      ·go_simp
       rfl
      refine hK.out _ _ ?_
      clear hK K
      refine done_ (done_of HT_.out (by kernel_rfl)) ?_
      try go_wp2
      (try simp only [← hl8_2])
      go_roundg k2
      case measure=>have:=HK1.out; have:=HK2.out; omega
      case rel=>exact ⟨(y135),(ji73),(by first | rfl | (simp; done) | (simp only [← hji73]<;>(first | rfl | simp)) | (simp [*]; done)),H',⟨by have:=HK1.out; have:=HK2.out; omega⟩,⟨by (try simp only [hl4_1]); (try simp only [hl8_1]); (try simp only [hl8_2]); (with_reducible repeat (first | apply Kd.R_alloc | apply Kd.R_drewN | apply Kd.R_drew)); exact Kd.R_mono (Kd.R_far (p:=⟨go71,(x146_2:Int).toNat,none⟩) (Kd.R_mono HO_4.out (fun k_ hk=>(⟨hk,fun e_=>hk.2 (by rw [e_]; rfl)⟩:_∧k_≠go71))) (fun _ hk=>hk.2) (.int .u32 (Go.bits .or .u32 (rd y132 x146_2) ((ji78)%4294967296)))) (fun _ hk=>hk.1.2)⟩,⟨by (try simp only [hl4_1]); (try simp only [hl8_1]); (try simp only [hl8_2]); (with_reducible repeat (first | apply Kd.R_alloc | apply Kd.R_drewN | apply Kd.R_drew)); exact HQ83.out⟩,⟨by repeat (first | (with_reducible first | exact HB.out | apply below_alloc | apply pw_below_drewN | apply below_drew1 | refine below_set ?_ GB71.out) | exact HB.out)⟩⟩
   rw [if_pos c20] at H
   have c20b0:decide (0≤x10_1)=true:=decide_eq_true c20
   clear c20
   obtain ⟨ji21,hji21⟩:∃ j_:Int,(wrap64 (x10_1+(l1.length:Int)))=j_:=⟨_,rfl⟩
   replace H:(if 0≤(ji21) then (if (ji21) < (x8_1.length:Int) then (if 0≤(wrap64 ((ji21) - 1)) then (if (wrap64 ((ji21) - 1)) < (x8_1.length:Int) then (if 0≤(wrap64 ((l1.length:Int) - 1)) then (if (wrap64 ((l1.length:Int) - 1)) < (x9_1.length:Int) then (if (IntKind.u64.wrap (rd x9_1 (wrap64 ((l1.length:Int) - 1))))=0 then (none) else (nat_long.l1 k1 x4_1 t109 (l1.length:Int) x8_1 x9_1 x10_1 (IntKind.u64.wrap (Int.tdiv (Go.bits .or .u64 (IntKind.u64.wrap ((IntKind.u64.wrap (rd x8_1 (ji21)))*4294967296)) (IntKind.u64.wrap (rd x8_1 (wrap64 ((ji21) - 1))))) (IntKind.u64.wrap (rd x9_1 (wrap64 ((l1.length:Int) - 1)))))) (Int.tmod (Go.bits .or .u64 (IntKind.u64.wrap ((IntKind.u64.wrap (rd x8_1 (ji21)))*4294967296)) (IntKind.u64.wrap (rd x8_1 (wrap64 ((ji21) - 1))))) (IntKind.u64.wrap (rd x9_1 (wrap64 ((l1.length:Int) - 1))))))) else (none)) else (none)) else (none)) else (none)) else (none)) else (none))=some (r1,r2):=by first | (rw [hji21] at H; exact H) | (simp only [hji21] at H ⊢; exact H)
   have hji21w:(IntKind.i64.wrap (x10_1+(l1.length:Int)))=ji21:=(i64_w _).trans hji21
   by_cases c22:0≤(ji21)
   rotate_left
   ·rw [if_neg c22] at H
    exact absurd H (by simp)
   rw [if_pos c22] at H
   have c22b0:decide (0≤(ji21))=true:=decide_eq_true c22
   clear c22
   by_cases c23:(ji21) < (x8_1.length:Int)
   rotate_left
   ·rw [if_neg c23] at H
    exact absurd H (by simp)
   rw [if_pos c23] at H
   have c23b0:decide ((ji21) < (x8_1.length:Int))=true:=decide_eq_true c23
   (try (have c23b0_0:=c23b0; simp only [hl4_1] at c23b0_0))
   (try (have c23b0_1:=c23b0; simp only [hl8_1] at c23b0_1))
   clear c23
   obtain ⟨ji24,hji24⟩:∃ j_:Int,(wrap64 ((ji21) - 1))=j_:=⟨_,rfl⟩
   replace H:(if 0≤(ji24) then (if (ji24) < (x8_1.length:Int) then (if 0≤(wrap64 ((l1.length:Int) - 1)) then (if (wrap64 ((l1.length:Int) - 1)) < (x9_1.length:Int) then (if (IntKind.u64.wrap (rd x9_1 (wrap64 ((l1.length:Int) - 1))))=0 then (none) else (nat_long.l1 k1 x4_1 t109 (l1.length:Int) x8_1 x9_1 x10_1 (IntKind.u64.wrap (Int.tdiv (Go.bits .or .u64 (IntKind.u64.wrap ((IntKind.u64.wrap (rd x8_1 (ji21)))*4294967296)) (IntKind.u64.wrap (rd x8_1 (ji24)))) (IntKind.u64.wrap (rd x9_1 (wrap64 ((l1.length:Int) - 1)))))) (Int.tmod (Go.bits .or .u64 (IntKind.u64.wrap ((IntKind.u64.wrap (rd x8_1 (ji21)))*4294967296)) (IntKind.u64.wrap (rd x8_1 (ji24)))) (IntKind.u64.wrap (rd x9_1 (wrap64 ((l1.length:Int) - 1))))))) else (none)) else (none)) else (none)) else (none))=some (r1,r2):=by first | (rw [hji24] at H; exact H) | (simp only [hji24] at H ⊢; exact H)
   have hji24w:(IntKind.i64.wrap ((ji21) - 1))=ji24:=(i64_w _).trans hji24
   by_cases c25:0≤(ji24)
   rotate_left
   ·rw [if_neg c25] at H
    exact absurd H (by simp)
   rw [if_pos c25] at H
   have c25b0:decide (0≤(ji24))=true:=decide_eq_true c25
   clear c25
   by_cases c26:(ji24) < (x8_1.length:Int)
   rotate_left
   ·rw [if_neg c26] at H
    exact absurd H (by simp)
   rw [if_pos c26] at H
   have c26b0:decide ((ji24) < (x8_1.length:Int))=true:=decide_eq_true c26
   (try (have c26b0_0:=c26b0; simp only [hl4_1] at c26b0_0))
   (try (have c26b0_1:=c26b0; simp only [hl8_1] at c26b0_1))
   clear c26
   obtain ⟨ji27,hji27⟩:∃ j_:Int,(wrap64 ((l1.length:Int) - 1))=j_:=⟨_,rfl⟩
   replace H:(if 0≤(ji27) then (if (ji27) < (x9_1.length:Int) then (if (IntKind.u64.wrap (rd x9_1 (ji27)))=0 then (none) else (nat_long.l1 k1 x4_1 t109 (l1.length:Int) x8_1 x9_1 x10_1 (IntKind.u64.wrap (Int.tdiv (Go.bits .or .u64 (IntKind.u64.wrap ((IntKind.u64.wrap (rd x8_1 (ji21)))*4294967296)) (IntKind.u64.wrap (rd x8_1 (ji24)))) (IntKind.u64.wrap (rd x9_1 (ji27))))) (Int.tmod (Go.bits .or .u64 (IntKind.u64.wrap ((IntKind.u64.wrap (rd x8_1 (ji21)))*4294967296)) (IntKind.u64.wrap (rd x8_1 (ji24)))) (IntKind.u64.wrap (rd x9_1 (ji27)))))) else (none)) else (none))=some (r1,r2):=by first | (rw [hji27] at H; exact H) | (simp only [hji27] at H ⊢; exact H)
   have hji27w:(IntKind.i64.wrap ((l1.length:Int) - 1))=ji27:=(i64_w _).trans hji27
   obtain rfl:ji27=ji3:=hji27.symm.trans hji3
   by_cases c28:0≤(ji27)
   rotate_left
   ·rw [if_neg c28] at H
    exact absurd H (by simp)
   rw [if_pos c28] at H
   have c28b0:decide (0≤(ji27))=true:=decide_eq_true c28
   clear c28
   by_cases c29:(ji27) < (x9_1.length:Int)
   rotate_left
   ·rw [if_neg c29] at H
    exact absurd H (by simp)
   rw [if_pos c29] at H
   have c29b0:decide ((ji27) < (x9_1.length:Int))=true:=decide_eq_true c29
   (try (have c29b0_0:=c29b0; simp only [hl4_1] at c29b0_0))
   (try (have c29b0_1:=c29b0; simp only [hl8_1] at c29b0_1))
   clear c29
   by_cases c30:(IntKind.u64.wrap (rd x9_1 (ji27)))=0
   ·rw [if_pos c30] at H
    exact absurd H (by simp)
   rw [if_neg c30] at H
   have c30b0:((IntKind.u64.wrap (rd x9_1 (ji27)))==0)=false:=beq_eq_false_iff_ne.mpr c30
   have c30b1:((IntKind.u64.wrap (rd x9_1 (ji27))) != 0)=true:=bne_iff_ne.mpr c30
   have HC31:=Aside0.mk H
   clear H
   try go_wp2
   have n0_:=Aside0.mk (Kd.R_drew HO_4.out)
   have n1_:=Aside0.mk (Kd.R_drew HO_8.out)
   have n2_:=Aside0.mk (Kd.R_drew HO_9.out)
   have n3_:=Aside0.mk (below_drew1 HB.out)
   clear HO_4
   clear HO_8
   clear HO_9
   clear HB
   have HO_4:=n0_
   have HO_8:=n1_
   have HO_9:=n2_
   have HB:=n3_
   clear n0_ n1_ n2_ n3_
   have p119:0≤((ji21):Int):=zD
   have q119:(ji21) < (x8_1.length:Int):=zD
   obtain ⟨ad119,e119,hx119_0⟩:=Kd.at_int (Kd.R_reads' HO_8.out).2.2 (ji21) p119 q119
   cases e119
   replace p119:=eq_true p119
   replace q119:=eq_true q119
   have p120:0≤((ji24):Int):=zD
   have q120:(ji24) < (x8_1.length:Int):=zD
   obtain ⟨ad120,e120,hx120_0⟩:=Kd.at_int (Kd.R_reads' HO_8.out).2.2 (ji24) p120 q120
   obtain rfl:ad119=ad120:=(by injection e120)
   replace p120:=eq_true p120
   replace q120:=eq_true q120
   refine start_ (n:=18) (S:=fun w'=>w'.cell? (ad119.add ((ji21)).toNat)=some (.int .u32 (rd x8_1 (ji21)))∧w'.cell? (ad119.add ((ji24)).toNat)=some (.int .u32 (rd x8_1 (ji24)))) (ds:=[]) #[false,false,false,false,false,false,false,false,false,false,false,false,false,false,false,false,false,false] (by kernel_rfl) rfl rfl ⟨hx119_0,hx120_0⟩ (fun hHeld=>?_); refine with_tabW nat_long.tab8 nat_long.bits8 (fun HT_ HW_=>?_)
   generalize wr.drew=w32 at HO_4 HO_8 HO_9 HB hx119_0 hx120_0 hHeld ⊢
   refine zU 0 44 #[true,false,false,false,false,false,false,false,false,false,false,false,false,false,false,false,false,false] ?_
   refine zU 1 45 #[true,true,false,false,false,false,false,false,false,false,false,false,false,false,false,false,false,false] ?_
   refine zU 2 46 #[true,true,true,false,false,false,false,false,false,false,false,false,false,false,false,false,false,false] ?_
   refine zU 3 47 #[true,true,true,true,false,false,false,false,false,false,false,false,false,false,false,false,false,false] ?_
   refine zU 4 48 #[true,true,true,true,true,false,false,false,false,false,false,false,false,false,false,false,false,false] ?_
   refine zU 8 52 #[true,true,true,true,true,false,false,false,true,false,false,false,false,false,false,false,false,false] ?_
   refine zU 9 53 #[true,true,true,true,true,false,false,false,true,true,false,false,false,false,false,false,false,false] ?_
   refine zU 10 54 #[true,true,true,true,true,false,false,false,true,true,true,false,false,false,false,false,false,false] ?_
   refine zU 11 55 #[true,true,true,true,true,false,false,false,true,true,true,true,false,false,false,false,false,false] ?_
   refine zU 12 56 #[true,true,true,true,true,false,false,false,true,true,true,true,true,false,false,false,false,false] ?_
   refine zU 13 57 #[true,true,true,true,true,false,false,false,true,true,true,true,true,true,false,false,false,false] ?_
   refine take_ (i:=5) (N:=some 49) (v:=?_) (a':=?_) #[true,true,true,true,true,true,false,false,true,true,true,true,true,true,false,false,false,false] rfl rfl (take_ofW HT_.out HW_.out (by kernel_rfl)) (fun _ _ _ h=>h) (Or.inl ⟨by rfl,?_⟩) hHeld ?_ ?_
   rotate_left
   ·rintro w' ⟨s0,s1⟩
    go_simp
    with_reducible rfl
   rotate_left
   ·simp only [Act.put,List.setIfInBounds_toArray,List.set_cons_zero,List.set_cons_succ,i64_w,i32_w]
    rfl
   refine zU 6 50 #[true,true,true,true,true,true,true,false,true,true,true,true,true,true,false,false,false,false] ?_
   refine zU 7 51 #[true,true,true,true,true,true,true,true,true,true,true,true,true,true,false,false,false,false] ?_
   refine take_ (i:=14) (N:=some 58) (v:=?_) (a':=?_) #[true,true,true,true,true,true,true,true,true,true,true,true,true,true,true,false,false,false] rfl rfl (take_ofW HT_.out HW_.out (by kernel_rfl)) (fun _ _ _ h=>h) (Or.inl ⟨by rfl,?_⟩) hHeld ?_ ?_
   rotate_left
   ·rintro w' ⟨s0,s1⟩
    go_simp
    with_reducible rfl
   rotate_left
   ·simp only [Act.put,List.setIfInBounds_toArray,List.set_cons_zero,List.set_cons_succ,i64_w,i32_w]
    rfl
   refine zU 15 59 #[true,true,true,true,true,true,true,true,true,true,true,true,true,true,true,true,false,false] ?_
   refine zU 16 60 #[true,true,true,true,true,true,true,true,true,true,true,true,true,true,true,true,true,false] ?_
   refine zU 17 11 #[true,true,true,true,true,true,true,true,true,true,true,true,true,true,true,true,true,true] ?_
   refine done_ (done_of HT_.out (by kernel_rfl)) ?_
   try go_wp2
   have n0_:=Aside0.mk (Kd.R_drew HO_4.out)
   have n1_:=Aside0.mk (Kd.R_drew HO_8.out)
   have n2_:=Aside0.mk (Kd.R_drew HO_9.out)
   have n3_:=Aside0.mk (below_drew1 HB.out)
   clear HO_4
   clear HO_8
   clear HO_9
   clear HB
   have HO_4:=n0_
   have HO_8:=n1_
   have HO_9:=n2_
   have HB:=n3_
   clear n0_ n1_ n2_ n3_
   obtain ⟨Ao34,co34,eo34⟩:=Kd.R_slice HO_9.out
   (first | subst eo34 | (injection eo34 with f1_ f2_ f3_; have f4_:=f1_.symm; have f5_:=f3_.symm; clear f1_ f2_ f3_; subst f4_; subst f5_))
   (have eoV:=EOV.out; clear EOV; injection eoV with ea_ en_ ec_; clear en_; subst ea_; subst ec_)
   have p121:0≤((ji27):Int):=zD
   have q121:(ji27) < (x9_1.length:Int):=zD
   obtain ⟨ad121,e121,hx121_0⟩:=Kd.at_int (Kd.R_reads' HO_9.out).2.2 (ji27) p121 q121
   cases e121
   replace p121:=eq_true p121
   replace q121:=eq_true q121
   have vq121:=eq_true (vlt hLV_.out hji27 (by decide) (by decide))
   have p122:0≤((ji27):Int):=zD
   have q122:(ji27) < (x9_1.length:Int):=zD
   obtain ⟨ad122,e122,hx122_0⟩:=Kd.at_int (Kd.R_reads' HO_9.out).2.2 (ji27) p122 q122
   obtain rfl:ad121=ad122:=(by injection e122)
   replace p122:=eq_true p122
   replace q122:=eq_true q122
   have vq122:=eq_true (vlt hLV_.out hji27 (by decide) (by decide))
   refine start_ (n:=18) (S:=fun w'=>w'.cell? (ad121.add ((ji27)).toNat)=some (.int .u32 (rd x9_1 (ji27)))∧w'.cell? (ad121.add ((ji27)).toNat)=some (.int .u32 (rd x9_1 (ji27)))) (ds:=[]) #[false,false,false,false,false,false,false,false,false,false,false,false,false,false,false,false,false,false] (by kernel_rfl) rfl rfl ⟨hx121_0,hx122_0⟩ (fun hHeld=>?_); refine with_tabW nat_long.tab9 nat_long.bits9 (fun HT_ HW_=>?_)
   generalize w32.drew=w33 at HO_4 HO_8 HO_9 HB hx121_0 hx122_0 hHeld ⊢
   refine zU 0 61 #[true,false,false,false,false,false,false,false,false,false,false,false,false,false,false,false,false,false] ?_
   refine zU 1 62 #[true,true,false,false,false,false,false,false,false,false,false,false,false,false,false,false,false,false] ?_
   refine zU 2 63 #[true,true,true,false,false,false,false,false,false,false,false,false,false,false,false,false,false,false] ?_
   refine zU 3 64 #[true,true,true,true,false,false,false,false,false,false,false,false,false,false,false,false,false,false] ?_
   refine zU 4 65 #[true,true,true,true,true,false,false,false,false,false,false,false,false,false,false,false,false,false] ?_
   refine zU 8 69 #[true,true,true,true,true,false,false,false,true,false,false,false,false,false,false,false,false,false] ?_
   refine zU 9 70 #[true,true,true,true,true,false,false,false,true,true,false,false,false,false,false,false,false,false] ?_
   refine zU 10 71 #[true,true,true,true,true,false,false,false,true,true,true,false,false,false,false,false,false,false] ?_
   refine zU 11 72 #[true,true,true,true,true,false,false,false,true,true,true,true,false,false,false,false,false,false] ?_
   refine zU 12 73 #[true,true,true,true,true,false,false,false,true,true,true,true,true,false,false,false,false,false] ?_
   refine take_ (i:=5) (N:=some 66) (v:=?_) (a':=?_) #[true,true,true,true,true,true,false,false,true,true,true,true,true,false,false,false,false,false] rfl rfl (take_ofW HT_.out HW_.out (by kernel_rfl)) (fun _ _ _ h=>h) (Or.inl ⟨by rfl,?_⟩) hHeld ?_ ?_
   rotate_left
   ·rintro w' ⟨s0,s1⟩
    go_simp
    with_reducible rfl
   rotate_left
   ·simp only [Act.put,List.setIfInBounds_toArray,List.set_cons_zero,List.set_cons_succ,i64_w,i32_w]
    rfl
   refine zU 6 67 #[true,true,true,true,true,true,true,false,true,true,true,true,true,false,false,false,false,false] ?_
   refine zU 7 68 #[true,true,true,true,true,true,true,true,true,true,true,true,true,false,false,false,false,false] ?_
   refine zU 16 12 #[true,true,true,true,true,true,true,true,true,true,true,true,true,false,false,false,true,false] ?_
   refine take_ (i:=13) (N:=some 74) (v:=?_) (a':=?_) #[true,true,true,true,true,true,true,true,true,true,true,true,true,true,false,false,true,false] rfl rfl (take_ofW HT_.out HW_.out (by kernel_rfl)) (fun _ _ _ h=>h) (Or.inl ⟨by rfl,?_⟩) hHeld ?_ ?_
   rotate_left
   ·rintro w' ⟨s0,s1⟩
    go_simp
    with_reducible rfl
   rotate_left
   ·simp only [Act.put,List.setIfInBounds_toArray,List.set_cons_zero,List.set_cons_succ,i64_w,i32_w]
    rfl
   refine zU 14 75 #[true,true,true,true,true,true,true,true,true,true,true,true,true,true,true,false,true,false] ?_
   refine zU 15 76 #[true,true,true,true,true,true,true,true,true,true,true,true,true,true,true,true,true,false] ?_
   refine zU 17 13 #[true,true,true,true,true,true,true,true,true,true,true,true,true,true,true,true,true,true] ?_
   refine done_ (done_of HT_.out (by kernel_rfl)) ?_
   go_upto_block 2 with (fail)
   go_cut [12] (fun v12 wc=>∃ (kq:Nat) (x12_30:Int),v12 = .int .u64 x12_30∧Aside0 (nat_long.j3 kq x4_1 t109 (l1.length:Int) x8_1 x9_1 x10_1 x12_30=some (r1,r2))∧Aside0 (kq≤k1)∧Aside0 (Kd.R (Kd.int .u32) 89 wc w.heap.size (fun k_=>some k_≠((.slice (some ad119) x8_1.length co16):Value).ownBlock∧some k_≠((.slice (some ad121) x9_1.length co34):Value).ownBlock) (.slice Ao19 x4_1.length co19) x4_1)∧Aside0 (Kd.R (Kd.int .u32) 89 wc w.heap.size (fun k_=>some k_≠((.slice Ao19 x4_1.length co19):Value).ownBlock∧some k_≠((.slice (some ad121) x9_1.length co34):Value).ownBlock) (.slice (some ad119) x8_1.length co16) x8_1)∧Aside0 (Kd.R (Kd.int .u32) 89 wc w.heap.size (fun k_=>some k_≠((.slice Ao19 x4_1.length co19):Value).ownBlock∧some k_≠((.slice (some ad119) x8_1.length co16):Value).ownBlock) (.slice (some ad121) x9_1.length co34) x9_1)∧Aside0 (Below w.heap.size w wc))
   case first =>
    have H:=HC31.out
    clear HC31
    have H':=Aside0.mk H
    clear H
    go_wp2
    go_loopg [12,13] k1 (fun kq v12 v13 w'=>∃ (x12_2:Int) (x13_2:Int),v12 = .int .u64 x12_2∧v13 = .int .u64 x13_2∧Aside0 (nat_long.l1 kq x4_1 t109 (l1.length:Int) x8_1 x9_1 x10_1 x12_2 x13_2=some (r1,r2))∧Aside0 (kq≤k1)∧Aside0 (Kd.R (Kd.int .u32) 89 w' w.heap.size (fun k_=>some k_≠((.slice (some ad119) x8_1.length co16):Value).ownBlock∧some k_≠((.slice (some ad121) x9_1.length co34):Value).ownBlock) (.slice Ao19 x4_1.length co19) x4_1)∧Aside0 (Kd.R (Kd.int .u32) 89 w' w.heap.size (fun k_=>some k_≠((.slice Ao19 x4_1.length co19):Value).ownBlock∧some k_≠((.slice (some ad121) x9_1.length co34):Value).ownBlock) (.slice (some ad119) x8_1.length co16) x8_1)∧Aside0 (Kd.R (Kd.int .u32) 89 w' w.heap.size (fun k_=>some k_≠((.slice Ao19 x4_1.length co19):Value).ownBlock∧some k_≠((.slice (some ad119) x8_1.length co16):Value).ownBlock) (.slice (some ad121) x9_1.length co34) x9_1)∧Aside0 (Below w.heap.size w w'))
    case atStart=>exact ⟨(IntKind.u64.wrap (Int.tdiv (Go.bits .or .u64 (IntKind.u64.wrap ((IntKind.u64.wrap (rd x8_1 (ji21)))*4294967296)) (IntKind.u64.wrap (rd x8_1 (ji24)))) (IntKind.u64.wrap (rd x9_1 (ji27))))),(Int.tmod (Go.bits .or .u64 (IntKind.u64.wrap ((IntKind.u64.wrap (rd x8_1 (ji21)))*4294967296)) (IntKind.u64.wrap (rd x8_1 (ji24)))) (IntKind.u64.wrap (rd x9_1 (ji27)))),(by first | rfl | (simp; done) | (simp only [← hji21,← hji24,← hji27]<;>(first | rfl | simp)) | (simp [*]; done)),(by first | rfl | (simp; done) | (simp only [← hji21,← hji24,← hji27]<;>(first | rfl | simp)) | (simp [*]; done)),H',⟨Nat.le_refl _⟩,⟨by (try simp only [hl4_1]); (try simp only [hl8_1]); (with_reducible repeat (first | apply Kd.R_alloc | apply Kd.R_drewN | apply Kd.R_drew)); exact HO_4.out⟩,⟨by (try simp only [hl4_1]); (try simp only [hl8_1]); (with_reducible repeat (first | apply Kd.R_alloc | apply Kd.R_drewN | apply Kd.R_drew)); exact HO_8.out⟩,⟨by (try simp only [hl4_1]); (try simp only [hl8_1]); (with_reducible repeat (first | apply Kd.R_alloc | apply Kd.R_drewN | apply Kd.R_drew)); exact HO_9.out⟩,⟨zB⟩⟩
    case round =>
     clear H'
     try clear c1
     try clear p1
     try clear q1
     try clear hx1
     try clear c2
     try clear p2
     try clear c3
     try clear c4
     try clear c4b0
     try clear c5
     try clear c5b0
     try clear p6
     try clear c8
     try clear c9
     try clear c10
     try clear c10b0
     try clear c10b1
     try clear p10
     try clear q10
     try clear hx10
     try clear c11
     try clear c11b0
     try clear c11b1
     try clear p11
     try clear q11
     try clear hx11
     try clear p12
     try clear q12
     try clear hx12
     try clear c20
     try clear c20b0
     try clear c22
     try clear c22b0
     try clear c23
     try clear c23b0
     try clear c25
     try clear c25b0
     try clear c26
     try clear c26b0
     try clear c28
     try clear c28b0
     try clear c29
     try clear c29b0
     try clear c30
     try clear c30b0
     try clear c30b1
     try clear hx108_0
     try clear hx119_0
     try clear hx120_0
     try clear hx121_0
     try clear hx122_0
     try clear p1
     try clear p10
     try clear p108
     try clear p119
     try clear p120
     try clear p121
     try clear p122
     try clear p2
     try clear p6
     try clear q1
     try clear q10
     try clear q108
     try clear q119
     try clear q120
     try clear q121
     try clear q122
     obtain ⟨x12_2,x13_2,rfl,rfl,HA,HK2,HO_4,HO_8,HO_9,HB⟩:=hrel
     cases gk with
     | zero=>exact absurd HA.out (by simp [nat_long.l1])
     | succ k2 =>
      have H:=HA.out
      clear HA
      simp only [nat_long.l1] at H
      have HC35:=Aside0.mk H
      clear H
      go_upto_region 10 with (fail)
      go_cut [101] (fun v101 wc=>∃ (kq:Nat) (x101_34:Bool),v101 = .bool x101_34∧Aside0 (nat_long.j2 kq x4_1 t109 (l1.length:Int) x8_1 x9_1 x10_1 x12_2 x13_2 x101_34=some (r1,r2))∧Aside0 (kq≤k2)∧Aside0 (Kd.R (Kd.int .u32) 89 wc w.heap.size (fun k_=>some k_≠((.slice (some ad119) x8_1.length co16):Value).ownBlock∧some k_≠((.slice (some ad121) x9_1.length co34):Value).ownBlock) (.slice Ao19 x4_1.length co19) x4_1)∧Aside0 (Kd.R (Kd.int .u32) 89 wc w.heap.size (fun k_=>some k_≠((.slice Ao19 x4_1.length co19):Value).ownBlock∧some k_≠((.slice (some ad121) x9_1.length co34):Value).ownBlock) (.slice (some ad119) x8_1.length co16) x8_1)∧Aside0 (Kd.R (Kd.int .u32) 89 wc w.heap.size (fun k_=>some k_≠((.slice Ao19 x4_1.length co19):Value).ownBlock∧some k_≠((.slice (some ad119) x8_1.length co16):Value).ownBlock) (.slice (some ad121) x9_1.length co34) x9_1)∧Aside0 (Below w.heap.size w wc))
      case first =>
       have H:=HC35.out
       clear HC35
       by_cases c36:(x12_2/4294967296) > 0
       ·rw [if_pos c36] at H
        have c36b0:decide (0 < (x12_2/4294967296))=true:=decide_eq_true c36
        clear c36
        (first | rw [c36b0] | rw [c36b1] | (simp only [i64_w,i32_w]; rw [c36b0]) | skip)
        have H':=Aside0.mk H
        clear H
        try go_wp2
        have n0_:=Aside0.mk (Kd.R_drew HO_4.out)
        have n1_:=Aside0.mk (Kd.R_drew HO_8.out)
        have n2_:=Aside0.mk (Kd.R_drew HO_9.out)
        have n3_:=Aside0.mk (below_drew1 HB.out)
        clear HO_4
        clear HO_8
        clear HO_9
        clear HB
        have HO_4:=n0_
        have HO_8:=n1_
        have HO_9:=n2_
        have HB:=n3_
        clear n0_ n1_ n2_ n3_
        refine start_ (n:=25) (S:=fun w'=>True) (ds:=[]) #[false,false,false,false,false,false,false,false,false,false,false,false,false,false,false,false,false,false,false,false,false,false,false,false,false] (by kernel_rfl) rfl rfl trivial (fun hHeld=>?_); refine with_tabW nat_long.tab10 nat_long.bits10 (fun HT_ HW_=>?_)
        generalize wr.drew=w37 at HO_4 HO_8 HO_9 HB hHeld ⊢
        refine zU 0 77 #[true,false,false,false,false,false,false,false,false,false,false,false,false,false,false,false,false,false,false,false,false,false,false,false,false] ?_
        refine zU 1 78 #[true,true,false,false,false,false,false,false,false,false,false,false,false,false,false,false,false,false,false,false,false,false,false,false,false] ?_
        refine zU 2 79 #[true,true,true,false,false,false,false,false,false,false,false,false,false,false,false,false,false,false,false,false,false,false,false,false,false] ?_
        refine zU 3 80 #[true,true,true,true,false,false,false,false,false,false,false,false,false,false,false,false,false,false,false,false,false,false,false,false,false] ?_
        refine zV 4 81 #[true,true,true,true,true,false,false,false,false,false,false,false,false,false,false,false,false,false,false,false,false,false,false,false,false] ?_
        refine zV 5 82 #[true,true,true,true,true,true,false,false,false,false,false,false,false,false,false,false,false,false,false,false,false,false,false,false,false] ?_
        refine zV 6 83 #[true,true,true,true,true,true,true,false,false,false,false,false,false,false,false,false,false,false,false,false,false,false,false,false,false] ?_
        refine zV 7 84 #[true,true,true,true,true,true,true,true,false,false,false,false,false,false,false,false,false,false,false,false,false,false,false,false,false] ?_
        refine zV 8 85 #[true,true,true,true,true,true,true,true,true,false,false,false,false,false,false,false,false,false,false,false,false,false,false,false,false] ?_
        refine zV 9 86 #[true,true,true,true,true,true,true,true,true,true,false,false,false,false,false,false,false,false,false,false,false,false,false,false,false] ?_
        refine zV 10 87 #[true,true,true,true,true,true,true,true,true,true,true,false,false,false,false,false,false,false,false,false,false,false,false,false,false] ?_
        refine zV 11 88 #[true,true,true,true,true,true,true,true,true,true,true,true,false,false,false,false,false,false,false,false,false,false,false,false,false] ?_
        refine zV 12 89 #[true,true,true,true,true,true,true,true,true,true,true,true,true,false,false,false,false,false,false,false,false,false,false,false,false] ?_
        refine zV 13 90 #[true,true,true,true,true,true,true,true,true,true,true,true,true,true,false,false,false,false,false,false,false,false,false,false,false] ?_
        refine zV 14 91 #[true,true,true,true,true,true,true,true,true,true,true,true,true,true,true,false,false,false,false,false,false,false,false,false,false] ?_
        refine zV 15 92 #[true,true,true,true,true,true,true,true,true,true,true,true,true,true,true,true,false,false,false,false,false,false,false,false,false] ?_
        refine zV 16 93 #[true,true,true,true,true,true,true,true,true,true,true,true,true,true,true,true,true,false,false,false,false,false,false,false,false] ?_
        refine zV 17 94 #[true,true,true,true,true,true,true,true,true,true,true,true,true,true,true,true,true,true,false,false,false,false,false,false,false] ?_
        refine zV 18 95 #[true,true,true,true,true,true,true,true,true,true,true,true,true,true,true,true,true,true,true,false,false,false,false,false,false] ?_
        refine zV 19 96 #[true,true,true,true,true,true,true,true,true,true,true,true,true,true,true,true,true,true,true,true,false,false,false,false,false] ?_
        refine zV 20 97 #[true,true,true,true,true,true,true,true,true,true,true,true,true,true,true,true,true,true,true,true,true,false,false,false,false] ?_
        refine zV 21 98 #[true,true,true,true,true,true,true,true,true,true,true,true,true,true,true,true,true,true,true,true,true,true,false,false,false] ?_
        refine zV 22 99 #[true,true,true,true,true,true,true,true,true,true,true,true,true,true,true,true,true,true,true,true,true,true,true,false,false] ?_
        refine zV 23 100 #[true,true,true,true,true,true,true,true,true,true,true,true,true,true,true,true,true,true,true,true,true,true,true,true,false] ?_
        refine zU 24 101 #[true,true,true,true,true,true,true,true,true,true,true,true,true,true,true,true,true,true,true,true,true,true,true,true,true] ?_
        refine done_ (done_of HT_.out (by kernel_rfl)) ?_
        try go_wp2
        go_meet
        case rel=>exact ⟨_,(true),zS,H',⟨by have:=HK1.out; have:=HK2.out; first | omega | exact Nat.le_refl _⟩,⟨by (try simp only [hl4_1]); (try simp only [hl8_1]); (with_reducible repeat (first | apply Kd.R_alloc | apply Kd.R_drewN | apply Kd.R_drew)); exact HO_4.out⟩,⟨by (try simp only [hl4_1]); (try simp only [hl8_1]); (with_reducible repeat (first | apply Kd.R_alloc | apply Kd.R_drewN | apply Kd.R_drew)); exact HO_8.out⟩,⟨by (try simp only [hl4_1]); (try simp only [hl8_1]); (with_reducible repeat (first | apply Kd.R_alloc | apply Kd.R_drewN | apply Kd.R_drew)); exact HO_9.out⟩,⟨zB⟩⟩
       rw [if_neg c36] at H
       have c36b0:decide (0 < (x12_2/4294967296))=false:=decide_eq_false c36
       clear c36
       (first | rw [c36b0] | rw [c36b1] | (simp only [i64_w,i32_w]; rw [c36b0]) | skip)
       obtain ⟨ji38,hji38⟩:∃ j_:Int,(wrap64 ((l1.length:Int) - 2))=j_:=⟨_,rfl⟩
       replace H:(if 0≤(ji38) then (if (ji38) < (x9_1.length:Int) then (if 0≤(wrap64 ((wrap64 (x10_1+(l1.length:Int))) - 2)) then (if (wrap64 ((wrap64 (x10_1+(l1.length:Int))) - 2)) < (x8_1.length:Int) then (nat_long.j2 k2 x4_1 t109 (l1.length:Int) x8_1 x9_1 x10_1 x12_2 x13_2 (decide ((IntKind.u64.wrap (x12_2*(IntKind.u64.wrap (rd x9_1 (ji38))))) > (Go.bits .or .u64 (IntKind.u64.wrap (x13_2*4294967296)) (IntKind.u64.wrap (rd x8_1 (wrap64 ((wrap64 (x10_1+(l1.length:Int))) - 2)))))))) else (none)) else (none)) else (none)) else (none))=some (r1,r2):=by first | (rw [hji38] at H; exact H) | (simp only [hji38] at H ⊢; exact H)
       have hji38w:(IntKind.i64.wrap ((l1.length:Int) - 2))=ji38:=(i64_w _).trans hji38
       by_cases c39:0≤(ji38)
       rotate_left
       ·rw [if_neg c39] at H
        exact absurd H (by simp)
       rw [if_pos c39] at H
       have c39b0:decide (0≤(ji38))=true:=decide_eq_true c39
       clear c39
       by_cases c40:(ji38) < (x9_1.length:Int)
       rotate_left
       ·rw [if_neg c40] at H
        exact absurd H (by simp)
       rw [if_pos c40] at H
       have c40b0:decide ((ji38) < (x9_1.length:Int))=true:=decide_eq_true c40
       (try (have c40b0_0:=c40b0; simp only [hl4_1] at c40b0_0))
       (try (have c40b0_1:=c40b0; simp only [hl8_1] at c40b0_1))
       clear c40
       obtain ⟨ji41,hji41⟩:∃ j_:Int,(wrap64 ((wrap64 (x10_1+(l1.length:Int))) - 2))=j_:=⟨_,rfl⟩
       replace H:(if 0≤(ji41) then (if (ji41) < (x8_1.length:Int) then (nat_long.j2 k2 x4_1 t109 (l1.length:Int) x8_1 x9_1 x10_1 x12_2 x13_2 (decide ((IntKind.u64.wrap (x12_2*(IntKind.u64.wrap (rd x9_1 (ji38))))) > (Go.bits .or .u64 (IntKind.u64.wrap (x13_2*4294967296)) (IntKind.u64.wrap (rd x8_1 (ji41))))))) else (none)) else (none))=some (r1,r2):=by first | (rw [hji41] at H; exact H) | (simp only [hji41] at H ⊢; exact H)
       have hji41w:(IntKind.i64.wrap ((wrap64 (x10_1+(l1.length:Int))) - 2))=ji41:=(i64_w _).trans hji41
       have hji41_:wrap64 (ji21 - 2)=ji41:=by rw [← hji21]; exact hji41
       by_cases c42:0≤(ji41)
       rotate_left
       ·rw [if_neg c42] at H
        exact absurd H (by simp)
       rw [if_pos c42] at H
       have c42b0:decide (0≤(ji41))=true:=decide_eq_true c42
       clear c42
       by_cases c43:(ji41) < (x8_1.length:Int)
       rotate_left
       ·rw [if_neg c43] at H
        exact absurd H (by simp)
       rw [if_pos c43] at H
       have c43b0:decide ((ji41) < (x8_1.length:Int))=true:=decide_eq_true c43
       (try (have c43b0_0:=c43b0; simp only [hl4_1] at c43b0_0))
       (try (have c43b0_1:=c43b0; simp only [hl8_1] at c43b0_1))
       clear c43
       have H':=Aside0.mk H
       clear H
       try go_wp2
       have n0_:=Aside0.mk (Kd.R_drew HO_4.out)
       have n1_:=Aside0.mk (Kd.R_drew HO_8.out)
       have n2_:=Aside0.mk (Kd.R_drew HO_9.out)
       have n3_:=Aside0.mk (below_drew1 HB.out)
       clear HO_4
       clear HO_8
       clear HO_9
       clear HB
       have HO_4:=n0_
       have HO_8:=n1_
       have HO_9:=n2_
       have HB:=n3_
       clear n0_ n1_ n2_ n3_
       have p123:0≤((ji38):Int):=zD
       have q123:(ji38) < (x9_1.length:Int):=zD
       obtain ⟨ad123,e123,hx123_0⟩:=Kd.at_int (Kd.R_reads' HO_9.out).2.2 (ji38) p123 q123
       obtain rfl:ad121=ad123:=(by injection e123)
       replace p123:=eq_true p123
       replace q123:=eq_true q123
       have vq123:=eq_true (vlt hLV_.out hji38 (by decide) (by decide))
       have p124:0≤((ji41):Int):=zD
       have q124:(ji41) < (x8_1.length:Int):=zD
       obtain ⟨ad124,e124,hx124_0⟩:=Kd.at_int (Kd.R_reads' HO_8.out).2.2 (ji41) p124 q124
       obtain rfl:ad119=ad124:=(by injection e124)
       replace p124:=eq_true p124
       replace q124:=eq_true q124
       refine start_ (n:=25) (S:=fun w'=>w'.cell? (ad121.add ((ji38)).toNat)=some (.int .u32 (rd x9_1 (ji38)))∧w'.cell? (ad119.add ((ji41)).toNat)=some (.int .u32 (rd x8_1 (ji41)))) (ds:=[]) #[false,false,false,false,false,false,false,false,false,false,false,false,false,false,false,false,false,false,false,false,false,false,false,false,false] (by kernel_rfl) rfl rfl ⟨hx123_0,hx124_0⟩ (fun hHeld=>?_); refine with_tabW nat_long.tab10 nat_long.bits10 (fun HT_ HW_=>?_)
       generalize wr.drew=w44 at HO_4 HO_8 HO_9 HB hx123_0 hx124_0 hHeld ⊢
       refine zU 0 77 #[true,false,false,false,false,false,false,false,false,false,false,false,false,false,false,false,false,false,false,false,false,false,false,false,false] ?_
       refine zU 1 78 #[true,true,false,false,false,false,false,false,false,false,false,false,false,false,false,false,false,false,false,false,false,false,false,false,false] ?_
       refine zU 2 79 #[true,true,true,false,false,false,false,false,false,false,false,false,false,false,false,false,false,false,false,false,false,false,false,false,false] ?_
       refine zU 3 80 #[true,true,true,true,false,false,false,false,false,false,false,false,false,false,false,false,false,false,false,false,false,false,false,false,false] ?_
       refine zU 4 81 #[true,true,true,true,true,false,false,false,false,false,false,false,false,false,false,false,false,false,false,false,false,false,false,false,false] ?_
       refine zU 5 82 #[true,true,true,true,true,true,false,false,false,false,false,false,false,false,false,false,false,false,false,false,false,false,false,false,false] ?_
       refine zU 6 83 #[true,true,true,true,true,true,true,false,false,false,false,false,false,false,false,false,false,false,false,false,false,false,false,false,false] ?_
       refine zU 7 84 #[true,true,true,true,true,true,true,true,false,false,false,false,false,false,false,false,false,false,false,false,false,false,false,false,false] ?_
       refine zU 8 85 #[true,true,true,true,true,true,true,true,true,false,false,false,false,false,false,false,false,false,false,false,false,false,false,false,false] ?_
       refine zU 12 89 #[true,true,true,true,true,true,true,true,true,false,false,false,true,false,false,false,false,false,false,false,false,false,false,false,false] ?_
       refine zU 13 90 #[true,true,true,true,true,true,true,true,true,false,false,false,true,true,false,false,false,false,false,false,false,false,false,false,false] ?_
       refine zU 14 91 #[true,true,true,true,true,true,true,true,true,false,false,false,true,true,true,false,false,false,false,false,false,false,false,false,false] ?_
       refine zU 15 92 #[true,true,true,true,true,true,true,true,true,false,false,false,true,true,true,true,false,false,false,false,false,false,false,false,false] ?_
       refine zU 16 93 #[true,true,true,true,true,true,true,true,true,false,false,false,true,true,true,true,true,false,false,false,false,false,false,false,false] ?_
       refine zU 17 94 #[true,true,true,true,true,true,true,true,true,false,false,false,true,true,true,true,true,true,false,false,false,false,false,false,false] ?_
       refine zU 18 95 #[true,true,true,true,true,true,true,true,true,false,false,false,true,true,true,true,true,true,true,false,false,false,false,false,false] ?_
       refine zU 19 96 #[true,true,true,true,true,true,true,true,true,false,false,false,true,true,true,true,true,true,true,true,false,false,false,false,false] ?_
       refine take_ (i:=9) (N:=some 86) (v:=?_) (a':=?_) #[true,true,true,true,true,true,true,true,true,true,false,false,true,true,true,true,true,true,true,true,false,false,false,false,false] rfl rfl (take_ofW HT_.out HW_.out (by kernel_rfl)) (fun _ _ _ h=>h) (Or.inl ⟨by rfl,?_⟩) hHeld ?_ ?_
       rotate_left
       ·rintro w' ⟨s0,s1⟩
        go_simp
        with_reducible rfl
       rotate_left
       ·simp only [Act.put,List.setIfInBounds_toArray,List.set_cons_zero,List.set_cons_succ,i64_w,i32_w]
        rfl
       refine zU 10 87 #[true,true,true,true,true,true,true,true,true,true,true,false,true,true,true,true,true,true,true,true,false,false,false,false,false] ?_
       refine zU 11 88 #[true,true,true,true,true,true,true,true,true,true,true,true,true,true,true,true,true,true,true,true,false,false,false,false,false] ?_
       refine take_ (i:=20) (N:=some 97) (v:=?_) (a':=?_) #[true,true,true,true,true,true,true,true,true,true,true,true,true,true,true,true,true,true,true,true,true,false,false,false,false] rfl rfl (take_ofW HT_.out HW_.out (by kernel_rfl)) (fun _ _ _ h=>h) (Or.inl ⟨by rfl,?_⟩) hHeld ?_ ?_
       rotate_left
       ·rintro w' ⟨s0,s1⟩
        go_simp
        with_reducible rfl
       rotate_left
       ·simp only [Act.put,List.setIfInBounds_toArray,List.set_cons_zero,List.set_cons_succ,i64_w,i32_w]
        rfl
       refine zU 21 98 #[true,true,true,true,true,true,true,true,true,true,true,true,true,true,true,true,true,true,true,true,true,true,false,false,false] ?_
       refine zU 22 99 #[true,true,true,true,true,true,true,true,true,true,true,true,true,true,true,true,true,true,true,true,true,true,true,false,false] ?_
       refine zU 23 100 #[true,true,true,true,true,true,true,true,true,true,true,true,true,true,true,true,true,true,true,true,true,true,true,true,false] ?_
       refine zU 24 101 #[true,true,true,true,true,true,true,true,true,true,true,true,true,true,true,true,true,true,true,true,true,true,true,true,true] ?_
       refine done_ (done_of HT_.out (by kernel_rfl)) ?_
       try go_wp2
       go_meet
       case rel=>exact ⟨_,(decide ((IntKind.u64.wrap (x12_2*(IntKind.u64.wrap (rd x9_1 (ji38))))) > (Go.bits .or .u64 (IntKind.u64.wrap (x13_2*4294967296)) (IntKind.u64.wrap (rd x8_1 (ji41)))))),(by first | rfl | (simp; done) | (simp only [← hji38,← hji41]<;>(first | rfl | simp)) | (simp [*]; done)),H',⟨by have:=HK1.out; have:=HK2.out; first | omega | exact Nat.le_refl _⟩,⟨by (try simp only [hl4_1]); (try simp only [hl8_1]); (with_reducible repeat (first | apply Kd.R_alloc | apply Kd.R_drewN | apply Kd.R_drew)); exact HO_4.out⟩,⟨by (try simp only [hl4_1]); (try simp only [hl8_1]); (with_reducible repeat (first | apply Kd.R_alloc | apply Kd.R_drewN | apply Kd.R_drew)); exact HO_8.out⟩,⟨by (try simp only [hl4_1]); (try simp only [hl8_1]); (with_reducible repeat (first | apply Kd.R_alloc | apply Kd.R_drewN | apply Kd.R_drew)); exact HO_9.out⟩,⟨zB⟩⟩
      case rest =>
       clear HC35
       try clear c1
       try clear p1
       try clear q1
       try clear hx1
       try clear c2
       try clear p2
       try clear c3
       try clear c4
       try clear c4b0
       try clear c5
       try clear c5b0
       try clear p6
       try clear c8
       try clear c9
       try clear c10
       try clear c10b0
       try clear c10b1
       try clear p10
       try clear q10
       try clear hx10
       try clear c11
       try clear c11b0
       try clear c11b1
       try clear p11
       try clear q11
       try clear hx11
       try clear p12
       try clear q12
       try clear hx12
       try clear c20
       try clear c20b0
       try clear c22
       try clear c22b0
       try clear c23
       try clear c23b0
       try clear c25
       try clear c25b0
       try clear c26
       try clear c26b0
       try clear c28
       try clear c28b0
       try clear c29
       try clear c29b0
       try clear c30
       try clear c30b0
       try clear c30b1
       try clear c36
       try clear c36b0
       try clear c39
       try clear c39b0
       try clear c40
       try clear c40b0
       try clear c42
       try clear c42b0
       try clear c43
       try clear c43b0
       try clear hx108_0
       try clear hx119_0
       try clear hx120_0
       try clear hx121_0
       try clear hx122_0
       try clear hx123_0
       try clear hx124_0
       try clear p1
       try clear p10
       try clear p108
       try clear p11
       try clear p119
       try clear p12
       try clear p120
       try clear p121
       try clear p122
       try clear p123
       try clear p124
       try clear p2
       try clear p6
       try clear q1
       try clear q10
       try clear q108
       try clear q11
       try clear q119
       try clear q12
       try clear q120
       try clear q121
       try clear q122
       try clear q123
       try clear q124
       obtain ⟨kq,x101_34,rfl,HA,HJ34,HO_4,HO_8,HO_9,HB⟩:=hcut
       cases kq with
       | zero=>exact absurd HA.out (by simp [nat_long.j2])
       | succ kj34 =>
        have H:=HA.out
        clear HA
        simp only [nat_long.j2] at H
        by_cases c45:x101_34=true
        rotate_left
        ·replace c45:=Bool.eq_false_iff.mpr c45
         subst c45
         have H1:(nat_long.j3 kj34 x4_1 t109 (l1.length:Int) x8_1 x9_1 x10_1 x12_2)=some (r1,r2):=by rw [if_neg (show ¬ (false=true) by decide)] at H; exact H
         clear H
         have H:=H1
         clear H1
         have H':=Aside0.mk H
         clear H
         go_wp2
         go_meet
         case rel=>exact ⟨_,(x12_2),zS,H',⟨by have:=HK1.out; have:=HK2.out; have:=HJ34.out; first | omega | exact Nat.le_refl _⟩,⟨by (try simp only [hl4_1]); (try simp only [hl8_1]); (with_reducible repeat (first | apply Kd.R_alloc | apply Kd.R_drewN | apply Kd.R_drew)); exact HO_4.out⟩,⟨by (try simp only [hl4_1]); (try simp only [hl8_1]); (with_reducible repeat (first | apply Kd.R_alloc | apply Kd.R_drewN | apply Kd.R_drew)); exact HO_8.out⟩,⟨by (try simp only [hl4_1]); (try simp only [hl8_1]); (with_reducible repeat (first | apply Kd.R_alloc | apply Kd.R_drewN | apply Kd.R_drew)); exact HO_9.out⟩,⟨zB⟩⟩
        subst c45
        have H1:(if 0≤(wrap64 ((l1.length:Int) - 1)) then (if (wrap64 ((l1.length:Int) - 1)) < (x9_1.length:Int) then (if ((IntKind.u64.wrap (x13_2+(IntKind.u64.wrap (rd x9_1 (wrap64 ((l1.length:Int) - 1))))))/4294967296) > 0 then (nat_long.j3 kj34 x4_1 t109 (l1.length:Int) x8_1 x9_1 x10_1 (IntKind.u64.wrap (x12_2 - 1))) else (nat_long.l1 kj34 x4_1 t109 (l1.length:Int) x8_1 x9_1 x10_1 (IntKind.u64.wrap (x12_2 - 1)) (IntKind.u64.wrap (x13_2+(IntKind.u64.wrap (rd x9_1 (wrap64 ((l1.length:Int) - 1)))))))) else (none)) else (none))=some (r1,r2):=by rw [if_pos rfl] at H; exact H
        clear H
        have H:=H1
        clear H1
        obtain ⟨ji46,hji46⟩:∃ j_:Int,(wrap64 ((l1.length:Int) - 1))=j_:=⟨_,rfl⟩
        replace H:(if 0≤(ji46) then (if (ji46) < (x9_1.length:Int) then (if ((IntKind.u64.wrap (x13_2+(IntKind.u64.wrap (rd x9_1 (ji46)))))/4294967296) > 0 then (nat_long.j3 kj34 x4_1 t109 (l1.length:Int) x8_1 x9_1 x10_1 (IntKind.u64.wrap (x12_2 - 1))) else (nat_long.l1 kj34 x4_1 t109 (l1.length:Int) x8_1 x9_1 x10_1 (IntKind.u64.wrap (x12_2 - 1)) (IntKind.u64.wrap (x13_2+(IntKind.u64.wrap (rd x9_1 (ji46))))))) else (none)) else (none))=some (r1,r2):=by first | (rw [hji46] at H; exact H) | (simp only [hji46] at H ⊢; exact H)
        have hji46w:(IntKind.i64.wrap ((l1.length:Int) - 1))=ji46:=(i64_w _).trans hji46
        obtain rfl:ji46=ji27:=hji46.symm.trans hji27
        by_cases c47:0≤(ji46)
        rotate_left
        ·rw [if_neg c47] at H
         exact absurd H (by simp)
        rw [if_pos c47] at H
        have c47b0:decide (0≤(ji46))=true:=decide_eq_true c47
        clear c47
        by_cases c48:(ji46) < (x9_1.length:Int)
        rotate_left
        ·rw [if_neg c48] at H
         exact absurd H (by simp)
        rw [if_pos c48] at H
        have c48b0:decide ((ji46) < (x9_1.length:Int))=true:=decide_eq_true c48
        (try (have c48b0_0:=c48b0; simp only [hl4_1] at c48b0_0))
        (try (have c48b0_1:=c48b0; simp only [hl8_1] at c48b0_1))
        clear c48
        by_cases c49:((IntKind.u64.wrap (x13_2+(IntKind.u64.wrap (rd x9_1 (ji46)))))/4294967296) > 0
        ·rw [if_pos c49] at H
         have c49b0:decide (0 < ((IntKind.u64.wrap (x13_2+(IntKind.u64.wrap (rd x9_1 (ji46)))))/4294967296))=true:=decide_eq_true c49
         clear c49
         have H':=Aside0.mk H
         clear H
         have p125:0≤((ji46):Int):=zD
         have q125:(ji46) < (x9_1.length:Int):=zD
         obtain ⟨ad125,e125,hx125_0⟩:=Kd.at_int (Kd.R_reads' HO_9.out).2.2 (ji46) p125 q125
         obtain rfl:ad121=ad125:=(by injection e125)
         replace p125:=eq_true p125
         replace q125:=eq_true q125
         have vq125:=eq_true (vlt hLV_.out hji46 (by decide) (by decide))
         go_wp2
         go_meet
         case rel=>exact ⟨_,(IntKind.u64.wrap (x12_2 - 1)),zS,H',⟨by have:=HK1.out; have:=HK2.out; have:=HJ34.out; first | omega | exact Nat.le_refl _⟩,⟨by (try simp only [hl4_1]); (try simp only [hl8_1]); (with_reducible repeat (first | apply Kd.R_alloc | apply Kd.R_drewN | apply Kd.R_drew)); exact HO_4.out⟩,⟨by (try simp only [hl4_1]); (try simp only [hl8_1]); (with_reducible repeat (first | apply Kd.R_alloc | apply Kd.R_drewN | apply Kd.R_drew)); exact HO_8.out⟩,⟨by (try simp only [hl4_1]); (try simp only [hl8_1]); (with_reducible repeat (first | apply Kd.R_alloc | apply Kd.R_drewN | apply Kd.R_drew)); exact HO_9.out⟩,⟨zB⟩⟩
        rw [if_neg c49] at H
        have c49b0:decide (0 < ((IntKind.u64.wrap (x13_2+(IntKind.u64.wrap (rd x9_1 (ji46)))))/4294967296))=false:=decide_eq_false c49
        clear c49
        have H':=Aside0.mk H
        clear H
        have p125:0≤((ji46):Int):=zD
        have q125:(ji46) < (x9_1.length:Int):=zD
        obtain ⟨ad125,e125,hx125_0⟩:=Kd.at_int (Kd.R_reads' HO_9.out).2.2 (ji46) p125 q125
        obtain rfl:ad121=ad125:=(by injection e125)
        replace p125:=eq_true p125
        replace q125:=eq_true q125
        have vq125:=eq_true (vlt hLV_.out hji46 (by decide) (by decide))
        go_wp2
        go_roundg kj34
        case measure=>have:=HK1.out; have:=HK2.out; have:=HJ34.out; omega
        case rel=>exact ⟨(IntKind.u64.wrap (x12_2 - 1)),(IntKind.u64.wrap (x13_2+(IntKind.u64.wrap (rd x9_1 (ji46))))),zS,(by first | rfl | (simp; done) | (simp only [← hji46]<;>(first | rfl | simp)) | (simp [*]; done)),H',⟨by have:=HK1.out; have:=HK2.out; have:=HJ34.out; omega⟩,⟨by (try simp only [hl4_1]); (try simp only [hl8_1]); (with_reducible repeat (first | apply Kd.R_alloc | apply Kd.R_drewN | apply Kd.R_drew)); exact HO_4.out⟩,⟨by (try simp only [hl4_1]); (try simp only [hl8_1]); (with_reducible repeat (first | apply Kd.R_alloc | apply Kd.R_drewN | apply Kd.R_drew)); exact HO_8.out⟩,⟨by (try simp only [hl4_1]); (try simp only [hl8_1]); (with_reducible repeat (first | apply Kd.R_alloc | apply Kd.R_drewN | apply Kd.R_drew)); exact HO_9.out⟩,⟨zB⟩⟩
   case rest =>
    clear HC31
    try clear c1
    try clear p1
    try clear q1
    try clear hx1
    try clear c2
    try clear p2
    try clear c3
    try clear c4
    try clear c4b0
    try clear c5
    try clear c5b0
    try clear p6
    try clear c8
    try clear c9
    try clear c10
    try clear c10b0
    try clear c10b1
    try clear p10
    try clear q10
    try clear hx10
    try clear c11
    try clear c11b0
    try clear c11b1
    try clear p11
    try clear q11
    try clear hx11
    try clear p12
    try clear q12
    try clear hx12
    try clear c20
    try clear c20b0
    try clear c22
    try clear c22b0
    try clear c23
    try clear c23b0
    try clear c25
    try clear c25b0
    try clear c26
    try clear c26b0
    try clear c28
    try clear c28b0
    try clear c29
    try clear c29b0
    try clear c30
    try clear c30b0
    try clear c30b1
    try clear c36
    try clear c36b0
    try clear c39
    try clear c39b0
    try clear c40
    try clear c40b0
    try clear c42
    try clear c42b0
    try clear c43
    try clear c43b0
    try clear c45
    try clear c47
    try clear c47b0
    try clear c48
    try clear c48b0
    try clear c49
    try clear c49b0
    try clear hx108_0
    try clear hx119_0
    try clear hx120_0
    try clear hx121_0
    try clear hx122_0
    try clear hx123_0
    try clear hx124_0
    try clear hx125_0
    try clear p1
    try clear p10
    try clear p108
    try clear p11
    try clear p119
    try clear p12
    try clear p120
    try clear p121
    try clear p122
    try clear p123
    try clear p124
    try clear p125
    try clear p2
    try clear p6
    try clear q1
    try clear q10
    try clear q108
    try clear q11
    try clear q119
    try clear q12
    try clear q120
    try clear q121
    try clear q122
    try clear q123
    try clear q124
    try clear q125
    obtain ⟨kq,x12_30,rfl,HA,HJ30,HO_4,HO_8,HO_9,HB⟩:=hcut
    cases kq with
    | zero=>exact absurd HA.out (by simp [nat_long.j3])
    | succ kj30 =>
     have H:=HA.out
     clear HA
     simp only [nat_long.j3] at H
     replace H:=Option.bind_eq_some_iff.mp H
     obtain ⟨⟨t126,t127⟩,A500,H⟩:=H
     replace H:(if t126=true then ((nat_putBackAt.f t127 x9_1 x10_1 (l1.length:Int)).bind fun t128=>(if 0≤x10_1 then (if x10_1 < (x4_1.length:Int) then (nat_long.l0 kj30 (x4_1.set (x10_1:Int).toNat ((IntKind.u64.wrap (x12_30 - 1))%4294967296)) t109 (l1.length:Int) t128 x9_1 (wrap64 (x10_1 - 1))) else (none)) else (none))) else (if 0≤x10_1 then (if x10_1 < (x4_1.length:Int) then (nat_long.l0 kj30 (x4_1.set (x10_1:Int).toNat ((x12_30)%4294967296)) t109 (l1.length:Int) t127 x9_1 (wrap64 (x10_1 - 1))) else (none)) else (none)))=some (r1,r2):=H
     have A50:=Aside0.mk A500
     clear A500
     by_cases c51:t126=true
     ·subst c51
      have H1:((nat_putBackAt.f t127 x9_1 x10_1 (l1.length:Int)).bind fun t128=>(if 0≤x10_1 then (if x10_1 < (x4_1.length:Int) then (nat_long.l0 kj30 (x4_1.set (x10_1:Int).toNat ((IntKind.u64.wrap (x12_30 - 1))%4294967296)) t109 (l1.length:Int) t128 x9_1 (wrap64 (x10_1 - 1))) else (none)) else (none)))=some (r1,r2):=by rw [if_pos rfl] at H; exact H
      clear H
      have H:=H1
      clear H1
      replace H:=Option.bind_eq_some_iff.mp H
      obtain ⟨t128,A520,H⟩:=H
      replace H:(if 0≤x10_1 then (if x10_1 < (x4_1.length:Int) then (nat_long.l0 kj30 (x4_1.set (x10_1:Int).toNat ((IntKind.u64.wrap (x12_30 - 1))%4294967296)) t109 (l1.length:Int) t128 x9_1 (wrap64 (x10_1 - 1))) else (none)) else (none))=some (r1,r2):=H
      have A52:=Aside0.mk A520
      clear A520
      by_cases c53:0≤x10_1
      ·rw [if_pos c53] at H
       have c53b0:decide (0≤x10_1)=true:=decide_eq_true c53
       clear c53
       by_cases c54:x10_1 < (x4_1.length:Int)
       ·rw [if_pos c54] at H
        have c54b0:decide (x10_1 < (x4_1.length:Int))=true:=decide_eq_true c54
        (try (have c54b0_0:=c54b0; simp only [hl4_1] at c54b0_0))
        (try (have c54b0_1:=c54b0; simp only [hl8_1] at c54b0_1))
        clear c54
        obtain ⟨y129,hy129⟩:∃ y_:List Int,y_=(x4_1.set (x10_1:Int).toNat ((IntKind.u64.wrap (x12_30 - 1))%4294967296)):=⟨_,rfl⟩
        replace H:(nat_long.l0 kj30 y129 t109 (l1.length:Int) t128 x9_1 (wrap64 (x10_1 - 1)))=some (r1,r2):=by first | (rw [hy129]; with_reducible exact H) | (have H2_:=(Option.bind_some _ _).symm.trans H; rw [hy129]; with_reducible exact H2_) | (have H2_:=(Option.bind_some _ _).symm.trans H; with_reducible exact H2_) | with_reducible exact H | (rw [hy129]; exact H) | exact H
        have Ny129:=Aside0.mk hy129
        clear hy129
        have H':=Aside0.mk H
        clear H
        have hokT_:=Aside0.mk (nat_takeAwayAt.ok A50.out)
        have hlT_:=Aside0.mk (nat_takeAwayAt.length A50.out)
        obtain ⟨goU,coU,eoU,gbU,glU,clU,HGU⟩:=Kd.R_form HO_8.out (by have:=hokT_.out; omega)
        (first | cases eoU | (injection eoU with ea_ en_ ec_; (first | subst ea_ | (injection ea_ with ea_; subst ea_)); subst ec_; clear en_))
        clear gbU glU HGU clU
        obtain ⟨jiU,hjiU⟩:∃ j_:Int,wrap64 (ji21+1)=j_:=⟨_,rfl⟩
        have hjiUw:IntKind.i64.wrap (ji21+1)=jiU:=(i64_w _).trans hjiU
        have hcapU_:=(Kd.R_reads' HO_8.out).2.1
        have hcutU:=cut_window (P:=Tryd.prog) 47 89 Tryd.underlying47 hiV.out hsV.out goU x8_1.length co16 l1.length x10_1 hokT_.out.1 hokT_.out.2.1 hcapU_ hokT_.out.2.2.1 hji21 hjiU
        clear hcapU_
        go_wp2_with (first | ((with_reducible refine zG 94 ?_); refine zL 124 Tryd.func94 #[.slice (some ⟨goU,x10_1.toNat,none⟩) (l1.length+1) (co16 - x10_1.toNat),.slice (some ad121) l1.length co34,.int .u64 x12_30] ?_; (with_reducible refine (nat_takeAwayAt.calls (fun k_=>some k_=(.slice (some ⟨goU,0,none⟩) x8_1.length co16:Value).ownBlock) goU co16 x8_1.length x8_1 _ _ x9_1 x12_30 x10_1 (l1.length:Int) true t127 w _ ?side1 ?side2 ?side3 ?side4 A50.out x10_1.toNat l1.length (co16 - x10_1.toNat) (by have:=hokT_.out.1; omega) rfl rfl).mono ?_); (case side1=>exact zB); (case side2=>exact Kd.R_tight rfl HO_8.out); (case side3=>exact Kd.C_kept_own (HO_9.out) (fun k_ hk_ hs_=>(hk_.2) hs_)); (case side4=>exact (Kd.R_reads' HO_9.out).2.1); rintro e w56 ⟨rfl,hy0,hb,hkp⟩; refine ⟨_,rfl,?_⟩; replace HO_4:=Aside0.mk (Kd.R_mono (ok':=fun k_=>some k_≠(.slice (some ⟨goU,0,none⟩) x8_1.length co16:Value).ownBlock∧some k_≠(.slice (some ad121) x9_1.length co34:Value).ownBlock) (Kd.R_keptB (HO_4.out) hkp (fun k_ hk_ hs_=>(hk_.1) hs_)) (fun k_ hk_=>⟨hk_.1.1,hk_.1.2⟩)); replace HO_8:=Aside0.mk (Kd.R_reok rfl hy0 (fun k_ e_=>HO_8.out.1 k_ e_)); replace HO_9:=Aside0.mk (Kd.R_mono (ok':=fun k_=>some k_≠(.slice Ao19 x4_1.length co19:Value).ownBlock∧some k_≠(.slice (some ⟨goU,0,none⟩) x8_1.length co16:Value).ownBlock) (Kd.R_keptB (HO_9.out) hkp (fun k_ hk_ hs_=>(hk_.2) hs_)) (fun k_ hk_=>⟨hk_.1.1,hk_.1.2⟩)); replace HB:=Aside0.mk (hb); (try clear hb); (try clear hkp); (try clear hy0)) | ((with_reducible refine zG 95 ?_); refine zL 135 Tryd.func95 #[.slice (some ⟨goU,x10_1.toNat,none⟩) (l1.length+1) (co16 - x10_1.toNat),.slice (some ad121) l1.length co34] ?_; (with_reducible refine (nat_putBackAt.calls (fun k_=>some k_=(.slice (some ⟨goU,0,none⟩) x8_1.length co16:Value).ownBlock) goU co16 x8_1.length t127 _ _ x9_1 x10_1 (l1.length:Int) t128 w _ ?side1 ?side2 ?side3 ?side4 A52.out x10_1.toNat l1.length (co16 - x10_1.toNat) (by have:=hokT_.out.1; omega) rfl hlT_.out.symm).mono ?_); (case side1=>exact zB); (case side2=>exact Kd.R_tight rfl HO_8.out); (case side3=>exact Kd.C_kept_own (HO_9.out) (fun k_ hk_ hs_=>(hk_.2) hs_)); (case side4=>exact (Kd.R_reads' HO_9.out).2.1); rintro e w57 ⟨rfl,hy0,hb,hkp⟩; refine ⟨_,rfl,?_⟩; replace HO_4:=Aside0.mk (Kd.R_mono (ok':=fun k_=>some k_≠(.slice (some ⟨goU,0,none⟩) x8_1.length co16:Value).ownBlock∧some k_≠(.slice (some ad121) x9_1.length co34:Value).ownBlock) (Kd.R_keptB (HO_4.out) hkp (fun k_ hk_ hs_=>(hk_.1) hs_)) (fun k_ hk_=>⟨hk_.1.1,hk_.1.2⟩)); replace HO_8:=Aside0.mk (Kd.R_reok rfl hy0 (fun k_ e_=>HO_8.out.1 k_ e_)); replace HO_9:=Aside0.mk (Kd.R_mono (ok':=fun k_=>some k_≠(.slice Ao19 x4_1.length co19:Value).ownBlock∧some k_≠(.slice (some ⟨goU,0,none⟩) x8_1.length co16:Value).ownBlock) (Kd.R_keptB (HO_9.out) hkp (fun k_ hk_ hs_=>(hk_.2) hs_)) (fun k_ hk_=>⟨hk_.1.1,hk_.1.2⟩)); replace HB:=Aside0.mk (hb); (try clear hb); (try clear hkp); (try clear hy0); have p55:0≤(x10_1:Int):=zD; have q55:(x10_1:Int) < ((x4_1.length:Int):Int):=zD; obtain ⟨go55,co55,eo55,gb55,gl55,cl55,HG55⟩:=Kd.R_form HO_4.out (by omega); (first | cases eo55 | (injection eo55 with ea_ en_ ec_; (first | subst ea_ | (injection ea_ with ea_; subst ea_)); subst ec_; clear en_)); have GB55:=Aside0.mk gb55; have GG55:=Aside0.mk HG55; clear gb55 gl55 HG55; obtain ⟨hx55_0,hf55_0⟩:=Kd.R_celln 0 HO_4.out (x10_1:Int) p55 q55; replace p55:=eq_true p55; replace q55:=eq_true q55; obtain ⟨hy58_,hz58_⟩:=Kd.R_celln 0 HO_4.out (x10_1:Int) zD zD; have HP58:=Kd.R_putg HO_4.out (x10_1:Int) ((IntKind.u64.wrap (x12_30 - 1))%4294967296)) | ((with_reducible refine gate_store (t:=89) (p:=140) rfl ?_); refine store_event (t:=89) (p:=140) (v:=?vo_w59) (w1:=(w57.setCell ⟨go55,(x10_1:Int).toNat,none⟩ (.int .u32 ((IntKind.u64.wrap (x12_30 - 1))%4294967296)))) ?hg ?ho ?hn ?hr ?_; (case ho=>rfl); (case hg=>rfl); (case hn=>rfl); (case hr=>first | (go_simp; done) | (go_simp; rfl)); intro w59 hw; have hg:w57.grownBy w59 (some go55):=(by rw [hw]; exact HP58.2); have hp_:Kd.R (Kd.int .u32) 89 w59 w.heap.size (fun k_=>some k_≠(.slice (some ⟨goU,0,none⟩) x8_1.length co16:Value).ownBlock∧some k_≠(.slice (some ad121) x9_1.length co34:Value).ownBlock) (.slice (some ⟨go55,0,none⟩) x4_1.length co19) y129:=(by rw [hw,Ny129.out]; exact HP58.1); clear HP58; replace HO_4:=Aside0.mk (hp_); replace HO_8:=Aside0.mk (Kd.R_after (v:=(.slice (some ⟨go55,0,none⟩) x4_1.length co19)) (v1:=(.slice (some ⟨go55,0,none⟩) x4_1.length co19)) (ok:=(fun k_=>some k_≠(.slice (some ad121) x9_1.length co34:Value).ownBlock)) (by (with_reducible repeat (first | apply Kd.R_alloc | apply Kd.R_drewN | apply Kd.R_drew)); exact Kd.R_mono HO_8.out (fun _ hk=>⟨hk.2,hk.1⟩)) hg (.inl rfl)); replace HO_9:=Aside0.mk (Kd.R_after (v:=(.slice (some ⟨go55,0,none⟩) x4_1.length co19)) (v1:=(.slice (some ⟨go55,0,none⟩) x4_1.length co19)) (ok:=(fun k_=>some k_≠(.slice (some ⟨goU,0,none⟩) x8_1.length co16:Value).ownBlock)) (by (with_reducible repeat (first | apply Kd.R_alloc | apply Kd.R_drewN | apply Kd.R_drew)); exact Kd.R_mono HO_9.out (fun _ hk=>⟨hk.2,hk.1⟩)) hg (.inl rfl)); replace HB:=Aside0.mk ((by rw [hw]; exact below_set (HB.out) GB55.out:Below w.heap.size w w59)); clear hg hw hp_))
        (try simp only [← hl4_1,← hl8_1])
        go_roundg kj30
        case measure=>have:=HK1.out; have:=HJ30.out; omega
        case rel=>exact ⟨(y129),(t128),(x9_1),(wrap64 (x10_1 - 1)),zS,H',⟨by have:=HK1.out; have:=HJ30.out; omega⟩,⟨by (try simp only [hl4_1]); (try simp only [hl8_1]); (with_reducible repeat (first | apply Kd.R_alloc | apply Kd.R_drewN | apply Kd.R_drew)); exact HO_4.out⟩,⟨by (try simp only [hl4_1]); (try simp only [hl8_1]); (with_reducible repeat (first | apply Kd.R_alloc | apply Kd.R_drewN | apply Kd.R_drew)); exact Kd.R_mono HO_8.out (fun _ hk=>⟨hk.2,hk.1⟩)⟩,⟨by (try simp only [hl4_1]); (try simp only [hl8_1]); (with_reducible repeat (first | apply Kd.R_alloc | apply Kd.R_drewN | apply Kd.R_drew)); exact Kd.R_mono HO_9.out (fun _ hk=>⟨hk.2,hk.1⟩)⟩,⟨zB⟩⟩
       rw [if_neg c54] at H
       exact absurd H (by simp)
      rw [if_neg c53] at H
      exact absurd H (by simp)
     replace c51:=Bool.eq_false_iff.mpr c51
     subst c51
     have H1:(if 0≤x10_1 then (if x10_1 < (x4_1.length:Int) then (nat_long.l0 kj30 (x4_1.set (x10_1:Int).toNat ((x12_30)%4294967296)) t109 (l1.length:Int) t127 x9_1 (wrap64 (x10_1 - 1))) else (none)) else (none))=some (r1,r2):=by rw [if_neg (show ¬ (false=true) by decide)] at H; exact H
     clear H
     have H:=H1
     clear H1
     by_cases c60:0≤x10_1
     ·rw [if_pos c60] at H
      have c60b0:decide (0≤x10_1)=true:=decide_eq_true c60
      clear c60
      by_cases c61:x10_1 < (x4_1.length:Int)
      ·rw [if_pos c61] at H
       have c61b0:decide (x10_1 < (x4_1.length:Int))=true:=decide_eq_true c61
       (try (have c61b0_0:=c61b0; simp only [hl4_1] at c61b0_0))
       (try (have c61b0_1:=c61b0; simp only [hl8_1] at c61b0_1))
       clear c61
       obtain ⟨y130,hy130⟩:∃ y_:List Int,y_=(x4_1.set (x10_1:Int).toNat ((x12_30)%4294967296)):=⟨_,rfl⟩
       replace H:(nat_long.l0 kj30 y130 t109 (l1.length:Int) t127 x9_1 (wrap64 (x10_1 - 1)))=some (r1,r2):=by first | (rw [hy130]; with_reducible exact H) | (have H2_:=(Option.bind_some _ _).symm.trans H; rw [hy130]; with_reducible exact H2_) | (have H2_:=(Option.bind_some _ _).symm.trans H; with_reducible exact H2_) | with_reducible exact H | (rw [hy130]; exact H) | exact H
       have Ny130:=Aside0.mk hy130
       clear hy130
       have H':=Aside0.mk H
       clear H
       have hokT_:=Aside0.mk (nat_takeAwayAt.ok A50.out)
       have hlT_:=Aside0.mk (nat_takeAwayAt.length A50.out)
       obtain ⟨goU,coU,eoU,gbU,glU,clU,HGU⟩:=Kd.R_form HO_8.out (by have:=hokT_.out; omega)
       (first | cases eoU | (injection eoU with ea_ en_ ec_; (first | subst ea_ | (injection ea_ with ea_; subst ea_)); subst ec_; clear en_))
       clear gbU glU HGU clU
       obtain ⟨jiU,hjiU⟩:∃ j_:Int,wrap64 (ji21+1)=j_:=⟨_,rfl⟩
       have hjiUw:IntKind.i64.wrap (ji21+1)=jiU:=(i64_w _).trans hjiU
       have hcapU_:=(Kd.R_reads' HO_8.out).2.1
       have hcutU:=cut_window (P:=Tryd.prog) 47 89 Tryd.underlying47 hiV.out hsV.out goU x8_1.length co16 l1.length x10_1 hokT_.out.1 hokT_.out.2.1 hcapU_ hokT_.out.2.2.1 hji21 hjiU
       clear hcapU_
       go_wp2_with (first | ((with_reducible refine zG 94 ?_); refine zL 124 Tryd.func94 #[.slice (some ⟨goU,x10_1.toNat,none⟩) (l1.length+1) (co16 - x10_1.toNat),.slice (some ad121) l1.length co34,.int .u64 x12_30] ?_; (with_reducible refine (nat_takeAwayAt.calls (fun k_=>some k_=(.slice (some ⟨goU,0,none⟩) x8_1.length co16:Value).ownBlock) goU co16 x8_1.length x8_1 _ _ x9_1 x12_30 x10_1 (l1.length:Int) false t127 w _ ?side1 ?side2 ?side3 ?side4 A50.out x10_1.toNat l1.length (co16 - x10_1.toNat) (by have:=hokT_.out.1; omega) rfl rfl).mono ?_); (case side1=>exact zB); (case side2=>exact Kd.R_tight rfl HO_8.out); (case side3=>exact Kd.C_kept_own (HO_9.out) (fun k_ hk_ hs_=>(hk_.2) hs_)); (case side4=>exact (Kd.R_reads' HO_9.out).2.1); rintro e w63 ⟨rfl,hy0,hb,hkp⟩; refine ⟨_,rfl,?_⟩; replace HO_4:=Aside0.mk (Kd.R_mono (ok':=fun k_=>some k_≠(.slice (some ⟨goU,0,none⟩) x8_1.length co16:Value).ownBlock∧some k_≠(.slice (some ad121) x9_1.length co34:Value).ownBlock) (Kd.R_keptB (HO_4.out) hkp (fun k_ hk_ hs_=>(hk_.1) hs_)) (fun k_ hk_=>⟨hk_.1.1,hk_.1.2⟩)); replace HO_8:=Aside0.mk (Kd.R_reok rfl hy0 (fun k_ e_=>HO_8.out.1 k_ e_)); replace HO_9:=Aside0.mk (Kd.R_mono (ok':=fun k_=>some k_≠(.slice Ao19 x4_1.length co19:Value).ownBlock∧some k_≠(.slice (some ⟨goU,0,none⟩) x8_1.length co16:Value).ownBlock) (Kd.R_keptB (HO_9.out) hkp (fun k_ hk_ hs_=>(hk_.2) hs_)) (fun k_ hk_=>⟨hk_.1.1,hk_.1.2⟩)); replace HB:=Aside0.mk (hb); (try clear hb); (try clear hkp); (try clear hy0); have p62:0≤(x10_1:Int):=zD; have q62:(x10_1:Int) < ((x4_1.length:Int):Int):=zD; obtain ⟨go62,co62,eo62,gb62,gl62,cl62,HG62⟩:=Kd.R_form HO_4.out (by omega); (first | cases eo62 | (injection eo62 with ea_ en_ ec_; (first | subst ea_ | (injection ea_ with ea_; subst ea_)); subst ec_; clear en_)); have GB62:=Aside0.mk gb62; have GG62:=Aside0.mk HG62; clear gb62 gl62 HG62; obtain ⟨hx62_0,hf62_0⟩:=Kd.R_celln 0 HO_4.out (x10_1:Int) p62 q62; replace p62:=eq_true p62; replace q62:=eq_true q62; obtain ⟨hy64_,hz64_⟩:=Kd.R_celln 0 HO_4.out (x10_1:Int) zD zD; have HP64:=Kd.R_putg HO_4.out (x10_1:Int) ((x12_30)%4294967296)) | ((with_reducible refine gate_store (t:=89) (p:=140) rfl ?_); refine store_event (t:=89) (p:=140) (v:=?vo_w65) (w1:=(w63.setCell ⟨go62,(x10_1:Int).toNat,none⟩ (.int .u32 ((x12_30)%4294967296)))) ?hg ?ho ?hn ?hr ?_; (case ho=>rfl); (case hg=>rfl); (case hn=>rfl); (case hr=>first | (go_simp; done) | (go_simp; rfl)); intro w65 hw; have hg:w63.grownBy w65 (some go62):=(by rw [hw]; exact HP64.2); have hp_:Kd.R (Kd.int .u32) 89 w65 w.heap.size (fun k_=>some k_≠(.slice (some ⟨goU,0,none⟩) x8_1.length co16:Value).ownBlock∧some k_≠(.slice (some ad121) x9_1.length co34:Value).ownBlock) (.slice (some ⟨go62,0,none⟩) x4_1.length co19) y130:=(by rw [hw,Ny130.out]; exact HP64.1); clear HP64; replace HO_4:=Aside0.mk (hp_); replace HO_8:=Aside0.mk (Kd.R_after (v:=(.slice (some ⟨go62,0,none⟩) x4_1.length co19)) (v1:=(.slice (some ⟨go62,0,none⟩) x4_1.length co19)) (ok:=(fun k_=>some k_≠(.slice (some ad121) x9_1.length co34:Value).ownBlock)) (by (with_reducible repeat (first | apply Kd.R_alloc | apply Kd.R_drewN | apply Kd.R_drew)); exact Kd.R_mono HO_8.out (fun _ hk=>⟨hk.2,hk.1⟩)) hg (.inl rfl)); replace HO_9:=Aside0.mk (Kd.R_after (v:=(.slice (some ⟨go62,0,none⟩) x4_1.length co19)) (v1:=(.slice (some ⟨go62,0,none⟩) x4_1.length co19)) (ok:=(fun k_=>some k_≠(.slice (some ⟨goU,0,none⟩) x8_1.length co16:Value).ownBlock)) (by (with_reducible repeat (first | apply Kd.R_alloc | apply Kd.R_drewN | apply Kd.R_drew)); exact Kd.R_mono HO_9.out (fun _ hk=>⟨hk.2,hk.1⟩)) hg (.inl rfl)); replace HB:=Aside0.mk ((by rw [hw]; exact below_set (HB.out) GB62.out:Below w.heap.size w w65)); clear hg hw hp_))
       (try simp only [← hl4_1,← hl8_1])
       go_roundg kj30
       case measure=>have:=HK1.out; have:=HJ30.out; omega
       case rel=>exact ⟨(y130),(t127),(x9_1),(wrap64 (x10_1 - 1)),zS,H',⟨by have:=HK1.out; have:=HJ30.out; omega⟩,⟨by (try simp only [hl4_1]); (try simp only [hl8_1]); (with_reducible repeat (first | apply Kd.R_alloc | apply Kd.R_drewN | apply Kd.R_drew)); exact HO_4.out⟩,⟨by (try simp only [hl4_1]); (try simp only [hl8_1]); (with_reducible repeat (first | apply Kd.R_alloc | apply Kd.R_drewN | apply Kd.R_drew)); exact Kd.R_mono HO_8.out (fun _ hk=>⟨hk.2,hk.1⟩)⟩,⟨by (try simp only [hl4_1]); (try simp only [hl8_1]); (with_reducible repeat (first | apply Kd.R_alloc | apply Kd.R_drewN | apply Kd.R_drew)); exact Kd.R_mono HO_9.out (fun _ hk=>⟨hk.2,hk.1⟩)⟩,⟨zB⟩⟩
      rw [if_neg c61] at H
      exact absurd H (by simp)
     rw [if_neg c60] at H
     exact absurd H (by simp)
end Go.Proofs.YtmkgijiniopalaaDoor.L
