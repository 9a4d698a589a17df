import Derived.Test.YtdehklffhemmdaaDoorYR0
import Derived.Test.YtdehklffhemmdaaDoorYR1
import Derived.Test.YtdehklffhemmdaaDoorYZ
namespace Go.Proofs.YtdehklffhemmdaaDoor.R
open Go.RowKit Go.Proofs.YtdehklffhemmdaaDoor.Z Go.Proofs.YtdehklffhemmdaaDoor.A Go.Proofs.YtdehklffhemmdaaDoor.H Go.Proofs.YtdehklffhemmdaaDoorW.PrintWords Go.Proofs.YtdehklffhemmdaaDoorW.PrintLast Go.Proofs.YtdehklffhemmdaaDoorW.PrintMore
attribute [local go_sem] max2_int min2_int max_two min_two max_three min_three max_four min_four
set_option linter.unusedVariables false
set_option linter.unusedSimpArgs false
set_option maxHeartbeats 8000000
set_option maxRecDepth 100000
mutual
def gantref1_Times.l0:Nat→ByteArray→ByteArray→List Int→Int→Int→Option (ByteArray)
 | 0,_,_,_,_,_=>none
 | k+1,x0,x1,x5,x15,x16=>if x16 < x15 then (gantref1_Times.l1 k x0 x1 x5 x16 0 x15 x16) else ((gantref1_number.f k x5).bind fun t128=>(some t128))
def gantref1_Times.l1:Nat→ByteArray→ByteArray→List Int→Int→Int→Int→Int→Option (ByteArray)
 | 0,_,_,_,_,_,_,_=>none
 | k+1,x0,x1,x5,x6,x7,x15,x16=>if x7≤x6 then (if 0≤x6 then (if x6 < (x5.length:Int) then ((gantref1_digit.f x0 x7).bind fun t130=>((gantref1_digit.f x1 (wrap64 (x6 - x7))).bind fun t131=>(gantref1_Times.l1 k x0 x1 (x5.set (x6:Int).toNat (wrap64 ((rd x5 x6)+(wrap64 (t130*t131))))) x6 (wrap64 (x7+1)) x15 x16))) else (none)) else (none)) else (gantref1_Times.l0 k x0 x1 x5 x15 (wrap64 (x16+1)))
end
def gantref1_Times.f (k:Nat) (a0:ByteArray) (a1:ByteArray):Option (ByteArray):=if 0≤(wrap64 ((a0.size:Int)+(a1.size:Int))) then (if (wrap64 ((a0.size:Int)+(a1.size:Int)):Int).toNat≤35184372088832 then ((some (List.replicate (wrap64 ((a0.size:Int)+(a1.size:Int)):Int).toNat 0:List Int)).bind fun y125=>(gantref1_Times.l0 k a0 a1 y125 (y125.length:Int) 0)) else (none)) else (none)
theorem gantref1_Times.mono_l:∀ k,(∀ y0 y1 y2 y3 y4,LeO (gantref1_Times.l0 k y0 y1 y2 y3 y4) (gantref1_Times.l0 (k+1) y0 y1 y2 y3 y4))∧(∀ y0 y1 y2 y3 y4 y5 y6,LeO (gantref1_Times.l1 k y0 y1 y2 y3 y4 y5 y6) (gantref1_Times.l1 (k+1) y0 y1 y2 y3 y4 y5 y6))
 | 0=>⟨fun _ _ _ _ _ r h=>by simp [gantref1_Times.l0] at h,fun _ _ _ _ _ _ _ r h=>by simp [gantref1_Times.l1] at h⟩
 | k+1=>by
  obtain ⟨ih0,ih1⟩:=gantref1_Times.mono_l k
  refine ⟨?_,?_⟩
  ·intro y0 y1 y2 y3 y4
   unfold gantref1_Times.l0
   repeat' first
   | (with_reducible exact ih0 _ _ _ _ _)
   | (with_reducible exact ih1 _ _ _ _ _ _ _)
   | (with_reducible exact gantref1_number.mono _ _)
   | (with_reducible exact LeO.refl _)
   | (with_reducible exact LeO.none _)
   | (with_reducible refine LeO.ite ?_ ?_)
   | (with_reducible refine LeO.bind ?_ (fun _=>?_))
   | exact ih0 _ _ _ _ _
   | exact ih1 _ _ _ _ _ _ _
   | exact gantref1_number.mono _ _
   | exact LeO.none _
   | refine LeO.ite ?_ ?_
   | refine LeO.bind ?_ (fun _=>?_)
  intro y0 y1 y2 y3 y4 y5 y6
  unfold gantref1_Times.l1
  repeat' first
  | (with_reducible exact ih0 _ _ _ _ _)
  | (with_reducible exact ih1 _ _ _ _ _ _ _)
  | (with_reducible exact gantref1_number.mono _ _)
  | (with_reducible exact LeO.refl _)
  | (with_reducible exact LeO.none _)
  | (with_reducible refine LeO.ite ?_ ?_)
  | (with_reducible refine LeO.bind ?_ (fun _=>?_))
  | exact ih0 _ _ _ _ _
  | exact ih1 _ _ _ _ _ _ _
  | exact gantref1_number.mono _ _
  | exact LeO.none _
  | refine LeO.ite ?_ ?_
  | refine LeO.bind ?_ (fun _=>?_)
theorem gantref1_Times.mono:∀ a0 a1 k,LeO (gantref1_Times.f k a0 a1) (gantref1_Times.f (k+1) a0 a1):=by
 intro a0 a1 k
 obtain ⟨ih0,ih1⟩:=gantref1_Times.mono_l k
 unfold gantref1_Times.f
 repeat' first
   | (with_reducible exact ih0 _ _ _ _ _)
   | (with_reducible exact ih1 _ _ _ _ _ _ _)
   | (with_reducible exact gantref1_number.mono _ _)
   | (with_reducible exact LeO.refl _)
   | (with_reducible exact LeO.none _)
   | (with_reducible refine LeO.ite ?_ ?_)
   | (with_reducible refine LeO.bind ?_ (fun _=>?_))
   | exact ih0 _ _ _ _ _
   | exact ih1 _ _ _ _ _ _ _
   | exact gantref1_number.mono _ _
   | exact LeO.none _
   | refine LeO.ite ?_ ?_
   | refine LeO.bind ?_ (fun _=>?_)
def gantref1_Times.T8:Bool × List (List Nat × List Nat):=(true,[([],[]),([],[]),([0,1],[0,1]),([2],[2]),([],[]),([],[]),([4,5],[4,5]),([],[]),([],[]),([],[]),([8,9],[8,9]),([7,10,6],[7,10]),([6,11],[6,11]),([3,12],[3,12]),([0,1,0,1,2,3,4,5,6,7,8,9,10,11,12,13],[0,1]),([14,13,11,0,1,2,3,4,5,6,7,8,9,10,11,12,13],[13,14])])
def gantref1_Times.B8:List Nat:=[0,0,3,7,0,0,48,0,0,0,768,2032,4080,8191,16383,32767]
theorem gantref1_Times.tab8:rtab .any (opsOf Tryd.f12 8)=gantref1_Times.T8:=by kernel_rfl
theorem gantref1_Times.bits8:waitsOk gantref1_Times.T8.2 gantref1_Times.B8=true:=by kernel_rfl
theorem gantref1_Times.calls (k:Nat) (a0:ByteArray) (a1:ByteArray) (r:ByteArray) (w:World) (h:gantref1_Times.f k a0 a1=some r) :
  Calls Tryd.prog 12 #[.string a0,.string a1] w fun e w'=>e = .returned (.string r)∧Below w.heap.size w w':=by
 have HB:=Aside0.mk (Below.refl w.heap.size w)
 unfold gantref1_Times.f at h
 have H:=h
 clear h
 generalize hji3:(wrap64 ((a0.size:Int)+(a1.size:Int)))=ji3 at H
 have hji3w:(IntKind.i64.wrap ((a0.size:Int)+(a1.size:Int)))=ji3:=(i64_w _).trans hji3
 obtain ⟨c4b0,c4b1,H⟩:=zE H
 obtain ⟨c5b0,c5b1,H⟩:=zE H
 obtain ⟨y125,Ny125⟩:∃ y_:List Int,Aside0 (y_=(List.replicate (ji3:Int).toNat 0)):=⟨_,⟨rfl⟩⟩
 replace H:(gantref1_Times.l0 k a0 a1 y125 (y125.length:Int) 0)=some r:=zY Ny125 H
 have H':=Aside0.mk H
 clear H
 go_enter Tryd.func12,Tryd.ntmps12
 go_wp2_with (first | ((with_reducible refine gate_dst (N:=13) rfl ?_); refine Kd.R_make (Kd.int .i64) _ 3 rfl (N:=13) rfl 43 _ _ rfl ji3 rfl rfl Tryd.underlying43 (.int .i64 0) 8 info3 rfl (by decide) (by omega) 0 (ok:=fun _=>True) (okp:=fun _=>True) rfl zI trivial zD (Nat.le_trans (Nat.mul_le_mul_right _ (zD:ji3.toNat≤35184372088832)) (by omega)) (Below.refl _ _) (Nat.le_refl _) ?_; intro v126 w6 ho7 hb hg_ hnew_; clear hg_ hnew_; (first | rw [← Ny125.out] at ho7 | (simp only [Int.reduceToNat] at ho7; rw [← Ny125.out] at ho7)); have HO127:=Aside0.mk (Kd.R_lower ho7 (below_size zB)); replace HB:=zP hb; clear hb ho7; obtain ⟨Ao8,co8,eo8⟩:=Kd.R_slice HO127.out; subst eo8))
 go_loopg [16] k (fun kq v16 w'=>∃ (x5_1:List Int) (x16_1:Int),v16 = .int .i64 x16_1∧Aside0 (gantref1_Times.l0 kq a0 a1 x5_1 (y125.length:Int) x16_1=some r)∧Aside0 (kq≤k)∧Aside0 (Kd.R (Kd.int .i64) 3 w' w.heap.size (fun _=>True) (.slice Ao8 y125.length co8) x5_1)∧Aside0 (Below w.heap.size w w'))
 case atStart=>exact ⟨(y125),(0),zS,H',⟨Nat.le_refl _⟩,⟨zO HO127⟩,⟨zB⟩⟩
 case round =>
  clear H'
  try clear c1
  try clear p2
  try clear c4
  try clear c4b0
  try clear c4b1
  try clear c5
  try clear c5b0
  try clear c5b1
  try clear p6
  obtain ⟨x5_1,x16_1,rfl,HA,HK1,HO_5,HB⟩:=hrel
  have hl5_1:=(Kd.R_reads' HO_5.out).1
  rw [hl5_1] at HO_5
  (try simp only [hl5_1])
  cases gk with
  | zero=>exact absurd HA.out (by simp [gantref1_Times.l0])
  | succ k1 =>
   have H:=HA.out
   clear HA
   simp only [gantref1_Times.l0] at H
   by_cases c9:x16_1 < (y125.length:Int)
   rotate_left
   ·rw [if_neg c9] at H
    have c9b0:decide (x16_1 < (y125.length:Int))=false:=decide_eq_false c9
    (try (have c9b0_0:=c9b0; simp only [hl5_1] at c9b0_0))
    (try (have c9b0_1:=c9b0; simp only [hl5_2] at c9b0_1))
    clear c9
    obtain ⟨t128,A18,H⟩:=zH H
    obtain rfl:=Option.some.inj H
    go_wp2_with (first | ((with_reducible refine zG 24 ?_); refine zL 41 Tryd.func24 #[.slice Ao8 x5_1.length co8] ?_; (with_reducible refine (gantref1_number.calls k1 _ _ x5_1 t128 _ ?side1 ?side2 A18.out).mono ?_); (case side1=>exact zC HO_5); (case side2=>exact (Kd.R_reads' HO_5.out).2.1); rintro e w19 ⟨rfl,hb⟩; refine ⟨_,rfl,?_⟩; replace HO_5:=Aside0.mk (Kd.R_below (zO HO_5) hb); replace HB:=zP hb; (try clear hb)))
    go_ret
    exact ⟨zQ hji3,zB⟩
   rw [if_pos c9] at H
   have c9b0:decide (x16_1 < (y125.length:Int))=true:=decide_eq_true c9
   (try (have c9b0_0:=c9b0; simp only [hl5_1] at c9b0_0))
   clear c9
   have H':=Aside0.mk H
   clear H
   go_wp2
   go_loopg [7] k1 (fun kq v7 w'=>∃ (x5_2:List Int) (x7_2:Int),v7 = .int .i64 x7_2∧Aside0 (gantref1_Times.l1 kq a0 a1 x5_2 x16_1 x7_2 (y125.length:Int) x16_1=some r)∧Aside0 (kq≤k1)∧Aside0 (Kd.R (Kd.int .i64) 3 w' w.heap.size (fun _=>True) (.slice Ao8 x5_1.length co8) x5_2)∧Aside0 (Below w.heap.size w w'))
   case atStart=>exact ⟨(x5_1),(0),zS,H',⟨Nat.le_refl _⟩,⟨by (try simp only [hl5_1]); (with_reducible repeat (first | apply Kd.R_alloc | apply Kd.R_drewN | apply Kd.R_drew)); exact HO_5.out⟩,⟨zB⟩⟩
   case round =>
    clear H'
    try clear c1
    try clear p2
    try clear c4
    try clear c4b0
    try clear c4b1
    try clear c5
    try clear c5b0
    try clear c5b1
    try clear p6
    try clear c9
    try clear c9b0
    try clear p2
    try clear p6
    obtain ⟨x5_2,x7_2,rfl,HA,HK2,HO_5,HB⟩:=hrel
    have hl5_2:=(Kd.R_reads' HO_5.out).1
    rw [hl5_2] at HO_5
    (try simp only [hl5_2])
    cases gk with
    | zero=>exact absurd HA.out (by simp [gantref1_Times.l1])
    | succ k2 =>
     have H:=HA.out
     clear HA
     simp only [gantref1_Times.l1] at H
     by_cases c10:x7_2≤x16_1
     rotate_left
     ·rw [if_neg c10] at H
      have c10b0:decide (x7_2≤x16_1)=false:=decide_eq_false c10
      clear c10
      have H':=Aside0.mk H
      clear H
      go_wp2
      (try simp only [← hl5_1,← hl5_2])
      go_roundg k2
      case measure=>have:=HK1.out; have:=HK2.out; omega
      case rel=>exact ⟨(x5_2),(wrap64 (x16_1+1)),zS,H',⟨by have:=HK1.out; have:=HK2.out; omega⟩,⟨by (try simp only [hl5_1]); (try simp only [hl5_2]); (with_reducible repeat (first | apply Kd.R_alloc | apply Kd.R_drewN | apply Kd.R_drew)); exact HO_5.out⟩,⟨zB⟩⟩
     rw [if_pos c10] at H
     have c10b0:decide (x7_2≤x16_1)=true:=decide_eq_true c10
     clear c10
     obtain ⟨c11b0,H⟩:=zF H
     obtain ⟨c12b0,H⟩:=zF H
     (try (have c12b0_0:=c12b0; simp only [hl5_1] at c12b0_0))
     (try (have c12b0_1:=c12b0; simp only [hl5_2] at c12b0_1))
     obtain ⟨t130,A13,H⟩:=zH H
     obtain ⟨t131,A14,H⟩:=zH H
     obtain ⟨y132,Ny132⟩:∃ y_:List Int,Aside0 (y_=(x5_2.set (x16_1:Int).toNat (wrap64 ((rd x5_2 x16_1)+(wrap64 (t130*t131)))))):=⟨_,⟨rfl⟩⟩
     replace H:(gantref1_Times.l1 k2 a0 a1 y132 x16_1 (wrap64 (x7_2+1)) (y125.length:Int) x16_1)=some r:=zY Ny132 H
     have H':=Aside0.mk H
     clear H
     try go_wp2
     have n0_:=Aside0.mk (Kd.R_drew HO_5.out)
     have n1_:=Aside0.mk (below_drew1 HB.out)
     clear HO_5
     clear HB
     have HO_5:=n0_
     have HB:=n1_
     clear n0_ n1_
     have p129:0≤(x16_1:Int):=zD
     have q129:x16_1 < (x5_2.length:Int):=zD
     obtain ⟨ad129,e129,hx129_0⟩:=Kd.at_int (Kd.R_reads' HO_5.out).2.2 x16_1 p129 q129
     cases e129
     replace p129:=eq_true p129
     replace q129:=eq_true q129
     refine start_ (n:=16) (S:=fun w'=>w'.cell? (ad129.add (x16_1).toNat)=some (.int .i64 (rd x5_2 x16_1))) (ds:=[15]) #[false,false,false,false,false,false,false,false,false,false,false,false,false,false,false,false] (by kernel_rfl) rfl rfl (hx129_0) (fun hHeld=>?_); refine with_tabW gantref1_Times.tab8 gantref1_Times.bits8 (fun HT_ HW_=>?_)
     generalize wr.drew=w16 at HO_5 HB hx129_0 hHeld ⊢
     refine zU 0 24 #[true,false,false,false,false,false,false,false,false,false,false,false,false,false,false,false] ?_
     refine zU 1 25 #[true,true,false,false,false,false,false,false,false,false,false,false,false,false,false,false] ?_
     refine zU 2 26 #[true,true,true,false,false,false,false,false,false,false,false,false,false,false,false,false] ?_
     refine zU 4 28 #[true,true,true,false,true,false,false,false,false,false,false,false,false,false,false,false] ?_
     refine zU 5 29 #[true,true,true,false,true,true,false,false,false,false,false,false,false,false,false,false] ?_
     refine zU 7 31 #[true,true,true,false,true,true,false,true,false,false,false,false,false,false,false,false] ?_
     refine zU 8 32 #[true,true,true,false,true,true,false,true,true,false,false,false,false,false,false,false] ?_
     refine zU 9 33 #[true,true,true,false,true,true,false,true,true,true,false,false,false,false,false,false] ?_
     refine zU 10 34 #[true,true,true,false,true,true,false,true,true,true,true,false,false,false,false,false] ?_
     refine take_ (i:=3) (N:=some 27) (v:=?_) (a':=?_) #[true,true,true,true,true,true,false,true,true,true,true,false,false,false,false,false] rfl rfl (take_ofW HT_.out HW_.out (by kernel_rfl)) (fun _ _ _ h=>h) (Or.inl ⟨by rfl,?_⟩) hHeld ?_ ?_
     rotate_left
     ·intro w' s0
      go_simp
      with_reducible rfl
     rotate_left
     ·simp only [Act.put,List.setIfInBounds_toArray,List.set_cons_zero,List.set_cons_succ,i64_w,i32_w]
      rfl
     refine one_ (i:=6) (N:=some 30) #[true,true,true,true,true,true,true,true,true,true,true,false,false,false,false,false] rfl rfl (one_of HT_.out (by kernel_rfl)) (by decide) (fun K hK=>?_)
     refine goes_ Tryd.func23 (by kernel_rfl) rfl #[.string a0,.int .i64 x7_2] (by rfl) rfl rfl (by (try simp only [List.map_toArray,List.map_cons,List.map_nil]); first | done | rfl | (simp only [List.length_drop,List.length_take]; rfl)) ?_
     with_reducible refine (gantref1_digit.calls a0 x7_2 t130 _ A13.out).mono ?_
     rintro e w' ⟨rfl,⟨nd,rfl⟩⟩
     refine ⟨_,rfl,?_⟩
     refine hK.out _ _ (hHeld) (fun hHeld=>?_)
     clear hK K
     refine norm_ (a':=?_) ?_ ?_
     rotate_left
     ·show Act.put _ (some 30) _=_
      simp only [Act.put,List.setIfInBounds_toArray,List.set_cons_zero,List.set_cons_succ,i64_w,i32_w]
      rfl
     refine one_ (i:=11) (N:=some 35) #[true,true,true,true,true,true,true,true,true,true,true,true,false,false,false,false] rfl rfl (one_of HT_.out (by kernel_rfl)) (by decide) (fun K hK=>?_)
     refine goes_ Tryd.func23 (by kernel_rfl) rfl #[.string a1,.int .i64 (wrap64 (x16_1 - x7_2))] (by rfl) rfl rfl (by (try simp only [List.map_toArray,List.map_cons,List.map_nil]); first | done | rfl | (simp only [List.length_drop,List.length_take]; rfl)) ?_
     with_reducible refine (gantref1_digit.calls a1 (wrap64 (x16_1 - x7_2)) t131 _ A14.out).mono ?_
     rintro e w' ⟨rfl,⟨nd,rfl⟩⟩
     refine ⟨_,rfl,?_⟩
     have p15:0≤(x16_1:Int):=zD
     have q15:(x16_1:Int) < ((x5_2.length:Int):Int):=zD
     obtain ⟨go15,co15,eo15,gb15,gl15,cl15,HG15⟩:=Kd.R_form HO_5.out (by omega)
     (first | cases eo15 | (injection eo15 with ea_ en_ ec_; (first | subst ea_ | (injection ea_ with ea_; subst ea_)); subst ec_; clear en_))
     have GB15:=Aside0.mk gb15
     have GG15:=Aside0.mk HG15
     clear gb15 gl15 HG15
     (first | simp only [add_plain] at hx129_0 | skip)
     obtain ⟨hx15_0,hf15_0⟩:=Kd.R_celln 0 HO_5.out (x16_1:Int) p15 q15
     replace p15:=eq_true p15
     replace q15:=eq_true q15
     have HP17:=Kd.R_putn HO_5.out (x16_1:Int) (wrap64 ((rd x5_2 x16_1)+(wrap64 (t130*t131))))
     rw [← Ny132.out] at HP17
     have HQ17:=Aside0.mk HP17
     clear HP17
     refine hK.out _ _ (hHeld) (fun hHeld=>?_)
     clear hK K
     refine norm_ (a':=?_) ?_ ?_
     rotate_left
     ·show Act.put _ (some 35) _=_
      simp only [Act.put,List.setIfInBounds_toArray,List.set_cons_zero,List.set_cons_succ,i64_w,i32_w]
      rfl
     refine zU 12 36 #[true,true,true,true,true,true,true,true,true,true,true,true,true,false,false,false] ?_
     refine zU 13 37 #[true,true,true,true,true,true,true,true,true,true,true,true,true,true,false,false] ?_
     refine zU 14 38 #[true,true,true,true,true,true,true,true,true,true,true,true,true,true,true,false] ?_
     refine last_ (i:=15) (N:=none) #[true,true,true,true,true,true,true,true,true,true,true,true,true,true,true,true] rfl rfl (one_of HT_.out (by kernel_rfl)) (by decide) (fun K hK=>?_)
     refine skip_ (w1:=?_) (by rfl) rfl ?_ ?_
     rotate_left
     ·go_simp
      rfl
     refine hK.out _ _ ?_
     clear hK K
     refine done_ (done_of HT_.out (by kernel_rfl)) ?_
     try go_wp2
     (try simp only [← hl5_2])
     go_roundg k2
     case measure=>have:=HK1.out; have:=HK2.out; omega
     case rel=>exact ⟨(y132),(wrap64 (x7_2+1)),zS,H',⟨by have:=HK1.out; have:=HK2.out; omega⟩,⟨by (try simp only [hl5_1]); (try simp only [hl5_2]); (with_reducible repeat (first | apply Kd.R_alloc | apply Kd.R_drewN | apply Kd.R_drew)); exact HQ17.out⟩,⟨by repeat (first | (with_reducible first | exact HB.out | apply below_alloc | apply pw_below_drewN | apply below_drew1 | refine below_set ?_ GB15.out) | exact HB.out)⟩⟩
end Go.Proofs.YtdehklffhemmdaaDoor.R
