import Derived.Test.YtkpeembfagcpcaaDoorYR0
import Derived.Test.YtkpeembfagcpcaaDoorYZ
namespace Go.Proofs.YtkpeembfagcpcaaDoor.R
open Go.RowKit Go.Proofs.YtkpeembfagcpcaaDoor.Z Go.Proofs.YtkpeembfagcpcaaDoor.A Go.Proofs.YtkpeembfagcpcaaDoor.H Go.Proofs.YtkpeembfagcpcaaDoor.B Go.Proofs.YtkpeembfagcpcaaDoorW.PrintWords Go.Proofs.YtkpeembfagcpcaaDoorW.PrintLast Go.Proofs.YtkpeembfagcpcaaDoorW.PrintMore
attribute [local go_sem] max2_int min2_int max_two min_two max_three min_three max_four min_four
set_option linter.unusedVariables false
set_option linter.unusedSimpArgs false
set_option maxHeartbeats 8000000
set_option maxRecDepth 100000
def gantref1_Bare.f (a0:ByteArray):Option (ByteArray):=(strings_TrimLeft.f a0 (⟨#[0]⟩:ByteArray)).bind fun t101=>(some t101)
theorem gantref1_Bare.calls (a0:ByteArray) (r:ByteArray) (w:World) (h:gantref1_Bare.f a0=some r) :
 Calls Tryd.prog 52 #[.string a0] w fun e w'=>e = .returned (.string r)∧Drawn0 w w':=by
 unfold gantref1_Bare.f at h
 have H:=h
 clear h
 obtain ⟨t101,A2,H⟩:=zH H
 obtain rfl:=Option.some.inj H
 go_enter Tryd.func52,Tryd.ntmps52
 go_wp2_with (first | ((with_reducible refine zG 113 ?_); refine zL 4 Tryd.func113 #[.string a0,.string (⟨#[0]⟩:ByteArray)] ?_; (with_reducible refine (strings_TrimLeft.calls a0 (⟨#[0]⟩:ByteArray) t101 _ A2.out).mono ?_); rintro e w' ⟨rfl,⟨nd,rfl⟩⟩; refine ⟨_,rfl,?_⟩))
 go_ret
 exact ⟨zS,by repeat (first | exact Drawn0.refl _ | apply Drawn0.step)⟩
def gantref1_digit.f (a0:ByteArray) (a1:Int):Option (Int):=if a1 < (a0.size:Int) then (if 0≤(wrap64 ((wrap64 ((a0.size:Int) - 1)) - a1)) then (if (wrap64 ((wrap64 ((a0.size:Int) - 1)) - a1)) < (a0.size:Int) then (some (wrap64 (bt a0 (wrap64 ((wrap64 ((a0.size:Int) - 1)) - a1))))) else (none)) else (none)) else (some 0)
theorem gantref1_digit.calls (a0:ByteArray) (a1:Int) (r:Int) (w:World) (h:gantref1_digit.f a0 a1=some r) :
 Calls Tryd.prog 111 #[.string a0,.int .i64 a1] w fun e w'=>e = .returned (.int .i64 r)∧Drawn0 w w':=by
 unfold gantref1_digit.f at h
 have H:=h
 clear h
 by_cases c3:a1 < (a0.size:Int)
 ·rw [if_pos c3] at H
  have c3b0:decide (a1 < (a0.size:Int))=true:=decide_eq_true c3
  clear c3
  generalize hji4:(wrap64 ((wrap64 ((a0.size:Int) - 1)) - a1))=ji4 at H
  have hji4w:(IntKind.i64.wrap ((wrap64 ((a0.size:Int) - 1)) - a1))=ji4:=(i64_w _).trans hji4
  obtain ⟨c5b0,H⟩:=zF H
  obtain ⟨c6b0,H⟩:=zF H
  obtain rfl:=Option.some.inj H
  have p7:0≤((ji4):Int):=zD
  have q7:(ji4) < (a0.size:Int):=zD
  have hx7:=bt_at a0 (ji4)
  replace p7:=eq_true p7
  replace q7:=eq_true q7
  go_enter Tryd.func111,Tryd.ntmps111
  go_wp2
  go_ret
  exact ⟨by first | rfl | (simp; done) | (simp only [← hji4]<;>(first | rfl | simp)) | (simp [*]; done),by repeat (first | exact Drawn0.refl _ | apply Drawn0.step)⟩
 rw [if_neg c3] at H
 have c3b0:decide (a1 < (a0.size:Int))=false:=decide_eq_false c3
 clear c3
 obtain rfl:=Option.some.inj H
 go_enter Tryd.func111,Tryd.ntmps111
 go_wp2
 go_ret
 exact ⟨zS,by repeat (first | exact Drawn0.refl _ | apply Drawn0.step)⟩
def gantref1_Compare.l0:Nat→ByteArray→ByteArray→Int→Option (Int)
 | 0,_,_,_=>none
 | k+1,x0,x1,x5=>if x5≥0 then ((gantref1_digit.f x0 x5).bind fun t102=>((gantref1_digit.f x1 x5).bind fun t103=>(if (wrap64 (t102 - t103))=0 then (gantref1_Compare.l0 k x0 x1 (wrap64 (x5 - 1))) else (some (mx (-1) (mn 1 (wrap64 (t102 - t103)))))))) else (some 0)
def gantref1_Compare.f (k:Nat) (a0:ByteArray) (a1:ByteArray):Option (Int):=gantref1_Compare.l0 k a0 a1 (wrap64 ((mx (a0.size:Int) (a1.size:Int)) - 1))
theorem gantref1_Compare.mono_l:∀ k,(∀ y0 y1 y2,LeO (gantref1_Compare.l0 k y0 y1 y2) (gantref1_Compare.l0 (k+1) y0 y1 y2))
 | 0=>fun _ _ _ r h=>by simp [gantref1_Compare.l0] at h
 | k+1=>by
  have ih0:=gantref1_Compare.mono_l k
  intro y0 y1 y2
  unfold gantref1_Compare.l0
  exact zM
theorem gantref1_Compare.mono:∀ a0 a1 k,LeO (gantref1_Compare.f k a0 a1) (gantref1_Compare.f (k+1) a0 a1):=by
 intro a0 a1 k
 have ih0:=gantref1_Compare.mono_l k
 unfold gantref1_Compare.f
 exact zM
theorem gantref1_Compare.calls (k:Nat) (a0:ByteArray) (a1:ByteArray) (r:Int) (w:World) (h:gantref1_Compare.f k a0 a1=some r) :
 Calls Tryd.prog 163 #[.string a0,.string a1] w fun e w'=>e = .returned (.int .i64 r)∧Below w.heap.size w w':=by
 have HB:=Aside0.mk (Below.refl w.heap.size w)
 unfold gantref1_Compare.f at h
 have H:=h
 clear h
 generalize hji3:(mx (a0.size:Int) (a1.size:Int))=ji3 at H
 (try (have hji3l:0≤ji3:=by (rw [← hji3]; unfold mx; (repeat' split)<;>omega)))
 (try (have hji3m:0≤ji3:=by omega))
 have hji3_:(if (a0.size:Int) < (a1.size:Int) then (a1.size:Int) else (a0.size:Int))=ji3:=hji3
 have hji3_n:(if a0.size < a1.size then (a1.size:Int) else (a0.size:Int))=ji3:=by have hz_:=hji3_; simp only [Int.ofNat_lt] at hz_; exact hz_
 have H':=Aside0.mk H
 clear H
 go_enter Tryd.func163,Tryd.ntmps163
 go_wp2
 go_loopg [5] k (fun kq v5 w'=>∃ (x5_1:Int),v5 = .int .i64 x5_1∧Aside0 (gantref1_Compare.l0 kq a0 a1 x5_1=some r)∧Aside0 (kq≤k)∧Aside0 (Below w.heap.size w w'))
 case atStart=>exact ⟨(wrap64 ((ji3) - 1)),(by first | rfl | (simp; done) | (simp only [← hji3]<;>(first | rfl | simp)) | (simp [*]; done)),H',⟨Nat.le_refl _⟩,⟨zB⟩⟩
 case round =>
  clear H'
  try clear c1
  try clear p2
  obtain ⟨x5_1,rfl,HA,HK1,HB⟩:=hrel
  cases gk with
  | zero=>exact absurd HA.out (by simp [gantref1_Compare.l0])
  | succ k1 =>
   have H:=HA.out
   clear HA
   simp only [gantref1_Compare.l0] at H
   by_cases c4:x5_1≥0
   rotate_left
   ·rw [if_neg c4] at H
    have c4b0:decide (0≤x5_1)=false:=decide_eq_false c4
    clear c4
    obtain rfl:=Option.some.inj H
    go_wp2
    go_ret
    exact ⟨zQ hji3,zB⟩
   rw [if_pos c4] at H
   have c4b0:decide (0≤x5_1)=true:=decide_eq_true c4
   clear c4
   obtain ⟨t102,A5,H⟩:=zH H
   obtain ⟨t103,A6,H⟩:=zH H
   by_cases c7:(wrap64 (t102 - t103))=0
   ·rw [if_pos c7] at H
    have c7b0:((wrap64 (t102 - t103))==0)=true:=beq_iff_eq.mpr c7
    have c7b1:((wrap64 (t102 - t103)) != 0)=false:=bne_eq_false_iff_eq.mpr c7
    clear c7
    have H':=Aside0.mk H
    clear H
    go_wp2_with (first | ((with_reducible refine zG 111 ?_); refine zL 19 Tryd.func111 #[.string a0,.int .i64 x5_1] ?_; (with_reducible refine (gantref1_digit.calls a0 x5_1 t102 _ A5.out).mono ?_); rintro e w' ⟨rfl,⟨nd,rfl⟩⟩; refine ⟨_,rfl,?_⟩) | ((with_reducible refine zG 111 ?_); refine zL 22 Tryd.func111 #[.string a1,.int .i64 x5_1] ?_; (with_reducible refine (gantref1_digit.calls a1 x5_1 t103 _ A6.out).mono ?_); rintro e w' ⟨rfl,⟨nd,rfl⟩⟩; refine ⟨_,rfl,?_⟩))
    go_roundg k1
    case measure=>have:=HK1.out; omega
    case rel=>exact ⟨(wrap64 (x5_1 - 1)),zS,H',⟨by have:=HK1.out; omega⟩,⟨zB⟩⟩
   rw [if_neg c7] at H
   have c7b0:((wrap64 (t102 - t103))==0)=false:=beq_eq_false_iff_ne.mpr c7
   have c7b1:((wrap64 (t102 - t103)) != 0)=true:=bne_iff_ne.mpr c7
   generalize hji8:(mn 1 (wrap64 (t102 - t103)))=ji8 at H
   (try rw [hji8] at A5)
   (try rw [hji8] at A6)
   (try (have hji8h:ji8≤1:=by (rw [← hji8]; unfold mn; (repeat' split)<;>omega)))
   (try (have hji8g:ji8≤64:=by omega))
   have hji8_:(if (wrap64 (t102 - t103)) < 1 then (wrap64 (t102 - t103)) else 1)=ji8:=hji8
   generalize hji9:(mx (-1) (ji8))=ji9 at H
   (try rw [hji9] at A5)
   (try rw [hji9] at A6)
   have hji9_:(if (-1) < (ji8) then (ji8) else (-1))=ji9:=hji9
   obtain rfl:=Option.some.inj H
   go_wp2_with (first | ((with_reducible refine zG 111 ?_); refine zL 19 Tryd.func111 #[.string a0,.int .i64 x5_1] ?_; (with_reducible refine (gantref1_digit.calls a0 x5_1 t102 _ A5.out).mono ?_); rintro e w' ⟨rfl,⟨nd,rfl⟩⟩; refine ⟨_,rfl,?_⟩) | ((with_reducible refine zG 111 ?_); refine zL 22 Tryd.func111 #[.string a1,.int .i64 x5_1] ?_; (with_reducible refine (gantref1_digit.calls a1 x5_1 t103 _ A6.out).mono ?_); rintro e w' ⟨rfl,⟨nd,rfl⟩⟩; refine ⟨_,rfl,?_⟩))
   go_ret
   exact ⟨by first | rfl | (simp [errW_none,errW_some]<;>rfl) | (simp only [← hji3,← hji8,← hji9]; first | rfl | (simp [errW_none,errW_some]<;>rfl)) | (simp [*,errW_none,errW_some]<;>rfl),zB⟩
mutual
def gantref1_number.l0:Nat→List Int→List Int→Int→Int→Option (ByteArray)
 | 0,_,_,_,_=>none
 | k+1,x0,x3,x4,x5=>if x5 < (x0.length:Int) then (gantref1_number.j1 k x0 x3 x4 x5 true) else (gantref1_number.j1 k x0 x3 x4 x5 (decide (x4 > 0)))
def gantref1_number.j1:Nat→List Int→List Int→Int→Int→Bool→Option (ByteArray)
 | 0,_,_,_,_,_=>none
 | k+1,x0,x3,x4,x5,x15=>if x15=true then (if x5 < (x0.length:Int) then (if 0≤x5 then (if x3.length < 140737488355328 then (gantref1_number.l0 k x0 (x3++[(Int.tmod (wrap64 (x4+(rd x0 x5))) 256)%256]) (wrap64 (Int.tdiv (wrap64 (x4+(rd x0 x5))) 256)) (wrap64 (x5+1))) else (none)) else (none)) else (if x3.length < 140737488355328 then (gantref1_number.l0 k x0 (x3++[(Int.tmod x4 256)%256]) (wrap64 (Int.tdiv x4 256)) (wrap64 (x5+1))) else (none))) else (gantref1_number.l1 k x3 0 (wrap64 ((x3.length:Int) - 1)))
def gantref1_number.l1:Nat→List Int→Int→Int→Option (ByteArray)
 | 0,_,_,_=>none
 | k+1,x3,x6,x7=>if x6 < x7 then (if 0≤x7 then (if x7 < (x3.length:Int) then (if 0≤x6 then (if x6 < (x3.length:Int) then (gantref1_number.l1 k ((x3.set (x6:Int).toNat (rd x3 x7)).set (x7:Int).toNat (rd x3 x6)) (wrap64 (x6+1)) (wrap64 (x7 - 1))) else (none)) else (none)) else (none)) else (none)) else ((gantref1_Bare.f (strOfNums x3)).bind fun t115=>(some t115))
end
def gantref1_number.f (k:Nat) (l0:List Int):Option (ByteArray):=gantref1_number.l0 k l0 ([]:List Int) 0 0
theorem gantref1_number.mono_l:∀ k,(∀ y0 y1 y2 y3,LeO (gantref1_number.l0 k y0 y1 y2 y3) (gantref1_number.l0 (k+1) y0 y1 y2 y3))∧(∀ y0 y1 y2 y3 y4,LeO (gantref1_number.j1 k y0 y1 y2 y3 y4) (gantref1_number.j1 (k+1) y0 y1 y2 y3 y4))∧(∀ y0 y1 y2,LeO (gantref1_number.l1 k y0 y1 y2) (gantref1_number.l1 (k+1) y0 y1 y2))
 | 0=>⟨fun _ _ _ _ r h=>by simp [gantref1_number.l0] at h,fun _ _ _ _ _ r h=>by simp [gantref1_number.j1] at h,fun _ _ _ r h=>by simp [gantref1_number.l1] at h⟩
 | k+1=>by
  obtain ⟨ih0,ih1,ih2⟩:=gantref1_number.mono_l k
  refine ⟨?_,?_,?_⟩
  ·intro y0 y1 y2 y3
   unfold gantref1_number.l0
   exact zM
  ·intro y0 y1 y2 y3 y4
   unfold gantref1_number.j1
   exact zM
  intro y0 y1 y2
  unfold gantref1_number.l1
  exact zM
theorem gantref1_number.mono:∀ a0 k,LeO (gantref1_number.f k a0) (gantref1_number.f (k+1) a0):=by
 intro a0 k
 obtain ⟨ih0,ih1,ih2⟩:=gantref1_number.mono_l k
 unfold gantref1_number.f
 exact zM
def gantref1_number.T13:Bool × List (List Nat × List Nat):=(true,[([],[]),([],[]),([],[]),([],[]),([],[]),([],[]),([4,5],[4,5]),([6],[6]),([],[]),([],[]),([8,9],[8,9]),([10],[10]),([0,1,0,1,4,5,6,7,11],[0,1]),([12,7,0,1,4,5,6,7,11],[7,12]),([2,3,0,1,2,3,4,5,6,7,8,9,10,11,12,13],[2,3]),([14,11,13,0,1,2,3,4,5,6,7,8,9,10,11,12,13],[11,14])])
def gantref1_number.B13:List Nat:=[0,0,0,0,0,0,48,112,0,0,768,1792,4083,8179,16383,32767]
theorem gantref1_number.tab13:rtab .any (opsOf Tryd.f112 13)=gantref1_number.T13:=by kernel_rfl
theorem gantref1_number.bits13:waitsOk gantref1_number.T13.2 gantref1_number.B13=true:=by kernel_rfl
theorem gantref1_number.calls (k:Nat) (A0:Option Addr) (c0:Nat) (l0:List Int) (r:ByteArray) (w:World) (hr0:Kd.C (Kd.int .i64) w A0 l0.length l0) (hc0:l0.length≤c0) (h:gantref1_number.f k l0=some r) :
 Calls Tryd.prog 112 #[.slice A0 l0.length c0] w fun e w'=>e = .returned (.string r)∧Below w.heap.size w w':=by
 have HR0:=Aside0.mk hr0
 have HC0:=Aside0.mk hc0
 clear hr0 hc0
 have HB:=Aside0.mk (Below.refl w.heap.size w)
 unfold gantref1_number.f at h
 have H:=h
 clear h
 have H':=Aside0.mk H
 clear H
 go_enter Tryd.func112,Tryd.ntmps112
 go_wp2
 go_loopg [3,4,5] k (fun kq v3 v4 v5 w'=>∃ (x3_1:List Int) (x4_1:Int) (x5_1:Int),v4 = .int .i64 x4_1∧v5 = .int .i64 x5_1∧Aside0 (gantref1_number.l0 kq l0 x3_1 x4_1 x5_1=some r)∧Aside0 (kq≤k)∧Aside0 (Kd.R (Kd.int .u8) 5 w' w.heap.size (fun _=>True) v3 x3_1)∧Aside0 (Below w.heap.size w w'))
 case atStart=>exact ⟨(([]:List Int)),(0),(0),zS,zS,H',⟨Nat.le_refl _⟩,⟨by first | exact Kd.R_nil _ _ _ _ _ | exact Kd.N_nil _ _ _ _ _ | exact Kd.V_nil _ _ _ _ _ | exact Kd.Q_nil _ _ _ _ _ | exact Kd.S_nil _ _ _ _ _⟩,⟨zB⟩⟩
 case round =>
  clear H'
  try clear c1
  obtain ⟨x3_1,x4_1,x5_1,rfl,rfl,HA,HK1,HO_3,HB⟩:=hrel
  cases gk with
  | zero=>exact absurd HA.out (by simp [gantref1_number.l0])
  | succ k1 =>
   have H:=HA.out
   clear HA
   simp only [gantref1_number.l0] at H
   have HC2:=Aside0.mk H
   clear H
   go_upto_region 4 with (fail)
   go_cut [15] (fun v15 wc=>∃ (kq:Nat) (x15_1:Bool),v15 = .bool x15_1∧Aside0 (gantref1_number.j1 kq l0 x3_1 x4_1 x5_1 x15_1=some r)∧Aside0 (kq≤k1)∧Aside0 (Kd.R (Kd.int .u8) 5 wc w.heap.size (fun _=>True) u3 x3_1)∧Aside0 (Below w.heap.size w wc))
   case first =>
    have H:=HC2.out
    clear HC2
    by_cases c3:x5_1 < (l0.length:Int)
    ·rw [if_pos c3] at H
     have c3b0:decide (x5_1 < (l0.length:Int))=true:=decide_eq_true c3
     clear c3
     (first | rw [c3b0] | rw [c3b1] | (simp only [i64_w,i32_w]; rw [c3b0]) | skip)
     have H':=Aside0.mk H
     clear H
     go_wp2
     go_meet
     case rel=>exact ⟨_,(true),zS,H',⟨by have:=HK1.out; first | omega | exact Nat.le_refl _⟩,⟨zO HO_3⟩,⟨zB⟩⟩
    rw [if_neg c3] at H
    have c3b0:decide (x5_1 < (l0.length:Int))=false:=decide_eq_false c3
    clear c3
    (first | rw [c3b0] | rw [c3b1] | (simp only [i64_w,i32_w]; rw [c3b0]) | skip)
    have H':=Aside0.mk H
    clear H
    go_wp2
    go_meet
    case rel=>exact ⟨_,(decide (x4_1 > 0)),zS,H',⟨by have:=HK1.out; first | omega | exact Nat.le_refl _⟩,⟨zO HO_3⟩,⟨zB⟩⟩
   case rest =>
    clear HC2
    try clear c1
    try clear p2
    try clear c3
    try clear c3b0
    obtain ⟨kq,x15_1,rfl,HA,HJ1,HO_3,HB⟩:=hcut
    cases kq with
    | zero=>exact absurd HA.out (by simp [gantref1_number.j1])
    | succ kj1 =>
     have H:=HA.out
     clear HA
     simp only [gantref1_number.j1] at H
     by_cases c4:x15_1=true
     ·subst c4
      have H1:(if x5_1 < (l0.length:Int) then (if 0≤x5_1 then (if x3_1.length < 140737488355328 then (gantref1_number.l0 kj1 l0 (x3_1++[(Int.tmod (wrap64 (x4_1+(rd l0 x5_1))) 256)%256]) (wrap64 (Int.tdiv (wrap64 (x4_1+(rd l0 x5_1))) 256)) (wrap64 (x5_1+1))) else (none)) else (none)) else (if x3_1.length < 140737488355328 then (gantref1_number.l0 kj1 l0 (x3_1++[(Int.tmod x4_1 256)%256]) (wrap64 (Int.tdiv x4_1 256)) (wrap64 (x5_1+1))) else (none)))=some r:=by rw [if_pos rfl] at H; exact H
      clear H
      have H:=H1
      clear H1
      by_cases c5:x5_1 < (l0.length:Int)
      ·rw [if_pos c5] at H
       have c5b0:decide (x5_1 < (l0.length:Int))=true:=decide_eq_true c5
       clear c5
       obtain ⟨c6b0,H⟩:=zF H
       by_cases c7:x3_1.length < 140737488355328
       ·rw [if_pos c7] at H
        have LMc7:=Aside0.mk c7
        clear c7
        obtain ⟨y105,Ny105⟩:∃ y_:List Int,Aside0 (y_=(x3_1++[(Int.tmod (wrap64 (x4_1+(rd l0 x5_1))) 256)%256])):=⟨_,⟨rfl⟩⟩
        replace H:(gantref1_number.l0 kj1 l0 y105 (wrap64 (Int.tdiv (wrap64 (x4_1+(rd l0 x5_1))) 256)) (wrap64 (x5_1+1)))=some r:=zY Ny105 H
        have H':=Aside0.mk H
        clear H
        have p104:0≤(x5_1:Int):=zD
        have q104:x5_1 < (l0.length:Int):=zD
        obtain ⟨ad104,e104,hx104_0⟩:=Kd.at_int HR0.out x5_1 p104 q104
        cases e104
        replace hx104_0:=(HB.out.cell (World.block_lt_of_cell? w _ hx104_0)).trans hx104_0
        replace p104:=eq_true p104
        replace q104:=eq_true q104
        go_wp2_with (first | ((with_reducible refine gate_builtin (b:=.append) (xs:=#[.tmp 28,.tmp 32]) rfl ?_); at_builtin; refine Kd.R_append (Kd.int .u8) (w0:=w) w.heap.size rfl (.tmp 28) (.tmp 32) 78 5 (.int .u8 0) 1 rfl Tryd.underlying78 info5 rfl (by decide) (by omega) u3 x3_1 ((Int.tmod (wrap64 (x4_1+(rd l0 x5_1))) 256)%256) [.int .u8 ((Int.tmod (wrap64 (x4_1+(rd l0 x5_1))) 256)%256)] (fun _=>True) (fun _=>False) rfl rfl ?aP (fun _ hk=>hk.elim) ?aF ?aO ?aB ?aS ?aL ?_; (case aP=>exact rfl); (case aB=>exact zB); (case aF=>exact (fun _ _=>trivial)); (case aO=>exact (zO HO_3)); (case aS=>exact (below_size zB)); (case aL=>have:=LMc7.out; omega); intro v106 w8 ho hb hg hat; rw [← Ny105.out] at ho; replace HB:=Aside0.mk (hb); have HO107:=Aside0.mk (ho); clear HO_3; clear ho hb hg hat))
        go_roundg kj1
        case measure=>have:=HK1.out; have:=HJ1.out; omega
        case rel=>exact ⟨(y105),(wrap64 (Int.tdiv (wrap64 (x4_1+(rd l0 x5_1))) 256)),(wrap64 (x5_1+1)),zS,zS,H',⟨by have:=HK1.out; have:=HJ1.out; omega⟩,⟨zO HO107⟩,⟨zB⟩⟩
       rw [if_neg c7] at H
       exact absurd H (by simp)
      rw [if_neg c5] at H
      have c5b0:decide (x5_1 < (l0.length:Int))=false:=decide_eq_false c5
      clear c5
      by_cases c9:x3_1.length < 140737488355328
      ·rw [if_pos c9] at H
       have LMc9:=Aside0.mk c9
       clear c9
       obtain ⟨y108,Ny108⟩:∃ y_:List Int,Aside0 (y_=(x3_1++[(Int.tmod x4_1 256)%256])):=⟨_,⟨rfl⟩⟩
       replace H:(gantref1_number.l0 kj1 l0 y108 (wrap64 (Int.tdiv x4_1 256)) (wrap64 (x5_1+1)))=some r:=zY Ny108 H
       have H':=Aside0.mk H
       clear H
       go_wp2_with (first | ((with_reducible refine gate_builtin (b:=.append) (xs:=#[.tmp 28,.tmp 32]) rfl ?_); at_builtin; refine Kd.R_append (Kd.int .u8) (w0:=w) w.heap.size rfl (.tmp 28) (.tmp 32) 78 5 (.int .u8 0) 1 rfl Tryd.underlying78 info5 rfl (by decide) (by omega) u3 x3_1 ((Int.tmod x4_1 256)%256) [.int .u8 ((Int.tmod x4_1 256)%256)] (fun _=>True) (fun _=>False) rfl rfl ?aP (fun _ hk=>hk.elim) ?aF ?aO ?aB ?aS ?aL ?_; (case aP=>exact rfl); (case aB=>exact zB); (case aF=>exact (fun _ _=>trivial)); (case aO=>exact (zO HO_3)); (case aS=>exact (below_size zB)); (case aL=>have:=LMc9.out; omega); intro v109 w10 ho hb hg hat; rw [← Ny108.out] at ho; replace HB:=Aside0.mk (hb); have HO110:=Aside0.mk (ho); clear HO_3; clear ho hb hg hat))
       go_roundg kj1
       case measure=>have:=HK1.out; have:=HJ1.out; omega
       case rel=>exact ⟨(y108),(wrap64 (Int.tdiv x4_1 256)),(wrap64 (x5_1+1)),zS,zS,H',⟨by have:=HK1.out; have:=HJ1.out; omega⟩,⟨zO HO110⟩,⟨zB⟩⟩
      rw [if_neg c9] at H
      exact absurd H (by simp)
     replace c4:=Bool.eq_false_iff.mpr c4
     subst c4
     have H1:(gantref1_number.l1 kj1 x3_1 0 (wrap64 ((x3_1.length:Int) - 1)))=some r:=by rw [if_neg (show ¬ (false=true) by decide)] at H; exact H
     clear H
     have H:=H1
     clear H1
     have H':=Aside0.mk H
     clear H
     obtain ⟨Ao11,co11,eo11⟩:=Kd.R_slice HO_3.out
     subst eo11
     go_wp2
     go_loopg [6,7] kj1 (fun kq v6 v7 w'=>∃ (x3_3:List Int) (x6_3:Int) (x7_3:Int),v6 = .int .i64 x6_3∧v7 = .int .i64 x7_3∧Aside0 (gantref1_number.l1 kq x3_3 x6_3 x7_3=some r)∧Aside0 (kq≤kj1)∧Aside0 (Kd.R (Kd.int .u8) 5 w' w.heap.size (fun _=>True) (.slice Ao11 x3_1.length co11) x3_3)∧Aside0 (Below w.heap.size w w'))
     case atStart=>exact ⟨(x3_1),(0),(wrap64 ((x3_1.length:Int) - 1)),zS,zS,H',⟨Nat.le_refl _⟩,⟨zO HO_3⟩,⟨zB⟩⟩
     case round =>
      clear H'
      try clear c1
      try clear p1
      try clear q1
      try clear hx1
      try clear p2
      try clear c3
      try clear c3b0
      try clear c4
      try clear c5
      try clear c5b0
      try clear c6
      try clear c6b0
      try clear p6
      try clear c7
      try clear c9
      try clear p10
      try clear q10
      try clear hx10
      try clear c11
      try clear hx104_0
      try clear p104
      try clear p2
      try clear q104
      obtain ⟨x3_3,x6_3,x7_3,rfl,rfl,HA,HK3,HO_3,HB⟩:=hrel
      have hl3_3:=(Kd.R_reads' HO_3.out).1
      rw [hl3_3] at HO_3
      (try simp only [hl3_3])
      cases gk with
      | zero=>exact absurd HA.out (by simp [gantref1_number.l1])
      | succ k3 =>
       have H:=HA.out
       clear HA
       simp only [gantref1_number.l1] at H
       by_cases c12:x6_3 < x7_3
       rotate_left
       ·rw [if_neg c12] at H
        have c12b0:decide (x6_3 < x7_3)=false:=decide_eq_false c12
        clear c12
        obtain ⟨t115,A22,H⟩:=zH H
        obtain rfl:=Option.some.inj H
        have hcv23:=own_string (P:=Tryd.prog) Tryd.underlying78 Tryd.underlying5 Tryd.underlying9 (Kd.own_of_R HO_3.out)
        go_wp2_with (first | ((with_reducible refine zG 52 ?_); refine zL 62 Tryd.func52 #[.string (strOfNums x3_3)] ?_; (with_reducible refine (gantref1_Bare.calls (strOfNums x3_3) t115 _ A22.out).mono ?_); rintro e w' ⟨rfl,⟨nd,rfl⟩⟩; refine ⟨_,rfl,?_⟩))
        go_ret
        exact ⟨zR,zB⟩
       rw [if_pos c12] at H
       have c12b0:decide (x6_3 < x7_3)=true:=decide_eq_true c12
       clear c12
       obtain ⟨c13b0,H⟩:=zF H
       obtain ⟨c14b0,H⟩:=zF H
       (try (have c14b0_0:=c14b0; simp only [hl3_3] at c14b0_0))
       obtain ⟨c15b0,H⟩:=zF H
       obtain ⟨c16b0,H⟩:=zF H
       (try (have c16b0_0:=c16b0; simp only [hl3_3] at c16b0_0))
       obtain ⟨y113,Ny113⟩:∃ y_:List Int,Aside0 (y_=(x3_3.set (x6_3:Int).toNat (rd x3_3 x7_3))):=⟨_,⟨rfl⟩⟩
       replace H:(gantref1_number.l1 k3 (y113.set (x7_3:Int).toNat (rd x3_3 x6_3)) (wrap64 (x6_3+1)) (wrap64 (x7_3 - 1)))=some r:=zY Ny113 H
       obtain ⟨y114,Ny114⟩:∃ y_:List Int,Aside0 (y_=(y113.set (x7_3:Int).toNat (rd x3_3 x6_3))):=⟨_,⟨rfl⟩⟩
       replace H:(gantref1_number.l1 k3 y114 (wrap64 (x6_3+1)) (wrap64 (x7_3 - 1)))=some r:=zY Ny114 H
       have H':=Aside0.mk H
       clear H
       try go_wp2
       have n0_:=Aside0.mk (Kd.R_drew HO_3.out)
       have n1_:=Aside0.mk (below_drew1 HB.out)
       clear HO_3
       clear HB
       have HO_3:=n0_
       have HB:=n1_
       clear n0_ n1_
       have p111:0≤(x7_3:Int):=zD
       have q111:x7_3 < (x3_3.length:Int):=zD
       obtain ⟨ad111,e111,hx111_0⟩:=Kd.at_int (Kd.R_reads' HO_3.out).2.2 x7_3 p111 q111
       cases e111
       replace p111:=eq_true p111
       replace q111:=eq_true q111
       have p112:0≤(x6_3:Int):=zD
       have q112:x6_3 < (x3_3.length:Int):=zD
       obtain ⟨ad112,e112,hx112_0⟩:=Kd.at_int (Kd.R_reads' HO_3.out).2.2 x6_3 p112 q112
       obtain rfl:ad111=ad112:=(by injection e112)
       replace p112:=eq_true p112
       replace q112:=eq_true q112
       have p17:0≤(x6_3:Int):=zD
       have q17:(x6_3:Int) < ((x3_3.length:Int):Int):=zD
       obtain ⟨go17,co17,eo17,gb17,gl17,cl17,HG17⟩:=Kd.R_form HO_3.out (by omega)
       (first | cases eo17 | (injection eo17 with ea_ en_ ec_; (first | subst ea_ | (injection ea_ with ea_; subst ea_)); subst ec_; clear en_))
       have GB17:=Aside0.mk gb17
       have GG17:=Aside0.mk HG17
       clear gb17 gl17 HG17
       (first | simp only [add_plain] at hx111_0 | skip)
       (first | simp only [add_plain] at hx112_0 | skip)
       obtain ⟨hx17_0,hf17_0⟩:=Kd.R_celln 0 HO_3.out (x6_3:Int) p17 q17
       replace p17:=eq_true p17
       replace q17:=eq_true q17
       have HP20:=Kd.R_putn HO_3.out (x6_3:Int) (rd x3_3 x7_3)
       rw [← Ny113.out] at HP20
       have HQ20:=Aside0.mk HP20
       clear HP20
       have p18:0≤(x7_3:Int):=zD
       have q18:(x7_3:Int) < ((x3_3.length:Int):Int):=zD
       obtain ⟨hx18_0,hf18_0⟩:=Kd.R_celln 0 HQ20.out (x7_3:Int) p18 q18
       replace p18:=eq_true p18
       replace q18:=eq_true q18
       have HP21:=Kd.R_putn HQ20.out (x7_3:Int) (rd x3_3 x6_3)
       rw [← Ny114.out] at HP21
       have HQ21:=Aside0.mk HP21
       clear HP21
       refine start_ (n:=16) (S:=fun w'=>w'.cell? ⟨go17,(x7_3).toNat,none⟩=some (.int .u8 (rd x3_3 x7_3))∧w'.cell? ⟨go17,(x6_3).toNat,none⟩=some (.int .u8 (rd x3_3 x6_3))) (ds:=[13,15]) #[false,false,false,false,false,false,false,false,false,false,false,false,false,false,false,false] (by kernel_rfl) rfl rfl ⟨hx111_0,hx112_0⟩ (fun hHeld=>?_); refine with_tabW gantref1_number.tab13 gantref1_number.bits13 (fun HT_ HW_=>?_)
       generalize wr.drew=w19 at HO_3 HB GG17 HQ20 HQ21 hf17_0 hf18_0 hx111_0 hx112_0 hx17_0 hx18_0 hHeld ⊢
       refine zU 0 46 #[true,false,false,false,false,false,false,false,false,false,false,false,false,false,false,false] ?_
       refine zU 1 47 #[true,true,false,false,false,false,false,false,false,false,false,false,false,false,false,false] ?_
       refine zU 2 48 #[true,true,true,false,false,false,false,false,false,false,false,false,false,false,false,false] ?_
       refine zU 3 49 #[true,true,true,true,false,false,false,false,false,false,false,false,false,false,false,false] ?_
       refine zU 4 50 #[true,true,true,true,true,false,false,false,false,false,false,false,false,false,false,false] ?_
       refine zU 5 51 #[true,true,true,true,true,true,false,false,false,false,false,false,false,false,false,false] ?_
       refine zU 6 52 #[true,true,true,true,true,true,true,false,false,false,false,false,false,false,false,false] ?_
       refine zU 8 54 #[true,true,true,true,true,true,true,false,true,false,false,false,false,false,false,false] ?_
       refine zU 9 55 #[true,true,true,true,true,true,true,false,true,true,false,false,false,false,false,false] ?_
       refine zU 10 56 #[true,true,true,true,true,true,true,false,true,true,true,false,false,false,false,false] ?_
       refine take_ (i:=7) (N:=some 53) (v:=?_) (a':=?_) #[true,true,true,true,true,true,true,true,true,true,true,false,false,false,false,false] rfl rfl (take_ofW HT_.out HW_.out (by kernel_rfl)) (fun _ _ _ h=>h) (Or.inl ⟨by rfl,?_⟩) hHeld ?_ ?_
       rotate_left
       ·rintro w' ⟨s0,s1⟩
        go_simp
        with_reducible rfl
       rotate_left
       ·simp only [Act.put,List.setIfInBounds_toArray,List.set_cons_zero,List.set_cons_succ,i64_w,i32_w]
        rfl
       refine take_ (i:=11) (N:=some 57) (v:=?_) (a':=?_) #[true,true,true,true,true,true,true,true,true,true,true,true,false,false,false,false] rfl rfl (take_ofW HT_.out HW_.out (by kernel_rfl)) (fun _ _ _ h=>h) (Or.inl ⟨by rfl,?_⟩) hHeld ?_ ?_
       rotate_left
       ·rintro w' ⟨s0,s1⟩
        go_simp
        with_reducible rfl
       rotate_left
       ·simp only [Act.put,List.setIfInBounds_toArray,List.set_cons_zero,List.set_cons_succ,i64_w,i32_w]
        rfl
       refine zU 12 58 #[true,true,true,true,true,true,true,true,true,true,true,true,true,false,false,false] ?_
       refine last_ (i:=13) (N:=none) #[true,true,true,true,true,true,true,true,true,true,true,true,true,true,false,false] rfl rfl (one_of HT_.out (by kernel_rfl)) (by decide) (fun K hK=>?_)
       refine skip_ (w1:=?_) (by rfl) rfl ?_ ?_
       rotate_left
       ·go_simp
        rfl
       refine hK.out _ _ ?_
       clear hK K
       refine zU 14 59 #[true,true,true,true,true,true,true,true,true,true,true,true,true,true,true,false] ?_
       refine last_ (i:=15) (N:=none) #[true,true,true,true,true,true,true,true,true,true,true,true,true,true,true,true] rfl rfl (one_of HT_.out (by kernel_rfl)) (by decide) (fun K hK=>?_)
       refine skip_ (w1:=?_) (by rfl) rfl ?_ ?_
       rotate_left
       ·go_simp
        rfl
       refine hK.out _ _ ?_
       clear hK K
       refine done_ (done_of HT_.out (by kernel_rfl)) ?_
       try go_wp2
       (try simp only [← hl3_3])
       go_roundg k3
       case measure=>have:=HK1.out; have:=HJ1.out; have:=HK3.out; omega
       case rel=>exact ⟨(y114),(wrap64 (x6_3+1)),(wrap64 (x7_3 - 1)),zS,zS,H',⟨by have:=HK1.out; have:=HJ1.out; have:=HK3.out; omega⟩,⟨by (try simp only [hl3_3]); (with_reducible repeat (first | apply Kd.R_alloc | apply Kd.R_drewN | apply Kd.R_drew)); exact HQ21.out⟩,⟨by repeat (first | (with_reducible first | exact HB.out | apply below_alloc | apply pw_below_drewN | apply below_drew1 | refine below_set ?_ GB17.out | refine below_set ?_ GB17.out) | exact HB.out)⟩⟩
def gantref1_Plus.l0:Nat→ByteArray→ByteArray→List Int→Int→Int→Option (ByteArray)
 | 0,_,_,_,_,_=>none
 | k+1,x0,x1,x5,x14,x15=>if x15 < x14 then ((gantref1_digit.f x0 x15).bind fun t119=>((gantref1_digit.f x1 x15).bind fun t120=>(if 0≤x15 then (if x15 < (x5.length:Int) then (gantref1_Plus.l0 k x0 x1 (x5.set (x15:Int).toNat (wrap64 (t119+t120))) x14 (wrap64 (x15+1))) else (none)) else (none)))) else ((gantref1_number.f k x5).bind fun t122=>(some t122))
def gantref1_Plus.f (k:Nat) (a0:ByteArray) (a1:ByteArray):Option (ByteArray):=if 0≤(mx (a0.size:Int) (a1.size:Int)) then (if (mx (a0.size:Int) (a1.size:Int):Int).toNat≤35184372088832 then ((some (List.replicate (mx (a0.size:Int) (a1.size:Int):Int).toNat 0:List Int)).bind fun y116=>(gantref1_Plus.l0 k a0 a1 y116 (y116.length:Int) 0)) else (none)) else (none)
theorem gantref1_Plus.mono_l:∀ k,(∀ y0 y1 y2 y3 y4,LeO (gantref1_Plus.l0 k y0 y1 y2 y3 y4) (gantref1_Plus.l0 (k+1) y0 y1 y2 y3 y4))
 | 0=>fun _ _ _ _ _ r h=>by simp [gantref1_Plus.l0] at h
 | k+1=>by
  have ih0:=gantref1_Plus.mono_l k
  intro y0 y1 y2 y3 y4
  unfold gantref1_Plus.l0
  have m0:=@gantref1_number.mono
  exact zM
theorem gantref1_Plus.mono:∀ a0 a1 k,LeO (gantref1_Plus.f k a0 a1) (gantref1_Plus.f (k+1) a0 a1):=by
 intro a0 a1 k
 have ih0:=gantref1_Plus.mono_l k
 unfold gantref1_Plus.f
 have m0:=@gantref1_number.mono
 exact zM
theorem gantref1_Plus.calls (k:Nat) (a0:ByteArray) (a1:ByteArray) (r:ByteArray) (w:World) (h:gantref1_Plus.f k a0 a1=some r) :
 Calls Tryd.prog 49 #[.string a0,.string a1] w fun e w'=>e = .returned (.string r)∧Below w.heap.size w w':=by
 have HB:=Aside0.mk (Below.refl w.heap.size w)
 unfold gantref1_Plus.f at h
 have H:=h
 clear h
 generalize hji3:(mx (a0.size:Int) (a1.size:Int))=ji3 at H
 (try (have hji3l:0≤ji3:=by (rw [← hji3]; unfold mx; (repeat' split)<;>omega)))
 (try (have hji3m:0≤ji3:=by omega))
 have hji3_:(if (a0.size:Int) < (a1.size:Int) then (a1.size:Int) else (a0.size:Int))=ji3:=hji3
 have hji3_n:(if a0.size < a1.size then (a1.size:Int) else (a0.size:Int))=ji3:=by have hz_:=hji3_; simp only [Int.ofNat_lt] at hz_; exact hz_
 obtain ⟨c4b0,c4b1,H⟩:=zE H
 obtain ⟨c5b0,c5b1,H⟩:=zE H
 obtain ⟨y116,Ny116⟩:∃ y_:List Int,Aside0 (y_=(List.replicate (ji3:Int).toNat 0)):=⟨_,⟨rfl⟩⟩
 replace H:(gantref1_Plus.l0 k a0 a1 y116 (y116.length:Int) 0)=some r:=zY Ny116 H
 have H':=Aside0.mk H
 clear H
 go_enter Tryd.func49,Tryd.ntmps49
 go_wp2_with (first | ((with_reducible refine gate_dst (N:=12) rfl ?_); refine Kd.R_make (Kd.int .i64) _ 3 rfl (N:=12) rfl 87 _ _ rfl ji3 rfl rfl Tryd.underlying87 (.int .i64 0) 8 info3 rfl (by decide) (by omega) 0 (ok:=fun _=>True) (okp:=fun _=>True) rfl zI trivial zD (Nat.le_trans (Nat.mul_le_mul_right _ (zD:ji3.toNat≤35184372088832)) (by omega)) (Below.refl _ _) (Nat.le_refl _) ?_; intro v117 w6 ho7 hb hg_ hnew_; clear hg_ hnew_; (first | rw [← Ny116.out] at ho7 | (simp only [Int.reduceToNat] at ho7; rw [← Ny116.out] at ho7)); have HO118:=Aside0.mk (Kd.R_lower ho7 (below_size zB)); replace HB:=zP hb; clear hb ho7; obtain ⟨Ao8,co8,eo8⟩:=Kd.R_slice HO118.out; subst eo8))
 go_loopg [15] k (fun kq v15 w'=>∃ (x5_1:List Int) (x15_1:Int),v15 = .int .i64 x15_1∧Aside0 (gantref1_Plus.l0 kq a0 a1 x5_1 (y116.length:Int) x15_1=some r)∧Aside0 (kq≤k)∧Aside0 (Kd.R (Kd.int .i64) 3 w' w.heap.size (fun _=>True) (.slice Ao8 y116.length co8) x5_1)∧Aside0 (Below w.heap.size w w'))
 case atStart=>exact ⟨(y116),(0),zS,H',⟨Nat.le_refl _⟩,⟨zO HO118⟩,⟨zB⟩⟩
 case round =>
  clear H'
  try clear p2
  try clear c4
  try clear c4b0
  try clear c4b1
  try clear c5
  try clear c5b0
  try clear c5b1
  obtain ⟨x5_1,x15_1,rfl,HA,HK1,HO_5,HB⟩:=hrel
  have hl5_1:=(Kd.R_reads' HO_5.out).1
  rw [hl5_1] at HO_5
  (try simp only [hl5_1])
  cases gk with
  | zero=>exact absurd HA.out (by simp [gantref1_Plus.l0])
  | succ k1 =>
   have H:=HA.out
   clear HA
   simp only [gantref1_Plus.l0] at H
   by_cases c9:x15_1 < (y116.length:Int)
   ·rw [if_pos c9] at H
    have c9b0:decide (x15_1 < (y116.length:Int))=true:=decide_eq_true c9
    (try (have c9b0_0:=c9b0; simp only [hl5_1] at c9b0_0))
    clear c9
    obtain ⟨t119,A10,H⟩:=zH H
    obtain ⟨t120,A11,H⟩:=zH H
    obtain ⟨c12b0,H⟩:=zF H
    obtain ⟨c13b0,H⟩:=zF H
    (try (have c13b0_0:=c13b0; simp only [hl5_1] at c13b0_0))
    obtain ⟨y121,Ny121⟩:∃ y_:List Int,Aside0 (y_=(x5_1.set (x15_1:Int).toNat (wrap64 (t119+t120)))):=⟨_,⟨rfl⟩⟩
    replace H:(gantref1_Plus.l0 k1 a0 a1 y121 (y116.length:Int) (wrap64 (x15_1+1)))=some r:=zY Ny121 H
    have H':=Aside0.mk H
    clear H
    go_wp2_with (first | ((with_reducible refine zG 111 ?_); refine zL 22 Tryd.func111 #[.string a0,.int .i64 x15_1] ?_; (with_reducible refine (gantref1_digit.calls a0 x15_1 t119 _ A10.out).mono ?_); rintro e w' ⟨rfl,⟨nd,rfl⟩⟩; refine ⟨_,rfl,?_⟩; (try (rw [drewN_self wr]; generalize hq_:World.drewN wr _=wr; have n0_:Aside0 (Kd.R (Kd.int .i64) 3 wr w.heap.size (fun _=>True) (.slice Ao8 x5_1.length co8) x5_1):=⟨by rw [← hq_]; exact (zO HO_5)⟩; have n1_:Aside0 (Below w.heap.size w wr):=⟨by rw [← hq_]; exact zB⟩; clear HO_5 HB hq_; have HO_5:=n0_; have HB:=n1_; clear n0_ n1_))) | ((with_reducible refine zG 111 ?_); refine zL 25 Tryd.func111 #[.string a1,.int .i64 x15_1] ?_; (with_reducible refine (gantref1_digit.calls a1 x15_1 t120 _ A11.out).mono ?_); rintro e w' ⟨rfl,⟨nd,rfl⟩⟩; refine ⟨_,rfl,?_⟩; (try (rw [drewN_self wr]; generalize hq_:World.drewN wr _=wr; have n0_:Aside0 (Kd.R (Kd.int .i64) 3 wr w.heap.size (fun _=>True) (.slice Ao8 x5_1.length co8) x5_1):=⟨by rw [← hq_]; exact (zO HO_5)⟩; have n1_:Aside0 (Below w.heap.size w wr):=⟨by rw [← hq_]; exact zB⟩; clear HO_5 HB hq_; have HO_5:=n0_; have HB:=n1_; clear n0_ n1_)); have p14:0≤(x15_1:Int):=zD; have q14:(x15_1:Int) < ((x5_1.length:Int):Int):=zD; obtain ⟨go14,co14,eo14,gb14,gl14,cl14,HG14⟩:=Kd.R_form HO_5.out (by omega); (first | cases eo14 | (injection eo14 with ea_ en_ ec_; (first | subst ea_ | (injection ea_ with ea_; subst ea_)); subst ec_; clear en_)); have GB14:=Aside0.mk gb14; have GG14:=Aside0.mk HG14; clear gb14 gl14 HG14; obtain ⟨hx14_0,hf14_0⟩:=Kd.R_celln 0 HO_5.out (x15_1:Int) p14 q14; replace p14:=eq_true p14; replace q14:=eq_true q14; obtain ⟨hy15_,hz15_⟩:=Kd.R_celln 0 HO_5.out (x15_1:Int) zD zD; have HP15:=Kd.R_putg HO_5.out (x15_1:Int) (wrap64 (t119+t120))) | ((with_reducible refine gate_store (t:=3) (p:=27) rfl ?_); refine store_event (t:=3) (p:=27) (v:=?vo_w16) (w1:=(wr.setCell ⟨go14,(x15_1:Int).toNat,none⟩ (.int .i64 (wrap64 (t119+t120))))) ?hg ?ho ?hn ?hr ?_; (case ho=>rfl); (case hg=>rfl); (case hn=>rfl); (case hr=>first | (go_simp; done) | (go_simp; rfl)); intro w16 hw; have hg:wr.grownBy w16 (some go14):=(by rw [hw]; exact HP15.2); have hp_:Kd.R (Kd.int .i64) 3 w16 w.heap.size (fun _=>True) (.slice (some ⟨go14,0,none⟩) x5_1.length co8) y121:=(by rw [hw,Ny121.out]; exact HP15.1); clear HP15; replace HO_5:=Aside0.mk (hp_); replace HB:=Aside0.mk ((by rw [hw]; exact below_set (HB.out) GB14.out:Below w.heap.size w w16)); clear hg hw hp_))
    (try simp only [← hl5_1])
    go_roundg k1
    case measure=>have:=HK1.out; omega
    case rel=>exact ⟨(y121),(wrap64 (x15_1+1)),zS,H',⟨by have:=HK1.out; omega⟩,⟨by (try simp only [hl5_1]); (with_reducible repeat (first | apply Kd.R_alloc | apply Kd.R_drewN | apply Kd.R_drew)); exact HO_5.out⟩,⟨zB⟩⟩
   rw [if_neg c9] at H
   have c9b0:decide (x15_1 < (y116.length:Int))=false:=decide_eq_false c9
   (try (have c9b0_0:=c9b0; simp only [hl5_1] at c9b0_0))
   clear c9
   obtain ⟨t122,A17,H⟩:=zH H
   obtain rfl:=Option.some.inj H
   go_wp2_with (first | ((with_reducible refine zG 112 ?_); refine zL 30 Tryd.func112 #[.slice Ao8 x5_1.length co8] ?_; (with_reducible refine (gantref1_number.calls k1 _ _ x5_1 t122 _ ?side1 ?side2 A17.out).mono ?_); (case side1=>exact zC HO_5); (case side2=>exact (Kd.R_reads' HO_5.out).2.1); rintro e w18 ⟨rfl,hb⟩; refine ⟨_,rfl,?_⟩; replace HO_5:=Aside0.mk (Kd.R_below (zO HO_5) hb); replace HB:=zP hb; (try clear hb)))
   go_ret
   exact ⟨zQ hji3,zB⟩
end Go.Proofs.YtkpeembfagcpcaaDoor.R
