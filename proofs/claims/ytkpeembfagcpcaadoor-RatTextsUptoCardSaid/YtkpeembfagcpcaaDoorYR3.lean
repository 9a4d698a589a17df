import Derived.Test.YtkpeembfagcpcaaDoorYR0
import Derived.Test.YtkpeembfagcpcaaDoorYR1
import Derived.Test.YtkpeembfagcpcaaDoorYR2
import Derived.Test.YtkpeembfagcpcaaDoorYZ
namespace Go.Proofs.YtkpeembfagcpcaaDoor.R
open Go.RowKit Go.Proofs.YtkpeembfagcpcaaDoor.Z Go.Proofs.YtkpeembfagcpcaaDoor.A Go.Proofs.YtkpeembfagcpcaaDoor.H Go.Proofs.YtkpeembfagcpcaaDoor.B Go.Proofs.YtkpeembfagcpcaaDoorW.PrintWords Go.Proofs.YtkpeembfagcpcaaDoorW.PrintLast Go.Proofs.YtkpeembfagcpcaaDoorW.PrintMore
attribute [local go_sem] max2_int min2_int max_two min_two max_three min_three max_four min_four
set_option linter.unusedVariables false
set_option linter.unusedSimpArgs false
set_option maxHeartbeats 8000000
set_option maxRecDepth 100000
def gantref1_halved.l0:Nat→ByteArray→List Int→Int→Int→Option (ByteArray)
 | 0,_,_,_,_=>none
 | k+1,x0,x3,x9,x10=>if x10 < x9 then ((gantref1_digit.f x0 x10).bind fun t156=>((gantref1_digit.f x0 (wrap64 (x10+1))).bind fun t157=>(if 0≤x10 then (if x10 < (x3.length:Int) then (gantref1_halved.l0 k x0 (x3.set (x10:Int).toNat (wrap64 ((wrap64 (Int.tdiv t156 2))+(wrap64 ((Int.tmod t157 2)*128))))) x9 (wrap64 (x10+1))) else (none)) else (none)))) else ((gantref1_number.f k x3).bind fun t159=>(some t159))
def gantref1_halved.f (k:Nat) (a0:ByteArray):Option (ByteArray):=if 0≤(a0.size:Int) then (if ((a0.size:Int):Int).toNat≤35184372088832 then ((some (List.replicate ((a0.size:Int):Int).toNat 0:List Int)).bind fun y153=>(gantref1_halved.l0 k a0 y153 (y153.length:Int) 0)) else (none)) else (none)
theorem gantref1_halved.mono_l:∀ k,(∀ y0 y1 y2 y3,LeO (gantref1_halved.l0 k y0 y1 y2 y3) (gantref1_halved.l0 (k+1) y0 y1 y2 y3))
 | 0=>fun _ _ _ _ r h=>by simp [gantref1_halved.l0] at h
 | k+1=>by
  have ih0:=gantref1_halved.mono_l k
  intro y0 y1 y2 y3
  unfold gantref1_halved.l0
  have m0:=@gantref1_number.mono
  exact zM
theorem gantref1_halved.mono:∀ a0 k,LeO (gantref1_halved.f k a0) (gantref1_halved.f (k+1) a0):=by
 intro a0 k
 have ih0:=gantref1_halved.mono_l k
 unfold gantref1_halved.f
 have m0:=@gantref1_number.mono
 exact zM
theorem gantref1_halved.calls (k:Nat) (a0:ByteArray) (r:ByteArray) (w:World) (h:gantref1_halved.f k a0=some r) :
 Calls Tryd.prog 162 #[.string a0] w fun e w'=>e = .returned (.string r)∧Below w.heap.size w w':=by
 have HB:=Aside0.mk (Below.refl w.heap.size w)
 unfold gantref1_halved.f at h
 have H:=h
 clear h
 obtain ⟨c2b0,c2b1,H⟩:=zE H
 obtain ⟨c3b0,c3b1,H⟩:=zE H
 obtain ⟨y153,Ny153⟩:∃ y_:List Int,Aside0 (y_=(List.replicate ((a0.size:Int):Int).toNat 0)):=⟨_,⟨rfl⟩⟩
 replace H:(gantref1_halved.l0 k a0 y153 (y153.length:Int) 0)=some r:=zY Ny153 H
 have H':=Aside0.mk H
 clear H
 go_enter Tryd.func162,Tryd.ntmps162
 go_wp2_with (first | ((with_reducible refine gate_dst (N:=7) rfl ?_); refine Kd.R_make (Kd.int .i64) _ 3 rfl (N:=7) rfl 87 _ _ rfl (a0.size:Int) rfl rfl Tryd.underlying87 (.int .i64 0) 8 info3 rfl (by decide) (by omega) 0 (ok:=fun _=>True) (okp:=fun _=>True) rfl zI trivial zD (Nat.le_trans (Nat.mul_le_mul_right _ (zD:(a0.size:Int).toNat≤35184372088832)) (by omega)) (Below.refl _ _) (Nat.le_refl _) ?_; intro v154 w4 ho5 hb hg_ hnew_; clear hg_ hnew_; (first | rw [← Ny153.out] at ho5 | (simp only [Int.reduceToNat] at ho5; rw [← Ny153.out] at ho5)); have HO155:=Aside0.mk (Kd.R_lower ho5 (below_size zB)); replace HB:=zP hb; clear hb ho5; obtain ⟨Ao6,co6,eo6⟩:=Kd.R_slice HO155.out; subst eo6))
 go_loopg [10] k (fun kq v10 w'=>∃ (x3_1:List Int) (x10_1:Int),v10 = .int .i64 x10_1∧Aside0 (gantref1_halved.l0 kq a0 x3_1 (y153.length:Int) x10_1=some r)∧Aside0 (kq≤k)∧Aside0 (Kd.R (Kd.int .i64) 3 w' w.heap.size (fun _=>True) (.slice Ao6 y153.length co6) x3_1)∧Aside0 (Below w.heap.size w w'))
 case atStart=>exact ⟨(y153),(0),zS,H',⟨Nat.le_refl _⟩,⟨zO HO155⟩,⟨zB⟩⟩
 case round =>
  clear H'
  try clear c1
  try clear c2
  try clear c2b0
  try clear c2b1
  try clear p2
  try clear c3
  try clear c3b0
  try clear c3b1
  obtain ⟨x3_1,x10_1,rfl,HA,HK1,HO_3,HB⟩:=hrel
  have hl3_1:=(Kd.R_reads' HO_3.out).1
  rw [hl3_1] at HO_3
  (try simp only [hl3_1])
  cases gk with
  | zero=>exact absurd HA.out (by simp [gantref1_halved.l0])
  | succ k1 =>
   have H:=HA.out
   clear HA
   simp only [gantref1_halved.l0] at H
   by_cases c7:x10_1 < (y153.length:Int)
   ·rw [if_pos c7] at H
    have c7b0:decide (x10_1 < (y153.length:Int))=true:=decide_eq_true c7
    (try (have c7b0_0:=c7b0; simp only [hl3_1] at c7b0_0))
    clear c7
    obtain ⟨t156,A8,H⟩:=zH H
    obtain ⟨t157,A9,H⟩:=zH H
    obtain ⟨c10b0,H⟩:=zF H
    obtain ⟨c11b0,H⟩:=zF H
    (try (have c11b0_0:=c11b0; simp only [hl3_1] at c11b0_0))
    obtain ⟨y158,Ny158⟩:∃ y_:List Int,Aside0 (y_=(x3_1.set (x10_1:Int).toNat (wrap64 ((wrap64 (Int.tdiv t156 2))+(wrap64 ((Int.tmod t157 2)*128)))))):=⟨_,⟨rfl⟩⟩
    replace H:(gantref1_halved.l0 k1 a0 y158 (y153.length:Int) (wrap64 (x10_1+1)))=some r:=zY Ny158 H
    have H':=Aside0.mk H
    clear H
    go_wp2_with (first | ((with_reducible refine zG 111 ?_); refine zL 17 Tryd.func111 #[.string a0,.int .i64 x10_1] ?_; (with_reducible refine (gantref1_digit.calls a0 x10_1 t156 _ A8.out).mono ?_); rintro e w' ⟨rfl,⟨nd,rfl⟩⟩; refine ⟨_,rfl,?_⟩; (try (rw [drewN_self wr]; generalize hq_:World.drewN wr _=wr; have n0_:Aside0 (Kd.R (Kd.int .i64) 3 wr w.heap.size (fun _=>True) (.slice Ao6 x3_1.length co6) x3_1):=⟨by rw [← hq_]; exact (zO HO_3)⟩; have n1_:Aside0 (Below w.heap.size w wr):=⟨by rw [← hq_]; exact zB⟩; clear HO_3 HB hq_; have HO_3:=n0_; have HB:=n1_; clear n0_ n1_))) | ((with_reducible refine zG 111 ?_); refine zL 22 Tryd.func111 #[.string a0,.int .i64 (wrap64 (x10_1+1))] ?_; (with_reducible refine (gantref1_digit.calls a0 (wrap64 (x10_1+1)) t157 _ A9.out).mono ?_); rintro e w' ⟨rfl,⟨nd,rfl⟩⟩; refine ⟨_,rfl,?_⟩; (try (rw [drewN_self wr]; generalize hq_:World.drewN wr _=wr; have n0_:Aside0 (Kd.R (Kd.int .i64) 3 wr w.heap.size (fun _=>True) (.slice Ao6 x3_1.length co6) x3_1):=⟨by rw [← hq_]; exact (zO HO_3)⟩; have n1_:Aside0 (Below w.heap.size w wr):=⟨by rw [← hq_]; exact zB⟩; clear HO_3 HB hq_; have HO_3:=n0_; have HB:=n1_; clear n0_ n1_)); have p12:0≤(x10_1:Int):=zD; have q12:(x10_1:Int) < ((x3_1.length:Int):Int):=zD; obtain ⟨go12,co12,eo12,gb12,gl12,cl12,HG12⟩:=Kd.R_form HO_3.out (by omega); (first | cases eo12 | (injection eo12 with ea_ en_ ec_; (first | subst ea_ | (injection ea_ with ea_; subst ea_)); subst ec_; clear en_)); have GB12:=Aside0.mk gb12; have GG12:=Aside0.mk HG12; clear gb12 gl12 HG12; obtain ⟨hx12_0,hf12_0⟩:=Kd.R_celln 0 HO_3.out (x10_1:Int) p12 q12; replace p12:=eq_true p12; replace q12:=eq_true q12; obtain ⟨hy13_,hz13_⟩:=Kd.R_celln 0 HO_3.out (x10_1:Int) zD zD; have HP13:=Kd.R_putg HO_3.out (x10_1:Int) (wrap64 ((wrap64 (Int.tdiv t156 2))+(wrap64 ((Int.tmod t157 2)*128))))) | ((with_reducible refine gate_store (t:=3) (p:=26) rfl ?_); refine store_event (t:=3) (p:=26) (v:=?vo_w14) (w1:=(wr.setCell ⟨go12,(x10_1:Int).toNat,none⟩ (.int .i64 (wrap64 ((wrap64 (Int.tdiv t156 2))+(wrap64 ((Int.tmod t157 2)*128))))))) ?hg ?ho ?hn ?hr ?_; (case ho=>rfl); (case hg=>rfl); (case hn=>rfl); (case hr=>first | (go_simp; done) | (go_simp; rfl)); intro w14 hw; have hg:wr.grownBy w14 (some go12):=(by rw [hw]; exact HP13.2); have hp_:Kd.R (Kd.int .i64) 3 w14 w.heap.size (fun _=>True) (.slice (some ⟨go12,0,none⟩) x3_1.length co6) y158:=(by rw [hw,Ny158.out]; exact HP13.1); clear HP13; replace HO_3:=Aside0.mk (hp_); replace HB:=Aside0.mk ((by rw [hw]; exact below_set (HB.out) GB12.out:Below w.heap.size w w14)); clear hg hw hp_))
    (try simp only [← hl3_1])
    go_roundg k1
    case measure=>have:=HK1.out; omega
    case rel=>exact ⟨(y158),(wrap64 (x10_1+1)),zS,H',⟨by have:=HK1.out; omega⟩,⟨by (try simp only [hl3_1]); (with_reducible repeat (first | apply Kd.R_alloc | apply Kd.R_drewN | apply Kd.R_drew)); exact HO_3.out⟩,⟨zB⟩⟩
   rw [if_neg c7] at H
   have c7b0:decide (x10_1 < (y153.length:Int))=false:=decide_eq_false c7
   (try (have c7b0_0:=c7b0; simp only [hl3_1] at c7b0_0))
   clear c7
   obtain ⟨t159,A15,H⟩:=zH H
   obtain rfl:=Option.some.inj H
   go_wp2_with (first | ((with_reducible refine zG 112 ?_); refine zL 29 Tryd.func112 #[.slice Ao6 x3_1.length co6] ?_; (with_reducible refine (gantref1_number.calls k1 _ _ x3_1 t159 _ ?side1 ?side2 A15.out).mono ?_); (case side1=>exact zC HO_3); (case side2=>exact (Kd.R_reads' HO_3.out).2.1); rintro e w16 ⟨rfl,hb⟩; refine ⟨_,rfl,?_⟩; replace HO_3:=Aside0.mk (Kd.R_below (zO HO_3) hb); replace HB:=zP hb; (try clear hb)))
   go_ret
   exact ⟨zR,zB⟩
mutual
def gantref1_Common.j0:Nat→ByteArray→ByteArray→Bool→Option (ByteArray)
 | 0,_,_,_=>none
 | k+1,x0,x1,x15=>if x15=true then ((gantref1_Plus.f k x0 x1).bind fun t162=>(some t162)) else (gantref1_Common.l0 k x0 x1 0)
def gantref1_Common.l0:Nat→ByteArray→ByteArray→Int→Option (ByteArray)
 | 0,_,_,_=>none
 | k+1,x0,x1,x5=>(gantref1_bit.f x0 0).bind fun t163=>((gantref1_bit.f x1 0).bind fun t164=>(if (wrap64 (t163+t164))=0 then ((gantref1_halved.f k x0).bind fun t165=>((gantref1_halved.f k x1).bind fun t166=>(gantref1_Common.l0 k t165 t166 (wrap64 (x5+1))))) else (gantref1_Common.l1 k x0 x1 x5)))
def gantref1_Common.l1:Nat→ByteArray→ByteArray→Int→Option (ByteArray)
 | 0,_,_,_=>none
 | k+1,x0,x1,x5=>if x0.toList=([]:List UInt8) then (gantref1_Common.l2 k x1 x5 0) else ((gantref1_bit.f x0 0).bind fun t167=>(if t167=0 then ((gantref1_halved.f k x0).bind fun t168=>(gantref1_Common.l1 k t168 x1 x5)) else ((gantref1_bit.f x1 0).bind fun t169=>(if t169=0 then ((gantref1_halved.f k x1).bind fun t170=>(gantref1_Common.l1 k x0 t170 x5)) else ((gantref1_Compare.f k x0 x1).bind fun t171=>(if t171≥0 then ((gantref1_Less.f k x0 x1).bind fun t172=>(gantref1_Common.l1 k t172 x1 x5)) else ((gantref1_Less.f k x1 x0).bind fun t173=>(gantref1_Common.l1 k t173 x0 x5))))))))
def gantref1_Common.l2:Nat→ByteArray→Int→Int→Option (ByteArray)
 | 0,_,_,_=>none
 | k+1,x1,x57,x58=>if x58 < x57 then ((gantref1_Plus.f k x1 x1).bind fun t174=>(gantref1_Common.l2 k t174 x57 (wrap64 (x58+1)))) else (some x1)
end
def gantref1_Common.f (k:Nat) (a0:ByteArray) (a1:ByteArray):Option (ByteArray):=(gantref1_Bare.f a0).bind fun t160=>((gantref1_Bare.f a1).bind fun t161=>(if t160.toList=([]:List UInt8) then (gantref1_Common.j0 k t160 t161 true) else (gantref1_Common.j0 k t160 t161 (t161.toList==([]:List UInt8)))))
theorem gantref1_Common.mono_l:∀ k,(∀ y0 y1 y2,LeO (gantref1_Common.j0 k y0 y1 y2) (gantref1_Common.j0 (k+1) y0 y1 y2))∧(∀ y0 y1 y2,LeO (gantref1_Common.l0 k y0 y1 y2) (gantref1_Common.l0 (k+1) y0 y1 y2))∧(∀ y0 y1 y2,LeO (gantref1_Common.l1 k y0 y1 y2) (gantref1_Common.l1 (k+1) y0 y1 y2))∧(∀ y0 y1 y2,LeO (gantref1_Common.l2 k y0 y1 y2) (gantref1_Common.l2 (k+1) y0 y1 y2))
 | 0=>⟨fun _ _ _ r h=>by simp [gantref1_Common.j0] at h,fun _ _ _ r h=>by simp [gantref1_Common.l0] at h,fun _ _ _ r h=>by simp [gantref1_Common.l1] at h,fun _ _ _ r h=>by simp [gantref1_Common.l2] at h⟩
 | k+1=>by
  obtain ⟨ih0,ih1,ih2,ih3⟩:=gantref1_Common.mono_l k
  refine ⟨?_,?_,?_,?_⟩
  ·intro y0 y1 y2
   unfold gantref1_Common.j0
   have m0:=@gantref1_Compare.mono
   have m1:=@gantref1_Less.mono
   have m2:=@gantref1_Plus.mono
   have m3:=@gantref1_halved.mono
   exact zM
  ·intro y0 y1 y2
   unfold gantref1_Common.l0
   have m0:=@gantref1_Compare.mono
   have m1:=@gantref1_Less.mono
   have m2:=@gantref1_Plus.mono
   have m3:=@gantref1_halved.mono
   exact zM
  ·intro y0 y1 y2
   unfold gantref1_Common.l1
   have m0:=@gantref1_Compare.mono
   have m1:=@gantref1_Less.mono
   have m2:=@gantref1_Plus.mono
   have m3:=@gantref1_halved.mono
   exact zM
  intro y0 y1 y2
  unfold gantref1_Common.l2
  have m0:=@gantref1_Compare.mono
  have m1:=@gantref1_Less.mono
  have m2:=@gantref1_Plus.mono
  have m3:=@gantref1_halved.mono
  exact zM
theorem gantref1_Common.mono:∀ a0 a1 k,LeO (gantref1_Common.f k a0 a1) (gantref1_Common.f (k+1) a0 a1):=by
 intro a0 a1 k
 obtain ⟨ih0,ih1,ih2,ih3⟩:=gantref1_Common.mono_l k
 unfold gantref1_Common.f
 have m0:=@gantref1_Compare.mono
 have m1:=@gantref1_Less.mono
 have m2:=@gantref1_Plus.mono
 have m3:=@gantref1_halved.mono
 exact zM
theorem gantref1_Common.calls (k:Nat) (a0:ByteArray) (a1:ByteArray) (r:ByteArray) (w:World) (h:gantref1_Common.f k a0 a1=some r) :
 Calls Tryd.prog 128 #[.string a0,.string a1] w fun e w'=>e = .returned (.string r)∧Below w.heap.size w w':=by
 have HB:=Aside0.mk (Below.refl w.heap.size w)
 unfold gantref1_Common.f at h
 have H:=h
 clear h
 obtain ⟨t160,A3,H⟩:=zH H
 obtain ⟨t161,A4,H⟩:=zH H
 have HC5:=Aside0.mk H
 clear H
 go_enter Tryd.func128,Tryd.ntmps128
 go_upto_region 2 with (first | ((with_reducible refine zG 52 ?_); refine zL 7 Tryd.func52 #[.string a0] ?_; (with_reducible refine (gantref1_Bare.calls a0 t160 _ A3.out).mono ?_); rintro e w' ⟨rfl,⟨nd,rfl⟩⟩; refine ⟨_,rfl,?_⟩) | ((with_reducible refine zG 52 ?_); refine zL 9 Tryd.func52 #[.string a1] ?_; (with_reducible refine (gantref1_Bare.calls a1 t161 _ A4.out).mono ?_); rintro e w' ⟨rfl,⟨nd,rfl⟩⟩; refine ⟨_,rfl,?_⟩))
 (try simp only [Act.put,List.setIfInBounds_toArray,List.set_cons_zero,List.set_cons_succ])
 go_cut [15] (fun v15 wc=>∃ (kq:Nat) (x15_4:Bool),v15 = .bool x15_4∧Aside0 (gantref1_Common.j0 kq t160 t161 x15_4=some r)∧Aside0 (kq≤k)∧Aside0 (Below w.heap.size w wc))
 case first =>
  have H:=HC5.out
  clear HC5
  by_cases c6:t160.toList=([]:List UInt8)
  ·rw [if_pos c6] at H
   have c6b0:(t160.toList==([]:List UInt8))=true:=beq_iff_eq.mpr c6
   have c6b1:(t160.toList != ([]:List UInt8))=false:=bne_eq_false_iff_eq.mpr c6
   clear c6
   (first | rw [c6b0] | rw [c6b1] | (simp only [i64_w,i32_w]; rw [c6b0]) | skip)
   have H':=Aside0.mk H
   clear H
   go_wp2
   go_meet
   case rel=>exact ⟨_,(true),zS,H',⟨by first | omega | exact Nat.le_refl _⟩,⟨zB⟩⟩
  rw [if_neg c6] at H
  have c6b0:(t160.toList==([]:List UInt8))=false:=beq_eq_false_iff_ne.mpr c6
  have c6b1:(t160.toList != ([]:List UInt8))=true:=bne_iff_ne.mpr c6
  (first | rw [c6b0] | rw [c6b1] | (simp only [i64_w,i32_w]; rw [c6b0]) | skip)
  have H':=Aside0.mk H
  clear H
  go_wp2
  go_meet
  case rel=>exact ⟨_,((t161.toList==([]:List UInt8))),zS,H',⟨by first | omega | exact Nat.le_refl _⟩,⟨zB⟩⟩
 case rest =>
  clear HC5
  try clear c1
  try clear p2
  try clear c5
  try clear c6
  try clear c6b0
  try clear c6b1
  obtain ⟨kq,x15_4,rfl,HA,HJ4,HB⟩:=hcut
  cases kq with
  | zero=>exact absurd HA.out (by simp [gantref1_Common.j0])
  | succ kj4 =>
   have H:=HA.out
   clear HA
   simp only [gantref1_Common.j0] at H
   by_cases c7:x15_4=true
   ·subst c7
    have H1:((gantref1_Plus.f kj4 t160 t161).bind fun t162=>(some t162))=some r:=by rw [if_pos rfl] at H; exact H
    clear H
    have H:=H1
    clear H1
    obtain ⟨t162,A8,H⟩:=zH H
    obtain rfl:=Option.some.inj H
    go_wp2_with (first | ((with_reducible refine zG 49 ?_); refine zL 18 Tryd.func49 #[.string t160,.string t161] ?_; (with_reducible refine (gantref1_Plus.calls kj4 t160 t161 t162 _ A8.out).mono ?_); rintro e w9 ⟨rfl,hb⟩; refine ⟨_,rfl,?_⟩; replace HB:=zP hb; (try clear hb)))
    go_ret
    exact ⟨zR,zB⟩
   replace c7:=Bool.eq_false_iff.mpr c7
   subst c7
   have H1:(gantref1_Common.l0 kj4 t160 t161 0)=some r:=by rw [if_neg (show ¬ (false=true) by decide)] at H; exact H
   clear H
   have H:=H1
   clear H1
   have H':=Aside0.mk H
   clear H
   go_wp2
   go_loopg [0,1,5] kj4 (fun kq v0 v1 v5 w'=>∃ (x0_2:ByteArray) (x1_2:ByteArray) (x5_2:Int),v0 = .string x0_2∧v1 = .string x1_2∧v5 = .int .i64 x5_2∧Aside0 (gantref1_Common.l0 kq x0_2 x1_2 x5_2=some r)∧Aside0 (kq≤kj4)∧Aside0 (Below w.heap.size w w'))
   case atStart=>exact ⟨(t160),(t161),(0),zS,zS,zS,H',⟨Nat.le_refl _⟩,⟨zB⟩⟩
   case round =>
    clear H'
    try clear c1
    try clear p2
    try clear c4
    try clear c5
    try clear c6
    try clear c6b0
    try clear c6b1
    try clear c7
    try clear p2
    obtain ⟨x0_2,x1_2,x5_2,rfl,rfl,rfl,HA,HK2,HB⟩:=hrel
    cases gk with
    | zero=>exact absurd HA.out (by simp [gantref1_Common.l0])
    | succ k2 =>
     have H:=HA.out
     clear HA
     simp only [gantref1_Common.l0] at H
     obtain ⟨t163,A10,H⟩:=zH H
     obtain ⟨t164,A11,H⟩:=zH H
     by_cases c12:(wrap64 (t163+t164))=0
     ·rw [if_pos c12] at H
      have c12b0:((wrap64 (t163+t164))==0)=true:=beq_iff_eq.mpr c12
      have c12b1:((wrap64 (t163+t164)) != 0)=false:=bne_eq_false_iff_eq.mpr c12
      clear c12
      obtain ⟨t165,A13,H⟩:=zH H
      obtain ⟨t166,A14,H⟩:=zH H
      have H':=Aside0.mk H
      clear H
      go_wp2_with (first | ((with_reducible refine zG 161 ?_); refine zL 20 Tryd.func161 #[.string x0_2,.int .i64 0] ?_; (with_reducible refine (gantref1_bit.calls x0_2 0 t163 _ A10.out).mono ?_); rintro e w' ⟨rfl,⟨nd,rfl⟩⟩; refine ⟨_,rfl,?_⟩) | ((with_reducible refine zG 161 ?_); refine zL 22 Tryd.func161 #[.string x1_2,.int .i64 0] ?_; (with_reducible refine (gantref1_bit.calls x1_2 0 t164 _ A11.out).mono ?_); rintro e w' ⟨rfl,⟨nd,rfl⟩⟩; refine ⟨_,rfl,?_⟩) | ((with_reducible refine zG 162 ?_); refine zL 26 Tryd.func162 #[.string x0_2] ?_; (with_reducible refine (gantref1_halved.calls k2 x0_2 t165 _ A13.out).mono ?_); rintro e w15 ⟨rfl,hb⟩; refine ⟨_,rfl,?_⟩; replace HB:=zP hb; (try clear hb)) | ((with_reducible refine zG 162 ?_); refine zL 28 Tryd.func162 #[.string x1_2] ?_; (with_reducible refine (gantref1_halved.calls k2 x1_2 t166 _ A14.out).mono ?_); rintro e w16 ⟨rfl,hb⟩; refine ⟨_,rfl,?_⟩; replace HB:=zP hb; (try clear hb)))
      go_roundg k2
      case measure=>have:=HJ4.out; have:=HK2.out; omega
      case rel=>exact ⟨(t165),(t166),(wrap64 (x5_2+1)),zS,zS,zS,H',⟨by have:=HJ4.out; have:=HK2.out; omega⟩,⟨zB⟩⟩
     rw [if_neg c12] at H
     have c12b0:((wrap64 (t163+t164))==0)=false:=beq_eq_false_iff_ne.mpr c12
     have c12b1:((wrap64 (t163+t164)) != 0)=true:=bne_iff_ne.mpr c12
     have H':=Aside0.mk H
     clear H
     go_wp2_with (first | ((with_reducible refine zG 161 ?_); refine zL 20 Tryd.func161 #[.string x0_2,.int .i64 0] ?_; (with_reducible refine (gantref1_bit.calls x0_2 0 t163 _ A10.out).mono ?_); rintro e w' ⟨rfl,⟨nd,rfl⟩⟩; refine ⟨_,rfl,?_⟩) | ((with_reducible refine zG 161 ?_); refine zL 22 Tryd.func161 #[.string x1_2,.int .i64 0] ?_; (with_reducible refine (gantref1_bit.calls x1_2 0 t164 _ A11.out).mono ?_); rintro e w' ⟨rfl,⟨nd,rfl⟩⟩; refine ⟨_,rfl,?_⟩))
     go_loopg [0,1] k2 (fun kq v0 v1 w'=>∃ (x0_3:ByteArray) (x1_3:ByteArray),v0 = .string x0_3∧v1 = .string x1_3∧Aside0 (gantref1_Common.l1 kq x0_3 x1_3 x5_2=some r)∧Aside0 (kq≤k2)∧Aside0 (Below w.heap.size w w'))
     case atStart=>exact ⟨(x0_2),(x1_2),zS,zS,H',⟨Nat.le_refl _⟩,⟨zB⟩⟩
     case round =>
      clear H'
      try clear c1
      try clear p2
      try clear c4
      try clear c5
      try clear c6
      try clear c6b0
      try clear c6b1
      try clear p6
      try clear c7
      try clear c12
      try clear c12b0
      try clear c12b1
      try clear c16
      try clear p2
      obtain ⟨x0_3,x1_3,rfl,rfl,HA,HK3,HB⟩:=hrel
      cases gk with
      | zero=>exact absurd HA.out (by simp [gantref1_Common.l1])
      | succ k3 =>
       have H:=HA.out
       clear HA
       simp only [gantref1_Common.l1] at H
       by_cases c17:x0_3.toList=([]:List UInt8)
       ·rw [if_pos c17] at H
        have c17b0:(x0_3.toList==([]:List UInt8))=true:=beq_iff_eq.mpr c17
        have c17b1:(x0_3.toList != ([]:List UInt8))=false:=bne_eq_false_iff_eq.mpr c17
        clear c17
        have H':=Aside0.mk H
        clear H
        go_wp2
        go_loopg [1,58] k3 (fun kq v1 v58 w'=>∃ (x1_4:ByteArray) (x58_4:Int),v1 = .string x1_4∧v58 = .int .i64 x58_4∧Aside0 (gantref1_Common.l2 kq x1_4 x5_2 x58_4=some r)∧Aside0 (kq≤k3)∧Aside0 (Below w.heap.size w w'))
        case atStart=>exact ⟨(x1_3),(0),zS,zS,H',⟨Nat.le_refl _⟩,⟨zB⟩⟩
        case round =>
         clear H'
         try clear c1
         try clear p2
         try clear c4
         try clear c5
         try clear c6
         try clear c6b0
         try clear c6b1
         try clear p6
         try clear c7
         try clear c12
         try clear c12b0
         try clear c12b1
         try clear c16
         try clear c17
         try clear c17b0
         try clear c17b1
         try clear p2
         try clear p6
         obtain ⟨x1_4,x58_4,rfl,rfl,HA,HK4,HB⟩:=hrel
         cases gk with
         | zero=>exact absurd HA.out (by simp [gantref1_Common.l2])
         | succ k4 =>
          have H:=HA.out
          clear HA
          simp only [gantref1_Common.l2] at H
          by_cases c18:x58_4 < x5_2
          ·rw [if_pos c18] at H
           have c18b0:decide (x58_4 < x5_2)=true:=decide_eq_true c18
           clear c18
           obtain ⟨t174,A19,H⟩:=zH H
           have H':=Aside0.mk H
           clear H
           go_wp2_with (first | ((with_reducible refine zG 49 ?_); refine zL 62 Tryd.func49 #[.string x1_4,.string x1_4] ?_; (with_reducible refine (gantref1_Plus.calls k4 x1_4 x1_4 t174 _ A19.out).mono ?_); rintro e w20 ⟨rfl,hb⟩; refine ⟨_,rfl,?_⟩; replace HB:=zP hb; (try clear hb)))
           go_roundg k4
           case measure=>have:=HJ4.out; have:=HK2.out; have:=HK3.out; have:=HK4.out; omega
           case rel=>exact ⟨(t174),(wrap64 (x58_4+1)),zS,zS,H',⟨by have:=HJ4.out; have:=HK2.out; have:=HK3.out; have:=HK4.out; omega⟩,⟨zB⟩⟩
          rw [if_neg c18] at H
          have c18b0:decide (x58_4 < x5_2)=false:=decide_eq_false c18
          clear c18
          obtain rfl:=Option.some.inj H
          go_wp2
          go_ret
          exact ⟨zR,zB⟩
       rw [if_neg c17] at H
       have c17b0:(x0_3.toList==([]:List UInt8))=false:=beq_eq_false_iff_ne.mpr c17
       have c17b1:(x0_3.toList != ([]:List UInt8))=true:=bne_iff_ne.mpr c17
       obtain ⟨t167,A21,H⟩:=zH H
       by_cases c22:t167=0
       ·rw [if_pos c22] at H
        have c22b0:(t167==0)=true:=beq_iff_eq.mpr c22
        have c22b1:(t167 != 0)=false:=bne_eq_false_iff_eq.mpr c22
        clear c22
        obtain ⟨t168,A23,H⟩:=zH H
        have H':=Aside0.mk H
        clear H
        go_wp2_with (first | ((with_reducible refine zG 161 ?_); refine zL 39 Tryd.func161 #[.string x0_3,.int .i64 0] ?_; (with_reducible refine (gantref1_bit.calls x0_3 0 t167 _ A21.out).mono ?_); rintro e w' ⟨rfl,⟨nd,rfl⟩⟩; refine ⟨_,rfl,?_⟩) | ((with_reducible refine zG 162 ?_); refine zL 42 Tryd.func162 #[.string x0_3] ?_; (with_reducible refine (gantref1_halved.calls k3 x0_3 t168 _ A23.out).mono ?_); rintro e w24 ⟨rfl,hb⟩; refine ⟨_,rfl,?_⟩; replace HB:=zP hb; (try clear hb)))
        go_roundg k3
        case measure=>have:=HJ4.out; have:=HK2.out; have:=HK3.out; omega
        case rel=>exact ⟨(t168),(x1_3),zS,zS,H',⟨by have:=HJ4.out; have:=HK2.out; have:=HK3.out; omega⟩,⟨zB⟩⟩
       rw [if_neg c22] at H
       have c22b0:(t167==0)=false:=beq_eq_false_iff_ne.mpr c22
       have c22b1:(t167 != 0)=true:=bne_iff_ne.mpr c22
       obtain ⟨t169,A25,H⟩:=zH H
       by_cases c26:t169=0
       ·rw [if_pos c26] at H
        have c26b0:(t169==0)=true:=beq_iff_eq.mpr c26
        have c26b1:(t169 != 0)=false:=bne_eq_false_iff_eq.mpr c26
        clear c26
        obtain ⟨t170,A27,H⟩:=zH H
        have H':=Aside0.mk H
        clear H
        go_wp2_with (first | ((with_reducible refine zG 161 ?_); refine zL 39 Tryd.func161 #[.string x0_3,.int .i64 0] ?_; (with_reducible refine (gantref1_bit.calls x0_3 0 t167 _ A21.out).mono ?_); rintro e w' ⟨rfl,⟨nd,rfl⟩⟩; refine ⟨_,rfl,?_⟩) | ((with_reducible refine zG 161 ?_); refine zL 45 Tryd.func161 #[.string x1_3,.int .i64 0] ?_; (with_reducible refine (gantref1_bit.calls x1_3 0 t169 _ A25.out).mono ?_); rintro e w' ⟨rfl,⟨nd,rfl⟩⟩; refine ⟨_,rfl,?_⟩) | ((with_reducible refine zG 162 ?_); refine zL 48 Tryd.func162 #[.string x1_3] ?_; (with_reducible refine (gantref1_halved.calls k3 x1_3 t170 _ A27.out).mono ?_); rintro e w28 ⟨rfl,hb⟩; refine ⟨_,rfl,?_⟩; replace HB:=zP hb; (try clear hb)))
        go_roundg k3
        case measure=>have:=HJ4.out; have:=HK2.out; have:=HK3.out; omega
        case rel=>exact ⟨(x0_3),(t170),zS,zS,H',⟨by have:=HJ4.out; have:=HK2.out; have:=HK3.out; omega⟩,⟨zB⟩⟩
       rw [if_neg c26] at H
       have c26b0:(t169==0)=false:=beq_eq_false_iff_ne.mpr c26
       have c26b1:(t169 != 0)=true:=bne_iff_ne.mpr c26
       obtain ⟨t171,A29,H⟩:=zH H
       by_cases c30:t171≥0
       ·rw [if_pos c30] at H
        have c30b0:decide (0≤t171)=true:=decide_eq_true c30
        clear c30
        obtain ⟨t172,A31,H⟩:=zH H
        have H':=Aside0.mk H
        clear H
        go_wp2_with (first | ((with_reducible refine zG 161 ?_); refine zL 39 Tryd.func161 #[.string x0_3,.int .i64 0] ?_; (with_reducible refine (gantref1_bit.calls x0_3 0 t167 _ A21.out).mono ?_); rintro e w' ⟨rfl,⟨nd,rfl⟩⟩; refine ⟨_,rfl,?_⟩) | ((with_reducible refine zG 161 ?_); refine zL 45 Tryd.func161 #[.string x1_3,.int .i64 0] ?_; (with_reducible refine (gantref1_bit.calls x1_3 0 t169 _ A25.out).mono ?_); rintro e w' ⟨rfl,⟨nd,rfl⟩⟩; refine ⟨_,rfl,?_⟩) | ((with_reducible refine zG 163 ?_); refine zL 52 Tryd.func163 #[.string x0_3,.string x1_3] ?_; (with_reducible refine (gantref1_Compare.calls k3 x0_3 x1_3 t171 _ A29.out).mono ?_); rintro e w32 ⟨rfl,hb⟩; refine ⟨_,rfl,?_⟩; replace HB:=zP hb; (try clear hb)) | ((with_reducible refine zG 164 ?_); refine zL 56 Tryd.func164 #[.string x0_3,.string x1_3] ?_; (with_reducible refine (gantref1_Less.calls k3 x0_3 x1_3 t172 _ A31.out).mono ?_); rintro e w33 ⟨rfl,hb⟩; refine ⟨_,rfl,?_⟩; replace HB:=zP hb; (try clear hb)))
        go_roundg k3
        case measure=>have:=HJ4.out; have:=HK2.out; have:=HK3.out; omega
        case rel=>exact ⟨(t172),(x1_3),zS,zS,H',⟨by have:=HJ4.out; have:=HK2.out; have:=HK3.out; omega⟩,⟨zB⟩⟩
       rw [if_neg c30] at H
       have c30b0:decide (0≤t171)=false:=decide_eq_false c30
       clear c30
       obtain ⟨t173,A34,H⟩:=zH H
       have H':=Aside0.mk H
       clear H
       go_wp2_with (first | ((with_reducible refine zG 161 ?_); refine zL 39 Tryd.func161 #[.string x0_3,.int .i64 0] ?_; (with_reducible refine (gantref1_bit.calls x0_3 0 t167 _ A21.out).mono ?_); rintro e w' ⟨rfl,⟨nd,rfl⟩⟩; refine ⟨_,rfl,?_⟩) | ((with_reducible refine zG 161 ?_); refine zL 45 Tryd.func161 #[.string x1_3,.int .i64 0] ?_; (with_reducible refine (gantref1_bit.calls x1_3 0 t169 _ A25.out).mono ?_); rintro e w' ⟨rfl,⟨nd,rfl⟩⟩; refine ⟨_,rfl,?_⟩) | ((with_reducible refine zG 163 ?_); refine zL 52 Tryd.func163 #[.string x0_3,.string x1_3] ?_; (with_reducible refine (gantref1_Compare.calls k3 x0_3 x1_3 t171 _ A29.out).mono ?_); rintro e w35 ⟨rfl,hb⟩; refine ⟨_,rfl,?_⟩; replace HB:=zP hb; (try clear hb)) | ((with_reducible refine zG 164 ?_); refine zL 35 Tryd.func164 #[.string x1_3,.string x0_3] ?_; (with_reducible refine (gantref1_Less.calls k3 x1_3 x0_3 t173 _ A34.out).mono ?_); rintro e w36 ⟨rfl,hb⟩; refine ⟨_,rfl,?_⟩; replace HB:=zP hb; (try clear hb)))
       go_roundg k3
       case measure=>have:=HJ4.out; have:=HK2.out; have:=HK3.out; omega
       case rel=>exact ⟨(t173),(x0_3),zS,zS,H',⟨by have:=HJ4.out; have:=HK2.out; have:=HK3.out; omega⟩,⟨zB⟩⟩
end Go.Proofs.YtkpeembfagcpcaaDoor.R
