import Derived.Test.YtkpeembfagcpcaaDoorYR0
import Derived.Test.YtkpeembfagcpcaaDoorYR1
import Derived.Test.YtkpeembfagcpcaaDoorYZ
namespace Go.Proofs.YtkpeembfagcpcaaDoor.R
open Go.RowKit Go.Proofs.YtkpeembfagcpcaaDoor.Z Go.Proofs.YtkpeembfagcpcaaDoor.A Go.Proofs.YtkpeembfagcpcaaDoor.H Go.Proofs.YtkpeembfagcpcaaDoor.B Go.Proofs.YtkpeembfagcpcaaDoorW.PrintWords Go.Proofs.YtkpeembfagcpcaaDoorW.PrintLast Go.Proofs.YtkpeembfagcpcaaDoorW.PrintMore
attribute [local go_sem] max2_int min2_int max_two min_two max_three min_three max_four min_four
set_option linter.unusedVariables false
set_option linter.unusedSimpArgs false
set_option maxHeartbeats 8000000
set_option maxRecDepth 100000
def gantref1_Less.l0:Nat→ByteArray→ByteArray→List Int→Int→Int→Int→Option (ByteArray)
 | 0,_,_,_,_,_,_=>none
 | k+1,x0,x1,x5,x6,x12,x13=>if x13 < x12 then ((gantref1_digit.f x0 x13).bind fun t127=>((gantref1_digit.f x1 x13).bind fun t128=>(if 0≤x13 then (if x13 < (x5.length:Int) then ((some (x5.set (x13:Int).toNat (wrap64 ((wrap64 (t127 - t128)) - x6)):List Int)).bind fun y129=>(if (rd y129 x13) < 0 then (gantref1_Less.l0 k x0 x1 (y129.set (x13:Int).toNat (wrap64 ((rd y129 x13)+256))) 1 x12 (wrap64 (x13+1))) else (gantref1_Less.l0 k x0 x1 y129 0 x12 (wrap64 (x13+1))))) else (none)) else (none)))) else ((gantref1_number.f k x5).bind fun t126=>(some t126))
def gantref1_Less.f (k:Nat) (a0:ByteArray) (a1:ByteArray):Option (ByteArray):=if 0≤(a0.size:Int) then (if ((a0.size:Int):Int).toNat≤35184372088832 then ((some (List.replicate ((a0.size:Int):Int).toNat 0:List Int)).bind fun y123=>(gantref1_Less.l0 k a0 a1 y123 0 (y123.length:Int) 0)) else (none)) else (none)
theorem gantref1_Less.mono_l:∀ k,(∀ y0 y1 y2 y3 y4 y5,LeO (gantref1_Less.l0 k y0 y1 y2 y3 y4 y5) (gantref1_Less.l0 (k+1) y0 y1 y2 y3 y4 y5))
 | 0=>fun _ _ _ _ _ _ r h=>by simp [gantref1_Less.l0] at h
 | k+1=>by
  have ih0:=gantref1_Less.mono_l k
  intro y0 y1 y2 y3 y4 y5
  unfold gantref1_Less.l0
  have m0:=@gantref1_number.mono
  exact zM
theorem gantref1_Less.mono:∀ a0 a1 k,LeO (gantref1_Less.f k a0 a1) (gantref1_Less.f (k+1) a0 a1):=by
 intro a0 a1 k
 have ih0:=gantref1_Less.mono_l k
 unfold gantref1_Less.f
 have m0:=@gantref1_number.mono
 exact zM
theorem gantref1_Less.calls (k:Nat) (a0:ByteArray) (a1:ByteArray) (r:ByteArray) (w:World) (h:gantref1_Less.f k a0 a1=some r) :
 Calls Tryd.prog 164 #[.string a0,.string a1] w fun e w'=>e = .returned (.string r)∧Below w.heap.size w w':=by
 have HB:=Aside0.mk (Below.refl w.heap.size w)
 unfold gantref1_Less.f at h
 have H:=h
 clear h
 obtain ⟨c3b0,c3b1,H⟩:=zE H
 obtain ⟨c4b0,c4b1,H⟩:=zE H
 obtain ⟨y123,Ny123⟩:∃ y_:List Int,Aside0 (y_=(List.replicate ((a0.size:Int):Int).toNat 0)):=⟨_,⟨rfl⟩⟩
 replace H:(gantref1_Less.l0 k a0 a1 y123 0 (y123.length:Int) 0)=some r:=zY Ny123 H
 have H':=Aside0.mk H
 clear H
 go_enter Tryd.func164,Tryd.ntmps164
 go_wp2_with (first | ((with_reducible refine gate_dst (N:=10) rfl ?_); refine Kd.R_make (Kd.int .i64) _ 3 rfl (N:=10) rfl 87 _ _ rfl (a0.size:Int) rfl rfl Tryd.underlying87 (.int .i64 0) 8 info3 rfl (by decide) (by omega) 0 (ok:=fun _=>True) (okp:=fun _=>True) rfl zI trivial zD (Nat.le_trans (Nat.mul_le_mul_right _ (zD:(a0.size:Int).toNat≤35184372088832)) (by omega)) (Below.refl _ _) (Nat.le_refl _) ?_; intro v124 w5 ho6 hb hg_ hnew_; clear hg_ hnew_; (first | rw [← Ny123.out] at ho6 | (simp only [Int.reduceToNat] at ho6; rw [← Ny123.out] at ho6)); have HO125:=Aside0.mk (Kd.R_lower ho6 (below_size zB)); replace HB:=zP hb; clear hb ho6; obtain ⟨Ao7,co7,eo7⟩:=Kd.R_slice HO125.out; subst eo7))
 go_loopg [6,13] k (fun kq v6 v13 w'=>∃ (x5_1:List Int) (x6_1:Int) (x13_1:Int),v6 = .int .i64 x6_1∧v13 = .int .i64 x13_1∧Aside0 (gantref1_Less.l0 kq a0 a1 x5_1 x6_1 (y123.length:Int) x13_1=some r)∧Aside0 (kq≤k)∧Aside0 (Kd.R (Kd.int .i64) 3 w' w.heap.size (fun _=>True) (.slice Ao7 y123.length co7) x5_1)∧Aside0 (Below w.heap.size w w'))
 case atStart=>exact ⟨(y123),(0),(0),zS,zS,H',⟨Nat.le_refl _⟩,⟨zO HO125⟩,⟨zB⟩⟩
 case round =>
  clear H'
  try clear c1
  try clear p2
  try clear c3
  try clear c3b0
  try clear c3b1
  try clear c4
  try clear c4b0
  try clear c4b1
  obtain ⟨x5_1,x6_1,x13_1,rfl,rfl,HA,HK1,HO_5,HB⟩:=hrel
  have hl5_1:=(Kd.R_reads' HO_5.out).1
  rw [hl5_1] at HO_5
  (try simp only [hl5_1])
  cases gk with
  | zero=>exact absurd HA.out (by simp [gantref1_Less.l0])
  | succ k1 =>
   have H:=HA.out
   clear HA
   simp only [gantref1_Less.l0] at H
   by_cases c8:x13_1 < (y123.length:Int)
   rotate_left
   ·rw [if_neg c8] at H
    have c8b0:decide (x13_1 < (y123.length:Int))=false:=decide_eq_false c8
    (try (have c8b0_0:=c8b0; simp only [hl5_1] at c8b0_0))
    clear c8
    obtain ⟨t126,A22,H⟩:=zH H
    obtain rfl:=Option.some.inj H
    go_wp2_with (first | ((with_reducible refine zG 112 ?_); refine zL 43 Tryd.func112 #[.slice Ao7 x5_1.length co7] ?_; (with_reducible refine (gantref1_number.calls k1 _ _ x5_1 t126 _ ?side1 ?side2 A22.out).mono ?_); (case side1=>exact zC HO_5); (case side2=>exact (Kd.R_reads' HO_5.out).2.1); rintro e w23 ⟨rfl,hb⟩; refine ⟨_,rfl,?_⟩; replace HO_5:=Aside0.mk (Kd.R_below (zO HO_5) hb); replace HB:=zP hb; (try clear hb)))
    go_ret
    exact ⟨zR,zB⟩
   rw [if_pos c8] at H
   have c8b0:decide (x13_1 < (y123.length:Int))=true:=decide_eq_true c8
   (try (have c8b0_0:=c8b0; simp only [hl5_1] at c8b0_0))
   clear c8
   obtain ⟨t127,A9,H⟩:=zH H
   obtain ⟨t128,A10,H⟩:=zH H
   obtain ⟨c11b0,H⟩:=zF H
   obtain ⟨c12b0,H⟩:=zF H
   (try (have c12b0_0:=c12b0; simp only [hl5_1] at c12b0_0))
   obtain ⟨y129,Ny129⟩:∃ y_:List Int,Aside0 (y_=(x5_1.set (x13_1:Int).toNat (wrap64 ((wrap64 (t127 - t128)) - x6_1)))):=⟨_,⟨rfl⟩⟩
   replace H:(if (rd y129 x13_1) < 0 then (gantref1_Less.l0 k1 a0 a1 (y129.set (x13_1:Int).toNat (wrap64 ((rd y129 x13_1)+256))) 1 (y123.length:Int) (wrap64 (x13_1+1))) else (gantref1_Less.l0 k1 a0 a1 y129 0 (y123.length:Int) (wrap64 (x13_1+1))))=some r:=zY Ny129 H
   by_cases c14:(rd y129 x13_1) < 0
   ·rw [if_pos c14] at H
    have c14b0:decide ((rd y129 x13_1) < 0)=true:=decide_eq_true c14
    clear c14
    obtain ⟨y132,Ny132⟩:∃ y_:List Int,Aside0 (y_=(y129.set (x13_1:Int).toNat (wrap64 ((rd y129 x13_1)+256)))):=⟨_,⟨rfl⟩⟩
    replace H:(gantref1_Less.l0 k1 a0 a1 y132 1 (y123.length:Int) (wrap64 (x13_1+1)))=some r:=zY Ny132 H
    have H':=Aside0.mk H
    clear H
    go_wp2_with (first | ((with_reducible refine zG 111 ?_); refine zL 20 Tryd.func111 #[.string a0,.int .i64 x13_1] ?_; (with_reducible refine (gantref1_digit.calls a0 x13_1 t127 _ A9.out).mono ?_); rintro e w' ⟨rfl,⟨nd,rfl⟩⟩; refine ⟨_,rfl,?_⟩; (try (rw [drewN_self wr]; generalize hq_:World.drewN wr _=wr; have n0_:Aside0 (Kd.R (Kd.int .i64) 3 wr w.heap.size (fun _=>True) (.slice Ao7 x5_1.length co7) x5_1):=⟨by rw [← hq_]; exact (zO HO_5)⟩; have n1_:Aside0 (Below w.heap.size w wr):=⟨by rw [← hq_]; exact zB⟩; clear HO_5 HB hq_; have HO_5:=n0_; have HB:=n1_; clear n0_ n1_))) | ((with_reducible refine zG 111 ?_); refine zL 23 Tryd.func111 #[.string a1,.int .i64 x13_1] ?_; (with_reducible refine (gantref1_digit.calls a1 x13_1 t128 _ A10.out).mono ?_); rintro e w' ⟨rfl,⟨nd,rfl⟩⟩; refine ⟨_,rfl,?_⟩; (try (rw [drewN_self wr]; generalize hq_:World.drewN wr _=wr; have n0_:Aside0 (Kd.R (Kd.int .i64) 3 wr w.heap.size (fun _=>True) (.slice Ao7 x5_1.length co7) x5_1):=⟨by rw [← hq_]; exact (zO HO_5)⟩; have n1_:Aside0 (Below w.heap.size w wr):=⟨by rw [← hq_]; exact zB⟩; clear HO_5 HB hq_; have HO_5:=n0_; have HB:=n1_; clear n0_ n1_)); have p13:0≤(x13_1:Int):=zD; have q13:(x13_1:Int) < ((x5_1.length:Int):Int):=zD; obtain ⟨go13,co13,eo13,gb13,gl13,cl13,HG13⟩:=Kd.R_form HO_5.out (by omega); (first | cases eo13 | (injection eo13 with ea_ en_ ec_; (first | subst ea_ | (injection ea_ with ea_; subst ea_)); subst ec_; clear en_)); have GB13:=Aside0.mk gb13; have GG13:=Aside0.mk HG13; clear gb13 gl13 HG13; obtain ⟨hx13_0,hf13_0⟩:=Kd.R_celln 0 HO_5.out (x13_1:Int) p13 q13; replace p13:=eq_true p13; replace q13:=eq_true q13; obtain ⟨hy16_,hz16_⟩:=Kd.R_celln 0 HO_5.out (x13_1:Int) zD zD; have HP16:=Kd.R_putg HO_5.out (x13_1:Int) (wrap64 ((wrap64 (t127 - t128)) - x6_1))) | ((with_reducible refine gate_store (t:=3) (p:=27) rfl ?_); refine store_event (t:=3) (p:=27) (v:=?vo_w17) (w1:=(wr.setCell ⟨go13,(x13_1:Int).toNat,none⟩ (.int .i64 (wrap64 ((wrap64 (t127 - t128)) - x6_1))))) ?hg ?ho ?hn ?hr ?_; (case ho=>rfl); (case hg=>rfl); (case hn=>rfl); (case hr=>first | (go_simp; done) | (go_simp; rfl)); intro w17 hw; have hg:wr.grownBy w17 (some go13):=(by rw [hw]; exact HP16.2); have hp_:Kd.R (Kd.int .i64) 3 w17 w.heap.size (fun _=>True) (.slice (some ⟨go13,0,none⟩) x5_1.length co7) y129:=(by rw [hw,Ny129.out]; exact HP16.1); clear HP16; replace HO_5:=Aside0.mk (hp_); replace HB:=Aside0.mk ((by rw [hw]; exact below_set (HB.out) GB13.out:Below w.heap.size w w17)); clear hg hw hp_; have p130:0≤(x13_1:Int):=zD; have q130:x13_1 < (y129.length:Int):=(by have h_:(x13_1:Int) < ((x5_1.length:Int):Int):=zD; first | (have e_:=(Kd.R_reads' HO_5.out).1; omega) | simpa only [Ny129.out,List.length_set] using h_); have ql130:((x13_1:Int) < ((x5_1.length:Int):Int))=True:=eq_true zD; obtain ⟨ad130,e130,hx130_0⟩:=Kd.at_int (Kd.R_reads' HO_5.out).2.2 x13_1 p130 q130; obtain rfl:(⟨go13,0,none⟩:Addr)=ad130:=(by injection e130); (first | simp only [add_plain] at hx130_0 | simp only [add_at] at hx130_0 | simp only [Addr.add,Nat.zero_add] at hx130_0 | skip); replace p130:=eq_true p130; replace q130:=eq_true q130; have p131:0≤(x13_1:Int):=zD; have q131:x13_1 < (y129.length:Int):=(by have h_:(x13_1:Int) < ((x5_1.length:Int):Int):=zD; first | (have e_:=(Kd.R_reads' HO_5.out).1; omega) | simpa only [Ny129.out,List.length_set] using h_); have ql131:((x13_1:Int) < ((x5_1.length:Int):Int))=True:=eq_true zD; obtain ⟨ad131,e131,hx131_0⟩:=Kd.at_int (Kd.R_reads' HO_5.out).2.2 x13_1 p131 q131; obtain rfl:(⟨go13,0,none⟩:Addr)=ad131:=(by injection e131); (first | simp only [add_plain] at hx131_0 | simp only [add_at] at hx131_0 | simp only [Addr.add,Nat.zero_add] at hx131_0 | skip); replace p131:=eq_true p131; replace q131:=eq_true q131; have p15:0≤(x13_1:Int):=zD; have q15:(x13_1:Int) < ((x5_1.length:Int):Int):=zD; obtain ⟨hx15_0,hf15_0⟩:=Kd.R_celln 0 HO_5.out (x13_1:Int) p15 q15; replace p15:=eq_true p15; replace q15:=eq_true q15; obtain ⟨hy18_,hz18_⟩:=Kd.R_celln 0 HO_5.out (x13_1:Int) zD zD; have HP18:=Kd.R_putg HO_5.out (x13_1:Int) (wrap64 ((rd y129 x13_1)+256))) | ((with_reducible refine gate_store (t:=3) (p:=40) rfl ?_); refine store_event (t:=3) (p:=40) (v:=?vo_w19) (w1:=(w17.setCell ⟨go13,(x13_1:Int).toNat,none⟩ (.int .i64 (wrap64 ((rd y129 x13_1)+256))))) ?hg ?ho ?hn ?hr ?_; (case ho=>rfl); (case hg=>rfl); (case hn=>rfl); (case hr=>first | (go_simp; done) | (go_simp; rfl)); intro w19 hw; have hg:w17.grownBy w19 (some go13):=(by rw [hw]; exact HP18.2); have hp_:Kd.R (Kd.int .i64) 3 w19 w.heap.size (fun _=>True) (.slice (some ⟨go13,0,none⟩) x5_1.length co7) y132:=(by rw [hw,Ny132.out]; exact HP18.1); clear HP18; replace HO_5:=Aside0.mk (hp_); replace HB:=Aside0.mk ((by rw [hw]; exact below_set (HB.out) GB13.out:Below w.heap.size w w19)); clear hg hw hp_))
    (try simp only [← hl5_1])
    go_roundg k1
    case measure=>have:=HK1.out; omega
    case rel=>exact ⟨(y132),(1),(wrap64 (x13_1+1)),zS,zS,H',⟨by have:=HK1.out; omega⟩,⟨by (try simp only [hl5_1]); (with_reducible repeat (first | apply Kd.R_alloc | apply Kd.R_drewN | apply Kd.R_drew)); exact HO_5.out⟩,⟨zB⟩⟩
   rw [if_neg c14] at H
   have c14b0:decide ((rd y129 x13_1) < 0)=false:=decide_eq_false c14
   clear c14
   have H':=Aside0.mk H
   clear H
   go_wp2_with (first | ((with_reducible refine zG 111 ?_); refine zL 20 Tryd.func111 #[.string a0,.int .i64 x13_1] ?_; (with_reducible refine (gantref1_digit.calls a0 x13_1 t127 _ A9.out).mono ?_); rintro e w' ⟨rfl,⟨nd,rfl⟩⟩; refine ⟨_,rfl,?_⟩; (try (rw [drewN_self wr]; generalize hq_:World.drewN wr _=wr; have n0_:Aside0 (Kd.R (Kd.int .i64) 3 wr w.heap.size (fun _=>True) (.slice Ao7 x5_1.length co7) x5_1):=⟨by rw [← hq_]; exact (zO HO_5)⟩; have n1_:Aside0 (Below w.heap.size w wr):=⟨by rw [← hq_]; exact zB⟩; clear HO_5 HB hq_; have HO_5:=n0_; have HB:=n1_; clear n0_ n1_))) | ((with_reducible refine zG 111 ?_); refine zL 23 Tryd.func111 #[.string a1,.int .i64 x13_1] ?_; (with_reducible refine (gantref1_digit.calls a1 x13_1 t128 _ A10.out).mono ?_); rintro e w' ⟨rfl,⟨nd,rfl⟩⟩; refine ⟨_,rfl,?_⟩; (try (rw [drewN_self wr]; generalize hq_:World.drewN wr _=wr; have n0_:Aside0 (Kd.R (Kd.int .i64) 3 wr w.heap.size (fun _=>True) (.slice Ao7 x5_1.length co7) x5_1):=⟨by rw [← hq_]; exact (zO HO_5)⟩; have n1_:Aside0 (Below w.heap.size w wr):=⟨by rw [← hq_]; exact zB⟩; clear HO_5 HB hq_; have HO_5:=n0_; have HB:=n1_; clear n0_ n1_)); have p13:0≤(x13_1:Int):=zD; have q13:(x13_1:Int) < ((x5_1.length:Int):Int):=zD; obtain ⟨go13,co13,eo13,gb13,gl13,cl13,HG13⟩:=Kd.R_form HO_5.out (by omega); (first | cases eo13 | (injection eo13 with ea_ en_ ec_; (first | subst ea_ | (injection ea_ with ea_; subst ea_)); subst ec_; clear en_)); have GB13:=Aside0.mk gb13; have GG13:=Aside0.mk HG13; clear gb13 gl13 HG13; obtain ⟨hx13_0,hf13_0⟩:=Kd.R_celln 0 HO_5.out (x13_1:Int) p13 q13; replace p13:=eq_true p13; replace q13:=eq_true q13; obtain ⟨hy20_,hz20_⟩:=Kd.R_celln 0 HO_5.out (x13_1:Int) zD zD; have HP20:=Kd.R_putg HO_5.out (x13_1:Int) (wrap64 ((wrap64 (t127 - t128)) - x6_1))) | ((with_reducible refine gate_store (t:=3) (p:=27) rfl ?_); refine store_event (t:=3) (p:=27) (v:=?vo_w21) (w1:=(wr.setCell ⟨go13,(x13_1:Int).toNat,none⟩ (.int .i64 (wrap64 ((wrap64 (t127 - t128)) - x6_1))))) ?hg ?ho ?hn ?hr ?_; (case ho=>rfl); (case hg=>rfl); (case hn=>rfl); (case hr=>first | (go_simp; done) | (go_simp; rfl)); intro w21 hw; have hg:wr.grownBy w21 (some go13):=(by rw [hw]; exact HP20.2); have hp_:Kd.R (Kd.int .i64) 3 w21 w.heap.size (fun _=>True) (.slice (some ⟨go13,0,none⟩) x5_1.length co7) y129:=(by rw [hw,Ny129.out]; exact HP20.1); clear HP20; replace HO_5:=Aside0.mk (hp_); replace HB:=Aside0.mk ((by rw [hw]; exact below_set (HB.out) GB13.out:Below w.heap.size w w21)); clear hg hw hp_; have p130:0≤(x13_1:Int):=zD; have q130:x13_1 < (y129.length:Int):=(by have h_:(x13_1:Int) < ((x5_1.length:Int):Int):=zD; first | (have e_:=(Kd.R_reads' HO_5.out).1; omega) | simpa only [Ny129.out,List.length_set] using h_); have ql130:((x13_1:Int) < ((x5_1.length:Int):Int))=True:=eq_true zD; obtain ⟨ad130,e130,hx130_0⟩:=Kd.at_int (Kd.R_reads' HO_5.out).2.2 x13_1 p130 q130; obtain rfl:(⟨go13,0,none⟩:Addr)=ad130:=(by injection e130); (first | simp only [add_plain] at hx130_0 | simp only [add_at] at hx130_0 | simp only [Addr.add,Nat.zero_add] at hx130_0 | skip); replace p130:=eq_true p130; replace q130:=eq_true q130))
   (try simp only [← hl5_1])
   go_roundg k1
   case measure=>have:=HK1.out; omega
   case rel=>exact ⟨(y129),(0),(wrap64 (x13_1+1)),zS,zS,H',⟨by have:=HK1.out; omega⟩,⟨by (try simp only [hl5_1]); (with_reducible repeat (first | apply Kd.R_alloc | apply Kd.R_drewN | apply Kd.R_drew)); exact HO_5.out⟩,⟨zB⟩⟩
def gantref1_Small.l0:Nat→Int→List Int→Option (ByteArray)
 | 0,_,_=>none
 | k+1,x0,x3=>if x0 > 0 then (if x3.length < 17592186044416 then (gantref1_Small.l0 k (wrap64 (Int.tdiv x0 256)) (x3++[Int.tmod x0 256])) else (none)) else ((gantref1_number.f k x3).bind fun t136=>(some t136))
def gantref1_Small.f (k:Nat) (a0:Int):Option (ByteArray):=gantref1_Small.l0 k a0 ([]:List Int)
theorem gantref1_Small.mono_l:∀ k,(∀ y0 y1,LeO (gantref1_Small.l0 k y0 y1) (gantref1_Small.l0 (k+1) y0 y1))
 | 0=>fun _ _ r h=>by simp [gantref1_Small.l0] at h
 | k+1=>by
  have ih0:=gantref1_Small.mono_l k
  intro y0 y1
  unfold gantref1_Small.l0
  have m0:=@gantref1_number.mono
  exact zM
theorem gantref1_Small.mono:∀ a0 k,LeO (gantref1_Small.f k a0) (gantref1_Small.f (k+1) a0):=by
 intro a0 k
 have ih0:=gantref1_Small.mono_l k
 unfold gantref1_Small.f
 have m0:=@gantref1_number.mono
 exact zM
theorem gantref1_Small.calls (k:Nat) (a0:Int) (r:ByteArray) (w:World) (h:gantref1_Small.f k a0=some r) :
 Calls Tryd.prog 51 #[.int .i64 a0] w fun e w'=>e = .returned (.string r)∧Below w.heap.size w w':=by
 have HB:=Aside0.mk (Below.refl w.heap.size w)
 unfold gantref1_Small.f at h
 have H:=h
 clear h
 have H':=Aside0.mk H
 clear H
 go_enter Tryd.func51,Tryd.ntmps51
 go_wp2
 go_loopg [0,3] k (fun kq v0 v3 w'=>∃ (x0_1:Int) (x3_1:List Int),v0 = .int .i64 x0_1∧Aside0 (gantref1_Small.l0 kq x0_1 x3_1=some r)∧Aside0 (kq≤k)∧Aside0 (Kd.R (Kd.int .i64) 3 w' w.heap.size (fun _=>True) v3 x3_1)∧Aside0 (Below w.heap.size w w'))
 case atStart=>exact ⟨(a0),(([]:List Int)),zS,H',⟨Nat.le_refl _⟩,⟨by first | exact Kd.R_nil _ _ _ _ _ | exact Kd.N_nil _ _ _ _ _ | exact Kd.V_nil _ _ _ _ _ | exact Kd.Q_nil _ _ _ _ _ | exact Kd.S_nil _ _ _ _ _⟩,⟨zB⟩⟩
 case round =>
  clear H'
  obtain ⟨x0_1,x3_1,rfl,HA,HK1,HO_3,HB⟩:=hrel
  cases gk with
  | zero=>exact absurd HA.out (by simp [gantref1_Small.l0])
  | succ k1 =>
   have H:=HA.out
   clear HA
   simp only [gantref1_Small.l0] at H
   by_cases c2:x0_1 > 0
   ·rw [if_pos c2] at H
    have c2b0:decide (0 < x0_1)=true:=decide_eq_true c2
    clear c2
    by_cases c3:x3_1.length < 17592186044416
    ·rw [if_pos c3] at H
     have LMc3:=Aside0.mk c3
     clear c3
     obtain ⟨y133,Ny133⟩:∃ y_:List Int,Aside0 (y_=(x3_1++[Int.tmod x0_1 256])):=⟨_,⟨rfl⟩⟩
     replace H:(gantref1_Small.l0 k1 (wrap64 (Int.tdiv x0_1 256)) y133)=some r:=zY Ny133 H
     have H':=Aside0.mk H
     clear H
     go_wp2_with (first | ((with_reducible refine gate_builtin (b:=.append) (xs:=#[.tmp 8,.tmp 11]) rfl ?_); at_builtin; refine Kd.R_append (Kd.int .i64) (w0:=w) w.heap.size rfl (.tmp 8) (.tmp 11) 87 3 (.int .i64 0) 8 rfl Tryd.underlying87 info3 rfl (by decide) (by omega) u3 x3_1 (Int.tmod x0_1 256) [.int .i64 (Int.tmod x0_1 256)] (fun _=>True) (fun _=>False) rfl rfl ?aP (fun _ hk=>hk.elim) ?aF ?aO ?aB ?aS ?aL ?_; (case aP=>exact rfl); (case aB=>exact zB); (case aF=>exact (fun _ _=>trivial)); (case aO=>exact (zO HO_3)); (case aS=>exact (below_size zB)); (case aL=>have:=LMc3.out; omega); intro v134 w4 ho hb hg hat; rw [← Ny133.out] at ho; replace HB:=Aside0.mk (hb); have HO135:=Aside0.mk (ho); clear HO_3; clear ho hb hg hat))
     go_roundg k1
     case measure=>have:=HK1.out; omega
     case rel=>exact ⟨(wrap64 (Int.tdiv x0_1 256)),(y133),zS,H',⟨by have:=HK1.out; omega⟩,⟨zO HO135⟩,⟨zB⟩⟩
    rw [if_neg c3] at H
    exact absurd H (by simp)
   rw [if_neg c2] at H
   have c2b0:decide (0 < x0_1)=false:=decide_eq_false c2
   clear c2
   obtain ⟨t136,A5,H⟩:=zH H
   obtain rfl:=Option.some.inj H
   obtain ⟨Ao6,co6,eo6⟩:=Kd.R_slice HO_3.out
   subst eo6
   go_wp2_with (first | ((with_reducible refine zG 112 ?_); refine zL 14 Tryd.func112 #[.slice Ao6 x3_1.length co6] ?_; (with_reducible refine (gantref1_number.calls k1 _ _ x3_1 t136 _ ?side1 ?side2 A5.out).mono ?_); (case side1=>exact zC HO_3); (case side2=>exact (Kd.R_reads' HO_3.out).2.1); rintro e w7 ⟨rfl,hb⟩; refine ⟨_,rfl,?_⟩; replace HO_3:=Aside0.mk (Kd.R_below (zO HO_3) hb); replace HB:=zP hb; (try clear hb)))
   go_ret
   exact ⟨zR,zB⟩
mutual
def gantref1_Times.l0:Nat→ByteArray→ByteArray→List Int→Int→Int→Option (ByteArray)
 | 0,_,_,_,_,_=>none
 | k+1,x0,x1,x5,x15,x16=>if x16 < x15 then (gantref1_Times.l1 k x0 x1 x5 x16 0 x15 x16) else ((gantref1_number.f k x5).bind fun t140=>(some t140))
def gantref1_Times.l1:Nat→ByteArray→ByteArray→List Int→Int→Int→Int→Int→Option (ByteArray)
 | 0,_,_,_,_,_,_,_=>none
 | k+1,x0,x1,x5,x6,x7,x15,x16=>if x7≤x6 then (if 0≤x6 then (if x6 < (x5.length:Int) then ((gantref1_digit.f x0 x7).bind fun t142=>((gantref1_digit.f x1 (wrap64 (x6 - x7))).bind fun t143=>(gantref1_Times.l1 k x0 x1 (x5.set (x6:Int).toNat (wrap64 ((rd x5 x6)+(wrap64 (t142*t143))))) x6 (wrap64 (x7+1)) x15 x16))) else (none)) else (none)) else (gantref1_Times.l0 k x0 x1 x5 x15 (wrap64 (x16+1)))
end
def gantref1_Times.f (k:Nat) (a0:ByteArray) (a1:ByteArray):Option (ByteArray):=if 0≤(wrap64 ((a0.size:Int)+(a1.size:Int))) then (if (wrap64 ((a0.size:Int)+(a1.size:Int)):Int).toNat≤35184372088832 then ((some (List.replicate (wrap64 ((a0.size:Int)+(a1.size:Int)):Int).toNat 0:List Int)).bind fun y137=>(gantref1_Times.l0 k a0 a1 y137 (y137.length:Int) 0)) else (none)) else (none)
theorem gantref1_Times.mono_l:∀ k,(∀ y0 y1 y2 y3 y4,LeO (gantref1_Times.l0 k y0 y1 y2 y3 y4) (gantref1_Times.l0 (k+1) y0 y1 y2 y3 y4))∧(∀ y0 y1 y2 y3 y4 y5 y6,LeO (gantref1_Times.l1 k y0 y1 y2 y3 y4 y5 y6) (gantref1_Times.l1 (k+1) y0 y1 y2 y3 y4 y5 y6))
 | 0=>⟨fun _ _ _ _ _ r h=>by simp [gantref1_Times.l0] at h,fun _ _ _ _ _ _ _ r h=>by simp [gantref1_Times.l1] at h⟩
 | k+1=>by
  obtain ⟨ih0,ih1⟩:=gantref1_Times.mono_l k
  refine ⟨?_,?_⟩
  ·intro y0 y1 y2 y3 y4
   unfold gantref1_Times.l0
   repeat' first
   | (with_reducible exact ih0 _ _ _ _ _)
   | (with_reducible exact ih1 _ _ _ _ _ _ _)
   | (with_reducible exact gantref1_number.mono _ _)
   | (with_reducible exact LeO.refl _)
   | (with_reducible exact LeO.none _)
   | (with_reducible refine LeO.ite ?_ ?_)
   | (with_reducible refine LeO.bind ?_ (fun _=>?_))
   | exact ih0 _ _ _ _ _
   | exact ih1 _ _ _ _ _ _ _
   | exact gantref1_number.mono _ _
   | exact LeO.none _
   | refine LeO.ite ?_ ?_
   | refine LeO.bind ?_ (fun _=>?_)
  intro y0 y1 y2 y3 y4 y5 y6
  unfold gantref1_Times.l1
  repeat' first
  | (with_reducible exact ih0 _ _ _ _ _)
  | (with_reducible exact ih1 _ _ _ _ _ _ _)
  | (with_reducible exact gantref1_number.mono _ _)
  | (with_reducible exact LeO.refl _)
  | (with_reducible exact LeO.none _)
  | (with_reducible refine LeO.ite ?_ ?_)
  | (with_reducible refine LeO.bind ?_ (fun _=>?_))
  | exact ih0 _ _ _ _ _
  | exact ih1 _ _ _ _ _ _ _
  | exact gantref1_number.mono _ _
  | exact LeO.none _
  | refine LeO.ite ?_ ?_
  | refine LeO.bind ?_ (fun _=>?_)
theorem gantref1_Times.mono:∀ a0 a1 k,LeO (gantref1_Times.f k a0 a1) (gantref1_Times.f (k+1) a0 a1):=by
 intro a0 a1 k
 obtain ⟨ih0,ih1⟩:=gantref1_Times.mono_l k
 unfold gantref1_Times.f
 repeat' first
  | (with_reducible exact ih0 _ _ _ _ _)
  | (with_reducible exact ih1 _ _ _ _ _ _ _)
  | (with_reducible exact gantref1_number.mono _ _)
  | (with_reducible exact LeO.refl _)
  | (with_reducible exact LeO.none _)
  | (with_reducible refine LeO.ite ?_ ?_)
  | (with_reducible refine LeO.bind ?_ (fun _=>?_))
  | exact ih0 _ _ _ _ _
  | exact ih1 _ _ _ _ _ _ _
  | exact gantref1_number.mono _ _
  | exact LeO.none _
  | refine LeO.ite ?_ ?_
  | refine LeO.bind ?_ (fun _=>?_)
def gantref1_Times.T8:Bool × List (List Nat × List Nat):=(true,[([],[]),([],[]),([0,1],[0,1]),([2],[2]),([],[]),([],[]),([4,5],[4,5]),([],[]),([],[]),([],[]),([8,9],[8,9]),([7,10,6],[7,10]),([6,11],[6,11]),([3,12],[3,12]),([0,1,0,1,2,3,4,5,6,7,8,9,10,11,12,13],[0,1]),([14,13,11,0,1,2,3,4,5,6,7,8,9,10,11,12,13],[13,14])])
def gantref1_Times.B8:List Nat:=[0,0,3,7,0,0,48,0,0,0,768,2032,4080,8191,16383,32767]
theorem gantref1_Times.tab8:rtab .any (opsOf Tryd.f50 8)=gantref1_Times.T8:=by kernel_rfl
theorem gantref1_Times.bits8:waitsOk gantref1_Times.T8.2 gantref1_Times.B8=true:=by kernel_rfl
theorem gantref1_Times.calls (k:Nat) (a0:ByteArray) (a1:ByteArray) (r:ByteArray) (w:World) (h:gantref1_Times.f k a0 a1=some r) :
 Calls Tryd.prog 50 #[.string a0,.string a1] w fun e w'=>e = .returned (.string r)∧Below w.heap.size w w':=by
 have HB:=Aside0.mk (Below.refl w.heap.size w)
 unfold gantref1_Times.f at h
 have H:=h
 clear h
 generalize hji3:(wrap64 ((a0.size:Int)+(a1.size:Int)))=ji3 at H
 have hji3w:(IntKind.i64.wrap ((a0.size:Int)+(a1.size:Int)))=ji3:=(i64_w _).trans hji3
 obtain ⟨c4b0,c4b1,H⟩:=zE H
 obtain ⟨c5b0,c5b1,H⟩:=zE H
 obtain ⟨y137,Ny137⟩:∃ y_:List Int,Aside0 (y_=(List.replicate (ji3:Int).toNat 0)):=⟨_,⟨rfl⟩⟩
 replace H:(gantref1_Times.l0 k a0 a1 y137 (y137.length:Int) 0)=some r:=zY Ny137 H
 have H':=Aside0.mk H
 clear H
 go_enter Tryd.func50,Tryd.ntmps50
 go_wp2_with (first | ((with_reducible refine gate_dst (N:=13) rfl ?_); refine Kd.R_make (Kd.int .i64) _ 3 rfl (N:=13) rfl 87 _ _ rfl ji3 rfl rfl Tryd.underlying87 (.int .i64 0) 8 info3 rfl (by decide) (by omega) 0 (ok:=fun _=>True) (okp:=fun _=>True) rfl zI trivial zD (Nat.le_trans (Nat.mul_le_mul_right _ (zD:ji3.toNat≤35184372088832)) (by omega)) (Below.refl _ _) (Nat.le_refl _) ?_; intro v138 w6 ho7 hb hg_ hnew_; clear hg_ hnew_; (first | rw [← Ny137.out] at ho7 | (simp only [Int.reduceToNat] at ho7; rw [← Ny137.out] at ho7)); have HO139:=Aside0.mk (Kd.R_lower ho7 (below_size zB)); replace HB:=zP hb; clear hb ho7; obtain ⟨Ao8,co8,eo8⟩:=Kd.R_slice HO139.out; subst eo8))
 go_loopg [16] k (fun kq v16 w'=>∃ (x5_1:List Int) (x16_1:Int),v16 = .int .i64 x16_1∧Aside0 (gantref1_Times.l0 kq a0 a1 x5_1 (y137.length:Int) x16_1=some r)∧Aside0 (kq≤k)∧Aside0 (Kd.R (Kd.int .i64) 3 w' w.heap.size (fun _=>True) (.slice Ao8 y137.length co8) x5_1)∧Aside0 (Below w.heap.size w w'))
 case atStart=>exact ⟨(y137),(0),zS,H',⟨Nat.le_refl _⟩,⟨zO HO139⟩,⟨zB⟩⟩
 case round =>
  clear H'
  try clear p2
  try clear c4
  try clear c4b0
  try clear c4b1
  try clear c5
  try clear c5b0
  try clear c5b1
  try clear p6
  obtain ⟨x5_1,x16_1,rfl,HA,HK1,HO_5,HB⟩:=hrel
  have hl5_1:=(Kd.R_reads' HO_5.out).1
  rw [hl5_1] at HO_5
  (try simp only [hl5_1])
  cases gk with
  | zero=>exact absurd HA.out (by simp [gantref1_Times.l0])
  | succ k1 =>
   have H:=HA.out
   clear HA
   simp only [gantref1_Times.l0] at H
   by_cases c9:x16_1 < (y137.length:Int)
   rotate_left
   ·rw [if_neg c9] at H
    have c9b0:decide (x16_1 < (y137.length:Int))=false:=decide_eq_false c9
    (try (have c9b0_0:=c9b0; simp only [hl5_1] at c9b0_0))
    (try (have c9b0_1:=c9b0; simp only [hl5_2] at c9b0_1))
    clear c9
    obtain ⟨t140,A18,H⟩:=zH H
    obtain rfl:=Option.some.inj H
    go_wp2_with (first | ((with_reducible refine zG 112 ?_); refine zL 41 Tryd.func112 #[.slice Ao8 x5_1.length co8] ?_; (with_reducible refine (gantref1_number.calls k1 _ _ x5_1 t140 _ ?side1 ?side2 A18.out).mono ?_); (case side1=>exact zC HO_5); (case side2=>exact (Kd.R_reads' HO_5.out).2.1); rintro e w19 ⟨rfl,hb⟩; refine ⟨_,rfl,?_⟩; replace HO_5:=Aside0.mk (Kd.R_below (zO HO_5) hb); replace HB:=zP hb; (try clear hb)))
    go_ret
    exact ⟨zQ hji3,zB⟩
   rw [if_pos c9] at H
   have c9b0:decide (x16_1 < (y137.length:Int))=true:=decide_eq_true c9
   (try (have c9b0_0:=c9b0; simp only [hl5_1] at c9b0_0))
   clear c9
   have H':=Aside0.mk H
   clear H
   go_wp2
   go_loopg [7] k1 (fun kq v7 w'=>∃ (x5_2:List Int) (x7_2:Int),v7 = .int .i64 x7_2∧Aside0 (gantref1_Times.l1 kq a0 a1 x5_2 x16_1 x7_2 (y137.length:Int) x16_1=some r)∧Aside0 (kq≤k1)∧Aside0 (Kd.R (Kd.int .i64) 3 w' w.heap.size (fun _=>True) (.slice Ao8 x5_1.length co8) x5_2)∧Aside0 (Below w.heap.size w w'))
   case atStart=>exact ⟨(x5_1),(0),zS,H',⟨Nat.le_refl _⟩,⟨by (try simp only [hl5_1]); (with_reducible repeat (first | apply Kd.R_alloc | apply Kd.R_drewN | apply Kd.R_drew)); exact HO_5.out⟩,⟨zB⟩⟩
   case round =>
    clear H'
    try clear p2
    try clear c4
    try clear c4b0
    try clear c4b1
    try clear c5
    try clear c5b0
    try clear c5b1
    try clear p6
    try clear c9
    try clear c9b0
    try clear p2
    try clear p6
    obtain ⟨x5_2,x7_2,rfl,HA,HK2,HO_5,HB⟩:=hrel
    have hl5_2:=(Kd.R_reads' HO_5.out).1
    rw [hl5_2] at HO_5
    (try simp only [hl5_2])
    cases gk with
    | zero=>exact absurd HA.out (by simp [gantref1_Times.l1])
    | succ k2 =>
     have H:=HA.out
     clear HA
     simp only [gantref1_Times.l1] at H
     by_cases c10:x7_2≤x16_1
     rotate_left
     ·rw [if_neg c10] at H
      have c10b0:decide (x7_2≤x16_1)=false:=decide_eq_false c10
      clear c10
      have H':=Aside0.mk H
      clear H
      go_wp2
      (try simp only [← hl5_1,← hl5_2])
      go_roundg k2
      case measure=>have:=HK1.out; have:=HK2.out; omega
      case rel=>exact ⟨(x5_2),(wrap64 (x16_1+1)),zS,H',⟨by have:=HK1.out; have:=HK2.out; omega⟩,⟨by (try simp only [hl5_1]); (try simp only [hl5_2]); (with_reducible repeat (first | apply Kd.R_alloc | apply Kd.R_drewN | apply Kd.R_drew)); exact HO_5.out⟩,⟨zB⟩⟩
     rw [if_pos c10] at H
     have c10b0:decide (x7_2≤x16_1)=true:=decide_eq_true c10
     clear c10
     obtain ⟨c11b0,H⟩:=zF H
     obtain ⟨c12b0,H⟩:=zF H
     (try (have c12b0_0:=c12b0; simp only [hl5_1] at c12b0_0))
     (try (have c12b0_1:=c12b0; simp only [hl5_2] at c12b0_1))
     obtain ⟨t142,A13,H⟩:=zH H
     obtain ⟨t143,A14,H⟩:=zH H
     obtain ⟨y144,Ny144⟩:∃ y_:List Int,Aside0 (y_=(x5_2.set (x16_1:Int).toNat (wrap64 ((rd x5_2 x16_1)+(wrap64 (t142*t143)))))):=⟨_,⟨rfl⟩⟩
     replace H:(gantref1_Times.l1 k2 a0 a1 y144 x16_1 (wrap64 (x7_2+1)) (y137.length:Int) x16_1)=some r:=zY Ny144 H
     have H':=Aside0.mk H
     clear H
     try go_wp2
     have n0_:=Aside0.mk (Kd.R_drew HO_5.out)
     have n1_:=Aside0.mk (below_drew1 HB.out)
     clear HO_5
     clear HB
     have HO_5:=n0_
     have HB:=n1_
     clear n0_ n1_
     have p141:0≤(x16_1:Int):=zD
     have q141:x16_1 < (x5_2.length:Int):=zD
     obtain ⟨ad141,e141,hx141_0⟩:=Kd.at_int (Kd.R_reads' HO_5.out).2.2 x16_1 p141 q141
     cases e141
     replace p141:=eq_true p141
     replace q141:=eq_true q141
     refine start_ (n:=16) (S:=fun w'=>w'.cell? (ad141.add (x16_1).toNat)=some (.int .i64 (rd x5_2 x16_1))) (ds:=[15]) #[false,false,false,false,false,false,false,false,false,false,false,false,false,false,false,false] (by kernel_rfl) rfl rfl (hx141_0) (fun hHeld=>?_); refine with_tabW gantref1_Times.tab8 gantref1_Times.bits8 (fun HT_ HW_=>?_)
     generalize wr.drew=w16 at HO_5 HB hx141_0 hHeld ⊢
     refine zU 0 24 #[true,false,false,false,false,false,false,false,false,false,false,false,false,false,false,false] ?_
     refine zU 1 25 #[true,true,false,false,false,false,false,false,false,false,false,false,false,false,false,false] ?_
     refine zU 2 26 #[true,true,true,false,false,false,false,false,false,false,false,false,false,false,false,false] ?_
     refine zU 4 28 #[true,true,true,false,true,false,false,false,false,false,false,false,false,false,false,false] ?_
     refine zU 5 29 #[true,true,true,false,true,true,false,false,false,false,false,false,false,false,false,false] ?_
     refine zU 7 31 #[true,true,true,false,true,true,false,true,false,false,false,false,false,false,false,false] ?_
     refine zU 8 32 #[true,true,true,false,true,true,false,true,true,false,false,false,false,false,false,false] ?_
     refine zU 9 33 #[true,true,true,false,true,true,false,true,true,true,false,false,false,false,false,false] ?_
     refine zU 10 34 #[true,true,true,false,true,true,false,true,true,true,true,false,false,false,false,false] ?_
     refine take_ (i:=3) (N:=some 27) (v:=?_) (a':=?_) #[true,true,true,true,true,true,false,true,true,true,true,false,false,false,false,false] rfl rfl (take_ofW HT_.out HW_.out (by kernel_rfl)) (fun _ _ _ h=>h) (Or.inl ⟨by rfl,?_⟩) hHeld ?_ ?_
     rotate_left
     ·intro w' s0
      go_simp
      with_reducible rfl
     rotate_left
     ·simp only [Act.put,List.setIfInBounds_toArray,List.set_cons_zero,List.set_cons_succ,i64_w,i32_w]
      rfl
     refine one_ (i:=6) (N:=some 30) #[true,true,true,true,true,true,true,true,true,true,true,false,false,false,false,false] rfl rfl (one_of HT_.out (by kernel_rfl)) (by decide) (fun K hK=>?_)
     refine goes_ Tryd.func111 (by kernel_rfl) rfl #[.string a0,.int .i64 x7_2] (by rfl) rfl rfl (by (try simp only [List.map_toArray,List.map_cons,List.map_nil]); first | done | rfl | (simp only [List.length_drop,List.length_take]; rfl)) ?_
     with_reducible refine (gantref1_digit.calls a0 x7_2 t142 _ A13.out).mono ?_
     rintro e w' ⟨rfl,⟨nd,rfl⟩⟩
     refine ⟨_,rfl,?_⟩
     refine hK.out _ _ (hHeld) (fun hHeld=>?_)
     clear hK K
     refine norm_ (a':=?_) ?_ ?_
     rotate_left
     ·show Act.put _ (some 30) _=_
      simp only [Act.put,List.setIfInBounds_toArray,List.set_cons_zero,List.set_cons_succ,i64_w,i32_w]
      rfl
     refine one_ (i:=11) (N:=some 35) #[true,true,true,true,true,true,true,true,true,true,true,true,false,false,false,false] rfl rfl (one_of HT_.out (by kernel_rfl)) (by decide) (fun K hK=>?_)
     refine goes_ Tryd.func111 (by kernel_rfl) rfl #[.string a1,.int .i64 (wrap64 (x16_1 - x7_2))] (by rfl) rfl rfl (by (try simp only [List.map_toArray,List.map_cons,List.map_nil]); first | done | rfl | (simp only [List.length_drop,List.length_take]; rfl)) ?_
     with_reducible refine (gantref1_digit.calls a1 (wrap64 (x16_1 - x7_2)) t143 _ A14.out).mono ?_
     rintro e w' ⟨rfl,⟨nd,rfl⟩⟩
     refine ⟨_,rfl,?_⟩
     have p15:0≤(x16_1:Int):=zD
     have q15:(x16_1:Int) < ((x5_2.length:Int):Int):=zD
     obtain ⟨go15,co15,eo15,gb15,gl15,cl15,HG15⟩:=Kd.R_form HO_5.out (by omega)
     (first | cases eo15 | (injection eo15 with ea_ en_ ec_; (first | subst ea_ | (injection ea_ with ea_; subst ea_)); subst ec_; clear en_))
     have GB15:=Aside0.mk gb15
     have GG15:=Aside0.mk HG15
     clear gb15 gl15 HG15
     (first | simp only [add_plain] at hx141_0 | skip)
     obtain ⟨hx15_0,hf15_0⟩:=Kd.R_celln 0 HO_5.out (x16_1:Int) p15 q15
     replace p15:=eq_true p15
     replace q15:=eq_true q15
     have HP17:=Kd.R_putn HO_5.out (x16_1:Int) (wrap64 ((rd x5_2 x16_1)+(wrap64 (t142*t143))))
     rw [← Ny144.out] at HP17
     have HQ17:=Aside0.mk HP17
     clear HP17
     refine hK.out _ _ (hHeld) (fun hHeld=>?_)
     clear hK K
     refine norm_ (a':=?_) ?_ ?_
     rotate_left
     ·show Act.put _ (some 35) _=_
      simp only [Act.put,List.setIfInBounds_toArray,List.set_cons_zero,List.set_cons_succ,i64_w,i32_w]
      rfl
     refine zU 12 36 #[true,true,true,true,true,true,true,true,true,true,true,true,true,false,false,false] ?_
     refine zU 13 37 #[true,true,true,true,true,true,true,true,true,true,true,true,true,true,false,false] ?_
     refine zU 14 38 #[true,true,true,true,true,true,true,true,true,true,true,true,true,true,true,false] ?_
     refine last_ (i:=15) (N:=none) #[true,true,true,true,true,true,true,true,true,true,true,true,true,true,true,true] rfl rfl (one_of HT_.out (by kernel_rfl)) (by decide) (fun K hK=>?_)
     refine skip_ (w1:=?_) (by rfl) rfl ?_ ?_
     rotate_left
     ·go_simp
      rfl
     refine hK.out _ _ ?_
     clear hK K
     refine done_ (done_of HT_.out (by kernel_rfl)) ?_
     try go_wp2
     (try simp only [← hl5_2])
     go_roundg k2
     case measure=>have:=HK1.out; have:=HK2.out; omega
     case rel=>exact ⟨(y144),(wrap64 (x7_2+1)),zS,H',⟨by have:=HK1.out; have:=HK2.out; omega⟩,⟨by (try simp only [hl5_1]); (try simp only [hl5_2]); (with_reducible repeat (first | apply Kd.R_alloc | apply Kd.R_drewN | apply Kd.R_drew)); exact HQ17.out⟩,⟨by repeat (first | (with_reducible first | exact HB.out | apply below_alloc | apply pw_below_drewN | apply below_drew1 | refine below_set ?_ GB15.out) | exact HB.out)⟩⟩
def gantref1_bit.f (a0:ByteArray) (a1:Int):Option (Int):=(gantref1_digit.f a0 (wrap64 (Int.tdiv a1 8))).bind fun t145=>(if 0≤(Int.tmod a1 8) then (some (Go.bits .and .i64 (shr .i64 t145 (Int.tmod a1 8)) 1)) else (none))
theorem gantref1_bit.calls (a0:ByteArray) (a1:Int) (r:Int) (w:World) (h:gantref1_bit.f a0 a1=some r) :
 Calls Tryd.prog 161 #[.string a0,.int .i64 a1] w fun e w'=>e = .returned (.int .i64 r)∧Drawn0 w w':=by
 unfold gantref1_bit.f at h
 have H:=h
 clear h
 obtain ⟨t145,A3,H⟩:=zH H
 generalize hji4:(Int.tmod a1 8)=ji4 at H
 (try rw [hji4] at A3)
 obtain ⟨c5b0,c5b1,H⟩:=zE H
 generalize hji6:(shr .i64 t145 (ji4))=ji6 at H
 (try rw [hji6] at A3)
 have hji6_:(t145/2^min (ji4).toNat 64)=ji6:=hji6
 have hji6z:(ji4)≤64→(t145/2^(ji4).toNat)=ji6:=shr_small hji6
 obtain rfl:=Option.some.inj H
 go_enter Tryd.func161,Tryd.ntmps161
 go_wp2_with (first | ((with_reducible refine zG 111 ?_); refine zL 8 Tryd.func111 #[.string a0,.int .i64 (wrap64 (Int.tdiv a1 8))] ?_; (with_reducible refine (gantref1_digit.calls a0 (wrap64 (Int.tdiv a1 8)) t145 _ A3.out).mono ?_); rintro e w' ⟨rfl,⟨nd,rfl⟩⟩; refine ⟨_,rfl,?_⟩))
 go_ret
 exact ⟨by first | rfl | (simp; done) | (simp only [← hji4,← hji6]<;>(first | rfl | simp)) | (simp [*]; done),by repeat (first | exact Drawn0.refl _ | apply Drawn0.step)⟩
mutual
def gantref1_Share.l0:Nat→ByteArray→ByteArray→ByteArray→ByteArray→Int→Option (ByteArray × ByteArray)
 | 0,_,_,_,_,_=>none
 | k+1,x0,x1,x6,x7,x8=>if x8≥0 then ((gantref1_Plus.f k x6 x6).bind fun t146=>((gantref1_Plus.f k x7 x7).bind fun t147=>((gantref1_bit.f x0 x8).bind fun t148=>(if t148=1 then ((gantref1_Plus.f k t147 (⟨#[1]⟩:ByteArray)).bind fun t149=>(gantref1_Share.j1 k x0 x1 t146 t149 x8)) else (gantref1_Share.j1 k x0 x1 t146 t147 x8))))) else (some (x6,x7))
def gantref1_Share.j1:Nat→ByteArray→ByteArray→ByteArray→ByteArray→Int→Option (ByteArray × ByteArray)
 | 0,_,_,_,_,_=>none
 | k+1,x0,x1,x6,x7,x8=>(gantref1_Compare.f k x7 x1).bind fun t150=>(if t150≥0 then ((gantref1_Less.f k x7 x1).bind fun t151=>((gantref1_Plus.f k x6 (⟨#[1]⟩:ByteArray)).bind fun t152=>(gantref1_Share.l0 k x0 x1 t152 t151 (wrap64 (x8 - 1))))) else (gantref1_Share.l0 k x0 x1 x6 x7 (wrap64 (x8 - 1))))
end
def gantref1_Share.f (k:Nat) (a0:ByteArray) (a1:ByteArray):Option (ByteArray × ByteArray):=gantref1_Share.l0 k a0 a1 (⟨#[]⟩:ByteArray) (⟨#[]⟩:ByteArray) (wrap64 ((wrap64 (8*(a0.size:Int))) - 1))
theorem gantref1_Share.mono_l:∀ k,(∀ y0 y1 y2 y3 y4,LeO (gantref1_Share.l0 k y0 y1 y2 y3 y4) (gantref1_Share.l0 (k+1) y0 y1 y2 y3 y4))∧(∀ y0 y1 y2 y3 y4,LeO (gantref1_Share.j1 k y0 y1 y2 y3 y4) (gantref1_Share.j1 (k+1) y0 y1 y2 y3 y4))
 | 0=>⟨fun _ _ _ _ _ r h=>by simp [gantref1_Share.l0] at h,fun _ _ _ _ _ r h=>by simp [gantref1_Share.j1] at h⟩
 | k+1=>by
  obtain ⟨ih0,ih1⟩:=gantref1_Share.mono_l k
  refine ⟨?_,?_⟩
  ·intro y0 y1 y2 y3 y4
   unfold gantref1_Share.l0
   have m0:=@gantref1_Compare.mono
   have m1:=@gantref1_Less.mono
   have m2:=@gantref1_Plus.mono
   exact zM
  intro y0 y1 y2 y3 y4
  unfold gantref1_Share.j1
  have m0:=@gantref1_Compare.mono
  have m1:=@gantref1_Less.mono
  have m2:=@gantref1_Plus.mono
  exact zM
theorem gantref1_Share.mono:∀ a0 a1 k,LeO (gantref1_Share.f k a0 a1) (gantref1_Share.f (k+1) a0 a1):=by
 intro a0 a1 k
 obtain ⟨ih0,ih1⟩:=gantref1_Share.mono_l k
 unfold gantref1_Share.f
 have m0:=@gantref1_Compare.mono
 have m1:=@gantref1_Less.mono
 have m2:=@gantref1_Plus.mono
 exact zM
theorem gantref1_Share.calls (k:Nat) (a0:ByteArray) (a1:ByteArray) (r1:ByteArray) (r2:ByteArray) (w:World) (h:gantref1_Share.f k a0 a1=some (r1,r2)) :
 Calls Tryd.prog 134 #[.string a0,.string a1] w fun e w'=>e = .returned (.tuple #[.string r1,.string r2])∧Below w.heap.size w w':=by
 have HB:=Aside0.mk (Below.refl w.heap.size w)
 unfold gantref1_Share.f at h
 have H:=h
 clear h
 have H':=Aside0.mk H
 clear H
 go_enter Tryd.func134,Tryd.ntmps134
 go_wp2
 go_loopg [6,7,8] k (fun kq v6 v7 v8 w'=>∃ (x6_1:ByteArray) (x7_1:ByteArray) (x8_1:Int),v6 = .string x6_1∧v7 = .string x7_1∧v8 = .int .i64 x8_1∧Aside0 (gantref1_Share.l0 kq a0 a1 x6_1 x7_1 x8_1=some (r1,r2))∧Aside0 (kq≤k)∧Aside0 (Below w.heap.size w w'))
 case atStart=>exact ⟨((⟨#[]⟩:ByteArray)),((⟨#[]⟩:ByteArray)),(wrap64 ((wrap64 (8*(a0.size:Int))) - 1)),zS,zS,zS,H',⟨Nat.le_refl _⟩,⟨zB⟩⟩
 case round =>
  clear H'
  try clear c1
  try clear p2
  obtain ⟨x6_1,x7_1,x8_1,rfl,rfl,rfl,HA,HK1,HB⟩:=hrel
  cases gk with
  | zero=>exact absurd HA.out (by simp [gantref1_Share.l0])
  | succ k1 =>
   have H:=HA.out
   clear HA
   simp only [gantref1_Share.l0] at H
   by_cases c3:x8_1≥0
   rotate_left
   ·rw [if_neg c3] at H
    have c3b0:decide (0≤x8_1)=false:=decide_eq_false c3
    clear c3
    simp only [Option.some.injEq,Prod.mk.injEq] at H
    obtain ⟨rfl,rfl⟩:=H
    go_wp2
    go_ret2
    exact ⟨zR,zB⟩
   rw [if_pos c3] at H
   have c3b0:decide (0≤x8_1)=true:=decide_eq_true c3
   clear c3
   obtain ⟨t146,A4,H⟩:=zH H
   obtain ⟨t147,A5,H⟩:=zH H
   obtain ⟨t148,A6,H⟩:=zH H
   have HC7:=Aside0.mk H
   clear H
   go_upto_if 26 with (first | ((with_reducible refine zG 49 ?_); refine zL 19 Tryd.func49 #[.string x6_1,.string x6_1] ?_; (with_reducible refine (gantref1_Plus.calls k1 x6_1 x6_1 t146 _ A4.out).mono ?_); rintro e w8 ⟨rfl,hb⟩; refine ⟨_,rfl,?_⟩; replace HB:=zP hb; (try clear hb)) | ((with_reducible refine zG 49 ?_); refine zL 22 Tryd.func49 #[.string x7_1,.string x7_1] ?_; (with_reducible refine (gantref1_Plus.calls k1 x7_1 x7_1 t147 _ A5.out).mono ?_); rintro e w9 ⟨rfl,hb⟩; refine ⟨_,rfl,?_⟩; replace HB:=zP hb; (try clear hb)) | ((with_reducible refine zG 161 ?_); refine zL 25 Tryd.func161 #[.string a0,.int .i64 x8_1] ?_; (with_reducible refine (gantref1_bit.calls a0 x8_1 t148 _ A6.out).mono ?_); rintro e w' ⟨rfl,⟨nd,rfl⟩⟩; refine ⟨_,rfl,?_⟩))
   (try simp only [Act.put,List.setIfInBounds_toArray,List.set_cons_zero,List.set_cons_succ])
   go_cut [7] (fun v7 wc=>∃ (kq:Nat) (x7_6:ByteArray),v7 = .string x7_6∧Aside0 (gantref1_Share.j1 kq a0 a1 t146 x7_6 x8_1=some (r1,r2))∧Aside0 (kq≤k1)∧Aside0 (Below w.heap.size w wc))
   case first =>
    have H:=HC7.out
    clear HC7
    by_cases c10:t148=1
    ·rw [if_pos c10] at H
     have c10b0:(t148==1)=true:=beq_iff_eq.mpr c10
     have c10b1:(t148 != 1)=false:=bne_eq_false_iff_eq.mpr c10
     clear c10
     (first | rw [c10b0] | rw [c10b1] | (simp only [i64_w,i32_w]; rw [c10b0]) | skip)
     obtain ⟨t149,A11,H⟩:=zH H
     have H':=Aside0.mk H
     clear H
     go_wp2_with (first | ((with_reducible refine zG 49 ?_); refine zL 28 Tryd.func49 #[.string t147,.string (⟨#[1]⟩:ByteArray)] ?_; (with_reducible refine (gantref1_Plus.calls k1 t147 (⟨#[1]⟩:ByteArray) t149 _ A11.out).mono ?_); rintro e w12 ⟨rfl,hb⟩; refine ⟨_,rfl,?_⟩; replace HB:=zP hb; (try clear hb)))
     go_meet
     case rel=>exact ⟨_,(t149),zS,H',⟨by have:=HK1.out; first | omega | exact Nat.le_refl _⟩,⟨zB⟩⟩
    rw [if_neg c10] at H
    have c10b0:(t148==1)=false:=beq_eq_false_iff_ne.mpr c10
    have c10b1:(t148 != 1)=true:=bne_iff_ne.mpr c10
    (first | rw [c10b0] | rw [c10b1] | (simp only [i64_w,i32_w]; rw [c10b0]) | skip)
    have H':=Aside0.mk H
    clear H
    go_wp2
    go_meet
    case rel=>exact ⟨_,(t147),zS,H',⟨by have:=HK1.out; first | omega | exact Nat.le_refl _⟩,⟨zB⟩⟩
   case rest =>
    clear HC7
    try clear c1
    try clear p2
    try clear c3
    try clear c3b0
    try clear c4
    try clear p6
    try clear c10
    try clear c10b0
    try clear c10b1
    try clear p2
    obtain ⟨kq,x7_6,rfl,HA,HJ6,HB⟩:=hcut
    cases kq with
    | zero=>exact absurd HA.out (by simp [gantref1_Share.j1])
    | succ kj6 =>
     have H:=HA.out
     clear HA
     simp only [gantref1_Share.j1] at H
     obtain ⟨t150,A13,H⟩:=zH H
     by_cases c14:t150≥0
     ·rw [if_pos c14] at H
      have c14b0:decide (0≤t150)=true:=decide_eq_true c14
      clear c14
      obtain ⟨t151,A15,H⟩:=zH H
      obtain ⟨t152,A16,H⟩:=zH H
      have H':=Aside0.mk H
      clear H
      go_wp2_with (first | ((with_reducible refine zG 163 ?_); refine zL 31 Tryd.func163 #[.string x7_6,.string a1] ?_; (with_reducible refine (gantref1_Compare.calls kj6 x7_6 a1 t150 _ A13.out).mono ?_); rintro e w17 ⟨rfl,hb⟩; refine ⟨_,rfl,?_⟩; replace HB:=zP hb; (try clear hb)) | ((with_reducible refine zG 164 ?_); refine zL 35 Tryd.func164 #[.string x7_6,.string a1] ?_; (with_reducible refine (gantref1_Less.calls kj6 x7_6 a1 t151 _ A15.out).mono ?_); rintro e w18 ⟨rfl,hb⟩; refine ⟨_,rfl,?_⟩; replace HB:=zP hb; (try clear hb)) | ((with_reducible refine zG 49 ?_); refine zL 37 Tryd.func49 #[.string t146,.string (⟨#[1]⟩:ByteArray)] ?_; (with_reducible refine (gantref1_Plus.calls kj6 t146 (⟨#[1]⟩:ByteArray) t152 _ A16.out).mono ?_); rintro e w19 ⟨rfl,hb⟩; refine ⟨_,rfl,?_⟩; replace HB:=zP hb; (try clear hb)))
      go_roundg kj6
      case measure=>have:=HK1.out; have:=HJ6.out; omega
      case rel=>exact ⟨(t152),(t151),(wrap64 (x8_1 - 1)),zS,zS,zS,H',⟨by have:=HK1.out; have:=HJ6.out; omega⟩,⟨zB⟩⟩
     rw [if_neg c14] at H
     have c14b0:decide (0≤t150)=false:=decide_eq_false c14
     clear c14
     have H':=Aside0.mk H
     clear H
     go_wp2_with (first | ((with_reducible refine zG 163 ?_); refine zL 31 Tryd.func163 #[.string x7_6,.string a1] ?_; (with_reducible refine (gantref1_Compare.calls kj6 x7_6 a1 t150 _ A13.out).mono ?_); rintro e w20 ⟨rfl,hb⟩; refine ⟨_,rfl,?_⟩; replace HB:=zP hb; (try clear hb)))
     go_roundg kj6
     case measure=>have:=HK1.out; have:=HJ6.out; omega
     case rel=>exact ⟨(t146),(x7_6),(wrap64 (x8_1 - 1)),zS,zS,zS,H',⟨by have:=HK1.out; have:=HJ6.out; omega⟩,⟨zB⟩⟩
end Go.Proofs.YtkpeembfagcpcaaDoor.R
