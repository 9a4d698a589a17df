import Derived.Test.YtmkgijiniopalaaDoorYB0
import Derived.Test.YtmkgijiniopalaaDoorYA2
namespace Go.Proofs.YtmkgijiniopalaaDoor.B
open Go.RowKit Go.Proofs.YtmkgijiniopalaaDoor.Z Go.Proofs.YtmkgijiniopalaaDoor.A Go.Proofs.YtmkgijiniopalaaDoor.H Go.Proofs.YtmkgijiniopalaaDoorW.PrintWords Go.Proofs.YtmkgijiniopalaaDoorW.PrintLast Go.Proofs.YtmkgijiniopalaaDoorW.PrintMore
attribute [local go_sem] max2_int min2_int max_two min_two max_three min_three max_four min_four
set_option linter.unusedVariables false
set_option linter.unusedSimpArgs false
set_option maxHeartbeats 8000000
set_option maxRecDepth 100000
def nat_Of.f (a0:Int):Option (ByteArray):=if a0 < 1 then (some (⟨#[]⟩:ByteArray)) else ((nat_fromShort.f (IntKind.u64.wrap (a0))).bind fun t101=>(some t101))
theorem nat_Of.calls (a0:Int) (r:ByteArray) (w:World) (h:nat_Of.f a0=some r) :
 Calls Tryd.prog 62 #[.int .i64 a0] w fun e w'=>e = .returned (.string r)∧Below w.heap.size w w':=by
 have HB:=Aside0.mk (Below.refl w.heap.size w)
 unfold nat_Of.f at h
 have H:=h
 clear h
 by_cases c2:a0 < 1
 ·rw [if_pos c2] at H
  have c2b0:decide (a0 < 1)=true:=decide_eq_true c2
  clear c2
  obtain rfl:=Option.some.inj H
  go_enter Tryd.func62,Tryd.ntmps62
  go_wp2
  go_ret
  exact ⟨zR,zB⟩
 rw [if_neg c2] at H
 have c2b0:decide (a0 < 1)=false:=decide_eq_false c2
 clear c2
 obtain ⟨t101,A3,H⟩:=zH H
 obtain rfl:=Option.some.inj H
 go_enter Tryd.func62,Tryd.ntmps62
 go_wp2_with (first | ((with_reducible refine zG 73 ?_); refine zL 7 Tryd.func73 #[.int .u64 (IntKind.u64.wrap (a0))] ?_; (with_reducible refine (nat_fromShort.calls (IntKind.u64.wrap (a0)) t101 _ A3.out).mono ?_); rintro e w4 ⟨rfl,hb⟩; refine ⟨_,rfl,?_⟩; replace HB:=zP hb; (try clear hb)))
 go_ret
 exact ⟨zR,zB⟩
def nat_Cmp.f (k:Nat) (a0:ByteArray) (a1:ByteArray):Option (Int):=(nat_trim.f k a0).bind fun t102=>((nat_trim.f k a1).bind fun t103=>(if (t102.size:Int) < (t103.size:Int) then (some (-1)) else (if (t102.size:Int) > (t103.size:Int) then (some 1) else ((strings_Compare.f t102 t103).bind fun t104=>(some t104)))))
theorem nat_Cmp.mono:∀ a0 a1 k,LeO (nat_Cmp.f k a0 a1) (nat_Cmp.f (k+1) a0 a1):=by
 intro a0 a1 k
 unfold nat_Cmp.f
 have m0:=@nat_trim.mono
 exact zM
theorem nat_Cmp.calls (k:Nat) (a0:ByteArray) (a1:ByteArray) (r:Int) (w:World) (h:nat_Cmp.f k a0 a1=some r) :
 Calls Tryd.prog 65 #[.string a0,.string a1] w fun e w'=>e = .returned (.int .i64 r)∧Drawn0 w w':=by
 unfold nat_Cmp.f at h
 have H:=h
 clear h
 obtain ⟨t102,A3,H⟩:=zH H
 obtain ⟨t103,A4,H⟩:=zH H
 by_cases c5:(t102.size:Int) < (t103.size:Int)
 ·rw [if_pos c5] at H
  have c5b0:decide ((t102.size:Int) < (t103.size:Int))=true:=decide_eq_true c5
  have c5b1:decide (t102.size < t103.size)=true:=decide_eq_true (Int.ofNat_lt.mp c5)
  clear c5
  obtain rfl:=Option.some.inj H
  go_enter Tryd.func65,Tryd.ntmps65
  go_wp2_with (first | ((with_reducible refine zG 72 ?_); refine zL 6 Tryd.func72 #[.string a0] ?_; (with_reducible refine (nat_trim.calls k a0 t102 _ A3.out).mono ?_); rintro e w' ⟨rfl,⟨nd,rfl⟩⟩; refine ⟨_,rfl,?_⟩) | ((with_reducible refine zG 72 ?_); refine zL 8 Tryd.func72 #[.string a1] ?_; (with_reducible refine (nat_trim.calls k a1 t103 _ A4.out).mono ?_); rintro e w' ⟨rfl,⟨nd,rfl⟩⟩; refine ⟨_,rfl,?_⟩))
  go_ret
  exact ⟨zS,by repeat (first | exact Drawn0.refl _ | apply Drawn0.step)⟩
 rw [if_neg c5] at H
 have c5b0:decide ((t102.size:Int) < (t103.size:Int))=false:=decide_eq_false c5
 have c5b1:decide (t102.size < t103.size)=false:=decide_eq_false (fun h=>c5 (Int.ofNat_lt.mpr h))
 clear c5
 by_cases c6:(t102.size:Int) > (t103.size:Int)
 ·rw [if_pos c6] at H
  have c6b0:decide ((t103.size:Int) < (t102.size:Int))=true:=decide_eq_true c6
  have c6b1:decide (t103.size < t102.size)=true:=decide_eq_true (Int.ofNat_lt.mp c6)
  clear c6
  obtain rfl:=Option.some.inj H
  go_enter Tryd.func65,Tryd.ntmps65
  go_wp2_with (first | ((with_reducible refine zG 72 ?_); refine zL 6 Tryd.func72 #[.string a0] ?_; (with_reducible refine (nat_trim.calls k a0 t102 _ A3.out).mono ?_); rintro e w' ⟨rfl,⟨nd,rfl⟩⟩; refine ⟨_,rfl,?_⟩) | ((with_reducible refine zG 72 ?_); refine zL 8 Tryd.func72 #[.string a1] ?_; (with_reducible refine (nat_trim.calls k a1 t103 _ A4.out).mono ?_); rintro e w' ⟨rfl,⟨nd,rfl⟩⟩; refine ⟨_,rfl,?_⟩))
  go_ret
  exact ⟨zS,by repeat (first | exact Drawn0.refl _ | apply Drawn0.step)⟩
 rw [if_neg c6] at H
 have c6b0:decide ((t103.size:Int) < (t102.size:Int))=false:=decide_eq_false c6
 have c6b1:decide (t103.size < t102.size)=false:=decide_eq_false (fun h=>c6 (Int.ofNat_lt.mpr h))
 clear c6
 obtain ⟨t104,A7,H⟩:=zH H
 obtain rfl:=Option.some.inj H
 go_enter Tryd.func65,Tryd.ntmps65
 go_wp2_with (first | ((with_reducible refine zG 72 ?_); refine zL 6 Tryd.func72 #[.string a0] ?_; (with_reducible refine (nat_trim.calls k a0 t102 _ A3.out).mono ?_); rintro e w' ⟨rfl,⟨nd,rfl⟩⟩; refine ⟨_,rfl,?_⟩) | ((with_reducible refine zG 72 ?_); refine zL 8 Tryd.func72 #[.string a1] ?_; (with_reducible refine (nat_trim.calls k a1 t103 _ A4.out).mono ?_); rintro e w' ⟨rfl,⟨nd,rfl⟩⟩; refine ⟨_,rfl,?_⟩) | ((with_reducible refine zG 79 ?_); refine zL 23 Tryd.func79 #[.string t102,.string t103] ?_; (with_reducible refine (strings_Compare.calls t102 t103 t104 _ A7.out).mono ?_); rintro e w' ⟨rfl,⟨nd,rfl⟩⟩; refine ⟨_,rfl,?_⟩))
 go_ret
 exact ⟨zS,by repeat (first | exact Drawn0.refl _ | apply Drawn0.step)⟩
mutual
def nat_Add.j0:Nat→ByteArray→ByteArray→Bool→Option (ByteArray)
 | 0,_,_,_=>none
 | k+1,x0,x1,x22=>if x22=true then ((nat_short.f k x0).bind fun t122=>((nat_short.f k x1).bind fun t123=>((nat_fromShort.f (IntKind.u64.wrap (t122+t123))).bind fun t124=>(some t124)))) else ((nat_words.f k x0).bind fun t125=>((nat_words.f k x1).bind fun t128=>(if (t125.length:Int) < (t128.length:Int) then (nat_Add.j1 k t128 t125) else (nat_Add.j1 k t125 t128))))
def nat_Add.j1:Nat→List Int→List Int→Option (ByteArray)
 | 0,_,_=>none
 | k+1,x5,x6=>if 0≤(wrap64 ((x5.length:Int)+1)) then (if (wrap64 ((x5.length:Int)+1):Int).toNat≤70368744177664 then (nat_Add.l0 k x5 x6 (List.replicate (wrap64 ((x5.length:Int)+1):Int).toNat 0) 0 x5 (x5.length:Int) 0) else (none)) else (none)
def nat_Add.l0:Nat→List Int→List Int→List Int→Int→List Int→Int→Int→Option (ByteArray)
 | 0,_,_,_,_,_,_,_=>none
 | k+1,x5,x6,x7,x8,x44,x45,x46=>if x46 < x45 then (if 0≤x46 then (if x46 < (x44.length:Int) then (if x46 < (x6.length:Int) then (if x46 < (x7.length:Int) then (nat_Add.l0 k x5 x6 (x7.set (x46:Int).toNat ((IntKind.u64.wrap ((IntKind.u64.wrap (x8+(IntKind.u64.wrap (rd x44 x46))))+(IntKind.u64.wrap (rd x6 x46))))%4294967296)) ((IntKind.u64.wrap ((IntKind.u64.wrap (x8+(IntKind.u64.wrap (rd x44 x46))))+(IntKind.u64.wrap (rd x6 x46))))/4294967296) x44 x45 (wrap64 (x46+1))) else (none)) else (if x46 < (x7.length:Int) then (nat_Add.l0 k x5 x6 (x7.set (x46:Int).toNat ((IntKind.u64.wrap (x8+(IntKind.u64.wrap (rd x44 x46))))%4294967296)) ((IntKind.u64.wrap (x8+(IntKind.u64.wrap (rd x44 x46))))/4294967296) x44 x45 (wrap64 (x46+1))) else (none))) else (none)) else (none)) else (if 0≤(x5.length:Int) then (if (x5.length:Int) < (x7.length:Int) then ((nat_text.f k (x7.set ((x5.length:Int):Int).toNat ((x8)%4294967296))).bind fun t139=>(some t139)) else (none)) else (none))
end
def nat_Add.f (k:Nat) (a0:ByteArray) (a1:ByteArray):Option (ByteArray):=(nat_trim.f k a0).bind fun t120=>((nat_trim.f k a1).bind fun t121=>(if (t120.size:Int) < 8 then (nat_Add.j0 k t120 t121 (decide ((t121.size:Int) < 8))) else (nat_Add.j0 k t120 t121 false)))
theorem nat_Add.mono_l:∀ k,(∀ y0 y1 y2,LeO (nat_Add.j0 k y0 y1 y2) (nat_Add.j0 (k+1) y0 y1 y2))∧(∀ y0 y1,LeO (nat_Add.j1 k y0 y1) (nat_Add.j1 (k+1) y0 y1))∧(∀ y0 y1 y2 y3 y4 y5 y6,LeO (nat_Add.l0 k y0 y1 y2 y3 y4 y5 y6) (nat_Add.l0 (k+1) y0 y1 y2 y3 y4 y5 y6))
 | 0=>⟨fun _ _ _ r h=>by simp [nat_Add.j0] at h,fun _ _ r h=>by simp [nat_Add.j1] at h,fun _ _ _ _ _ _ _ r h=>by simp [nat_Add.l0] at h⟩
 | k+1=>by
  obtain ⟨ih0,ih1,ih2⟩:=nat_Add.mono_l k
  refine ⟨?_,?_,?_⟩
  ·intro y0 y1 y2
   unfold nat_Add.j0
   have m0:=@nat_short.mono
   have m1:=@nat_text.mono
   have m2:=@nat_trim.mono
   have m3:=@nat_words.mono
   exact zM
  ·intro y0 y1
   unfold nat_Add.j1
   have m0:=@nat_short.mono
   have m1:=@nat_text.mono
   have m2:=@nat_trim.mono
   have m3:=@nat_words.mono
   exact zM
  intro y0 y1 y2 y3 y4 y5 y6
  unfold nat_Add.l0
  have m0:=@nat_short.mono
  have m1:=@nat_text.mono
  have m2:=@nat_trim.mono
  have m3:=@nat_words.mono
  exact zM
theorem nat_Add.mono:∀ a0 a1 k,LeO (nat_Add.f k a0 a1) (nat_Add.f (k+1) a0 a1):=by
 intro a0 a1 k
 obtain ⟨ih0,ih1,ih2⟩:=nat_Add.mono_l k
 unfold nat_Add.f
 have m0:=@nat_short.mono
 have m1:=@nat_text.mono
 have m2:=@nat_trim.mono
 have m3:=@nat_words.mono
 exact zM
theorem nat_Add.calls (k:Nat) (a0:ByteArray) (a1:ByteArray) (r:ByteArray) (w:World) (h:nat_Add.f k a0 a1=some r) :
 Calls Tryd.prog 63 #[.string a0,.string a1] w fun e w'=>e = .returned (.string r)∧Below w.heap.size w w':=by
 have HB:=Aside0.mk (Below.refl w.heap.size w)
 unfold nat_Add.f at h
 have H:=h
 clear h
 obtain ⟨t120,A3,H⟩:=zH H
 obtain ⟨t121,A4,H⟩:=zH H
 have HC5:=Aside0.mk H
 clear H
 go_enter Tryd.func63,Tryd.ntmps63
 go_upto_region 2 with (first | ((with_reducible refine zG 72 ?_); refine zL 12 Tryd.func72 #[.string a0] ?_; (with_reducible refine (nat_trim.calls k a0 t120 _ A3.out).mono ?_); rintro e w' ⟨rfl,⟨nd,rfl⟩⟩; refine ⟨_,rfl,?_⟩) | ((with_reducible refine zG 72 ?_); refine zL 14 Tryd.func72 #[.string a1] ?_; (with_reducible refine (nat_trim.calls k a1 t121 _ A4.out).mono ?_); rintro e w' ⟨rfl,⟨nd,rfl⟩⟩; refine ⟨_,rfl,?_⟩))
 (try simp only [Act.put,List.setIfInBounds_toArray,List.set_cons_zero,List.set_cons_succ])
 go_cut [22] (fun v22 wc=>∃ (kq:Nat) (x22_4:Bool),v22 = .bool x22_4∧Aside0 (nat_Add.j0 kq t120 t121 x22_4=some r)∧Aside0 (kq≤k)∧Aside0 (Below w.heap.size w wc))
 case first =>
  have H:=HC5.out
  clear HC5
  by_cases c6:(t120.size:Int) < 8
  ·rw [if_pos c6] at H
   have c6b0:decide ((t120.size:Int) < 8)=true:=decide_eq_true c6
   have c6b1:decide (t120.size < 8)=true:=decide_eq_true (by omega)
   clear c6
   (first | rw [c6b0] | rw [c6b1] | (simp only [i64_w,i32_w]; rw [c6b0]) | skip)
   have H':=Aside0.mk H
   clear H
   go_wp2
   go_meet
   case rel=>exact ⟨_,(decide ((t121.size:Int) < 8)),zS,H',⟨by first | omega | exact Nat.le_refl _⟩,⟨zB⟩⟩
  rw [if_neg c6] at H
  have c6b0:decide ((t120.size:Int) < 8)=false:=decide_eq_false c6
  have c6b1:decide (t120.size < 8)=false:=decide_eq_false (by omega)
  clear c6
  (first | rw [c6b0] | rw [c6b1] | (simp only [i64_w,i32_w]; rw [c6b0]) | skip)
  have H':=Aside0.mk H
  clear H
  go_wp2
  go_meet
  case rel=>exact ⟨_,(false),zS,H',⟨by first | omega | exact Nat.le_refl _⟩,⟨zB⟩⟩
 case rest =>
  clear HC5
  try clear p2
  try clear c6
  try clear c6b0
  try clear c6b1
  obtain ⟨kq,x22_4,rfl,HA,HJ4,HB⟩:=hcut
  cases kq with
  | zero=>exact absurd HA.out (by simp [nat_Add.j0])
  | succ kj4 =>
   have H:=HA.out
   clear HA
   simp only [nat_Add.j0] at H
   by_cases c7:x22_4=true
   ·subst c7
    have H1:((nat_short.f kj4 t120).bind fun t122=>((nat_short.f kj4 t121).bind fun t123=>((nat_fromShort.f (IntKind.u64.wrap (t122+t123))).bind fun t124=>(some t124))))=some r:=by rw [if_pos rfl] at H; exact H
    clear H
    have H:=H1
    clear H1
    obtain ⟨t122,A8,H⟩:=zH H
    obtain ⟨t123,A9,H⟩:=zH H
    obtain ⟨t124,A10,H⟩:=zH H
    obtain rfl:=Option.some.inj H
    go_wp2_with (first | ((with_reducible refine zG 74 ?_); refine zL 24 Tryd.func74 #[.string t120] ?_; (with_reducible refine (nat_short.calls kj4 t120 t122 _ A8.out).mono ?_); rintro e w' ⟨rfl,⟨nd,rfl⟩⟩; refine ⟨_,rfl,?_⟩) | ((with_reducible refine zG 74 ?_); refine zL 26 Tryd.func74 #[.string t121] ?_; (with_reducible refine (nat_short.calls kj4 t121 t123 _ A9.out).mono ?_); rintro e w' ⟨rfl,⟨nd,rfl⟩⟩; refine ⟨_,rfl,?_⟩) | ((with_reducible refine zG 73 ?_); refine zL 28 Tryd.func73 #[.int .u64 (IntKind.u64.wrap (t122+t123))] ?_; (with_reducible refine (nat_fromShort.calls (IntKind.u64.wrap (t122+t123)) t124 _ A10.out).mono ?_); rintro e w11 ⟨rfl,hb⟩; refine ⟨_,rfl,?_⟩; replace HB:=zP hb; (try clear hb)))
    go_ret
    exact ⟨zR,zB⟩
   replace c7:=Bool.eq_false_iff.mpr c7
   subst c7
   have H1:((nat_words.f kj4 t120).bind fun t125=>((nat_words.f kj4 t121).bind fun t128=>(if (t125.length:Int) < (t128.length:Int) then (nat_Add.j1 kj4 t128 t125) else (nat_Add.j1 kj4 t125 t128))))=some r:=by rw [if_neg (show ¬ (false=true) by decide)] at H; exact H
   clear H
   have H:=H1
   clear H1
   obtain ⟨t125,A12,H⟩:=zH H
   obtain ⟨t128,A13,H⟩:=zH H
   have HC14:=Aside0.mk H
   clear H
   go_upto_if 37 with (first | ((with_reducible refine zG 75 ?_); refine zL 30 Tryd.func75 #[.string t120] ?_; (with_reducible refine (nat_words.calls kj4 t120 t125 _ A12.out).mono ?_); rintro e w15 ⟨v126,rfl,ho0,hb⟩; refine ⟨_,rfl,?_⟩; have HO127:=Aside0.mk (Kd.R_lower ho0 (below_size zB)); replace HB:=zP hb; (try clear hb); (try clear ho0)) | ((with_reducible refine zG 75 ?_); refine zL 32 Tryd.func75 #[.string t121] ?_; (with_reducible refine (nat_words.calls kj4 t121 t128 _ A13.out).mono ?_); rintro e w16 ⟨v129,rfl,ho0,hb⟩; refine ⟨_,rfl,?_⟩; have HO130:=Aside0.mk (Kd.R_lower (Kd.R_new' ho0 (Kd.R_lt (zO HO127))) (below_size zB)); replace HO127:=Aside0.mk (Kd.R_elder' (zO HO127) (Kd.R_base ho0) hb); replace HB:=zP hb; (try clear hb); (try clear ho0); obtain ⟨Ao17,co17,eo17⟩:=Kd.R_slice HO127.out; subst eo17; obtain ⟨Ao18,co18,eo18⟩:=Kd.R_slice HO130.out; subst eo18))
   (try simp only [Act.put,List.setIfInBounds_toArray,List.set_cons_zero,List.set_cons_succ])
   go_cut [5,6] (fun v5 v6 wc=>∃ (kq:Nat) (x5_13:List Int) (x6_13:List Int),Aside0 (nat_Add.j1 kq x5_13 x6_13=some r)∧Aside0 (kq≤kj4)∧Aside0 (Kd.R (Kd.int .u32) 89 wc w.heap.size (fun k_=>some k_≠(v6:Value).ownBlock) v5 x5_13)∧Aside0 (Kd.R (Kd.int .u32) 89 wc w.heap.size (fun k_=>some k_≠(v5:Value).ownBlock) v6 x6_13)∧Aside0 (Below w.heap.size w wc))
   case first =>
    have H:=HC14.out
    clear HC14
    by_cases c19:(t125.length:Int) < (t128.length:Int)
    ·rw [if_pos c19] at H
     have c19b0:decide ((t125.length:Int) < (t128.length:Int))=true:=decide_eq_true c19
     have c19b1:decide (t125.length < t128.length)=true:=decide_eq_true (Int.ofNat_lt.mp c19)
     clear c19
     (first | rw [c19b0] | rw [c19b1] | (simp only [i64_w,i32_w]; rw [c19b0]) | skip)
     have H':=Aside0.mk H
     clear H
     go_wp2
     go_meet
     case rel=>exact ⟨_,(t128),(t125),H',⟨by have:=HJ4.out; first | omega | exact Nat.le_refl _⟩,⟨by (with_reducible repeat (first | apply Kd.R_alloc | apply Kd.R_drewN | apply Kd.R_drew)); exact Kd.R_mono HO130.out (fun _ hk=>hk.2)⟩,⟨by (with_reducible repeat (first | apply Kd.R_alloc | apply Kd.R_drewN | apply Kd.R_drew)); exact Kd.R_mono HO127.out (fun _ hk=>hk.2)⟩,⟨zB⟩⟩
    rw [if_neg c19] at H
    have c19b0:decide ((t125.length:Int) < (t128.length:Int))=false:=decide_eq_false c19
    have c19b1:decide (t125.length < t128.length)=false:=decide_eq_false (fun h=>c19 (Int.ofNat_lt.mpr h))
    clear c19
    (first | rw [c19b0] | rw [c19b1] | (simp only [i64_w,i32_w]; rw [c19b0]) | skip)
    have H':=Aside0.mk H
    clear H
    go_wp2
    go_meet
    case rel=>exact ⟨_,(t125),(t128),H',⟨by have:=HJ4.out; first | omega | exact Nat.le_refl _⟩,⟨by (with_reducible repeat (first | apply Kd.R_alloc | apply Kd.R_drewN | apply Kd.R_drew)); exact Kd.R_mono HO127.out (fun _ hk=>hk.2)⟩,⟨by (with_reducible repeat (first | apply Kd.R_alloc | apply Kd.R_drewN | apply Kd.R_drew)); exact Kd.R_mono HO130.out (fun _ hk=>hk.2)⟩,⟨zB⟩⟩
   case rest =>
    clear HC14
    try clear c1
    try clear p2
    try clear c6
    try clear c6b0
    try clear c6b1
    try clear c7
    try clear c19
    try clear c19b0
    try clear c19b1
    try clear p2
    obtain ⟨kq,x5_13,x6_13,HA,HJ13,HO_5,HO_6,HB⟩:=hcut
    cases kq with
    | zero=>exact absurd HA.out (by simp [nat_Add.j1])
    | succ kj13 =>
     have H:=HA.out
     clear HA
     simp only [nat_Add.j1] at H
     generalize hji20:(wrap64 ((x5_13.length:Int)+1))=ji20 at H
     have hji20w:(IntKind.i64.wrap ((x5_13.length:Int)+1))=ji20:=(i64_w _).trans hji20
     obtain ⟨c21b0,c21b1,H⟩:=zE H
     obtain ⟨c22b0,c22b1,H⟩:=zE H
     obtain ⟨y131,Ny131⟩:∃ y_:List Int,Aside0 (y_=(List.replicate (ji20:Int).toNat 0)):=⟨_,⟨rfl⟩⟩
     replace H:(nat_Add.l0 kj13 x5_13 x6_13 y131 0 x5_13 (x5_13.length:Int) 0)=some r:=zY Ny131 H
     have H':=Aside0.mk H
     clear H
     obtain ⟨Ao23,co23,eo23⟩:=Kd.R_slice HO_5.out
     subst eo23
     go_wp2_with (first | ((with_reducible refine gate_dst (N:=43) rfl ?_); (try (refine gate_guard (by rfl) ?_; dsimp only)); refine Kd.R_make (Kd.int .u32) _ 89 rfl (N:=43) rfl 47 _ _ rfl ji20 rfl rfl Tryd.underlying47 (.int .u32 0) 4 info89 rfl (by decide) (by omega) 0 (ok:=fun _=>True) (okp:=fun _=>True) rfl zI trivial zD (Nat.le_trans (Nat.mul_le_mul_right _ (zD:ji20.toNat≤70368744177664)) (by omega)) (Below.refl _ _) (Nat.le_refl _) ?_; intro v132 w24 ho25 hb hg_ hnew_; clear hg_ hnew_; (first | rw [← Ny131.out] at ho25 | (simp only [Int.reduceToNat] at ho25; rw [← Ny131.out] at ho25)); have HO133:=Aside0.mk (Kd.R_lower (Kd.R_new' (Kd.R_new' ho25 (Kd.R_lt (zO HO_5))) (Kd.R_lt (zO HO_6))) (below_size zB)); replace HO_5:=Aside0.mk (Kd.R_elder' (zO HO_5) (Kd.R_base ho25) hb); replace HO_6:=Aside0.mk (Kd.R_elder' (zO HO_6) (Kd.R_base ho25) hb); replace HB:=zP hb; clear hb ho25))
     go_loopg [8,46] kj13 (fun kq v8 v46 w'=>∃ (x7_3:List Int) (x8_3:Int) (x46_3:Int),v8 = .int .u64 x8_3∧v46 = .int .i64 x46_3∧Aside0 (nat_Add.l0 kq x5_13 x6_13 x7_3 x8_3 x5_13 (x5_13.length:Int) x46_3=some r)∧Aside0 (kq≤kj13)∧Aside0 (Kd.R (Kd.int .u32) 89 w' w.heap.size (fun k_=>some k_≠(u6:Value).ownBlock∧some k_≠(v132:Value).ownBlock) (.slice Ao23 x5_13.length co23) x5_13)∧Aside0 (Kd.R (Kd.int .u32) 89 w' w.heap.size (fun k_=>some k_≠((.slice Ao23 x5_13.length co23):Value).ownBlock∧some k_≠(v132:Value).ownBlock∧some k_≠((.slice Ao23 x5_13.length co23):Value).ownBlock) u6 x6_13)∧Aside0 (Kd.R (Kd.int .u32) 89 w' w.heap.size (fun k_=>some k_≠((.slice Ao23 x5_13.length co23):Value).ownBlock∧some k_≠(u6:Value).ownBlock∧some k_≠((.slice Ao23 x5_13.length co23):Value).ownBlock) v132 x7_3)∧Aside0 (Kd.R (Kd.int .u32) 89 w' w.heap.size (fun k_=>some k_≠(u6:Value).ownBlock∧some k_≠(v132:Value).ownBlock) (.slice Ao23 x5_13.length co23) x5_13)∧Aside0 (Below w.heap.size w w'))
     case atStart=>exact ⟨(y131),(0),(0),zS,zS,H',⟨Nat.le_refl _⟩,⟨zO HO_5⟩,⟨by (with_reducible repeat (first | apply Kd.R_alloc | apply Kd.R_drewN | apply Kd.R_drew)); exact Kd.R_mono HO_6.out (fun _ hk=>⟨hk.1,⟨hk.2,hk.1⟩⟩)⟩,⟨by (with_reducible repeat (first | apply Kd.R_alloc | apply Kd.R_drewN | apply Kd.R_drew)); exact Kd.R_mono HO133.out (fun _ hk=>⟨hk.1.2,⟨hk.2,hk.1.2⟩⟩)⟩,⟨zO HO_5⟩,⟨zB⟩⟩
     case round =>
      clear H'
      try clear c1
      try clear c2
      try clear p2
      try clear c6
      try clear c6b0
      try clear c6b1
      try clear p6
      try clear c7
      try clear c19
      try clear c19b0
      try clear c19b1
      try clear c21
      try clear c21b0
      try clear c21b1
      try clear c22
      try clear c22b0
      try clear c22b1
      try clear p2
      obtain ⟨x7_3,x8_3,x46_3,rfl,rfl,HA,HK3,HO_5,HO_6,HO_7,HO_44,HB⟩:=hrel
      cases gk with
      | zero=>exact absurd HA.out (by simp [nat_Add.l0])
      | succ k3 =>
       have H:=HA.out
       clear HA
       simp only [nat_Add.l0] at H
       by_cases c26:x46_3 < (x5_13.length:Int)
       rotate_left
       ·rw [if_neg c26] at H
        have c26b0:decide (x46_3 < (x5_13.length:Int))=false:=decide_eq_false c26
        clear c26
        by_cases c40:0≤(x5_13.length:Int)
        rotate_left
        ·rw [if_neg c40] at H
         exact absurd H (by simp)
        rw [if_pos c40] at H
        have c40b0:decide (0≤(x5_13.length:Int))=true:=decide_eq_true c40
        have c40b1:decide (0≤x5_13.length)=true:=decide_eq_true (by omega)
        clear c40
        by_cases c41:(x5_13.length:Int) < (x7_3.length:Int)
        ·rw [if_pos c41] at H
         have c41b0:decide ((x5_13.length:Int) < (x7_3.length:Int))=true:=decide_eq_true c41
         have c41b1:decide (x5_13.length < x7_3.length)=true:=decide_eq_true (Int.ofNat_lt.mp c41)
         clear c41
         obtain ⟨y138,Ny138⟩:∃ y_:List Int,Aside0 (y_=(x7_3.set ((x5_13.length:Int):Int).toNat ((x8_3)%4294967296))):=⟨_,⟨rfl⟩⟩
         replace H:((nat_text.f k3 y138).bind fun t139=>(some t139))=some r:=zY Ny138 H
         obtain ⟨t139,A43,H⟩:=zH H
         obtain rfl:=Option.some.inj H
         have p42:0≤((x5_13.length:Int):Int):=zD
         have q42:((x5_13.length:Int):Int) < ((x7_3.length:Int):Int):=zD
         obtain ⟨go42,co42,eo42,gb42,gl42,cl42,HG42⟩:=Kd.R_form HO_7.out (by omega)
         (first | cases eo42 | (injection eo42 with ea_ en_ ec_; (first | subst ea_ | (injection ea_ with ea_; subst ea_)); subst ec_; clear en_))
         have GB42:=Aside0.mk gb42
         have GG42:=Aside0.mk HG42
         clear gb42 gl42 HG42
         obtain ⟨hx42_0,hf42_0⟩:=Kd.R_celln 0 HO_7.out ((x5_13.length:Int):Int) p42 q42
         (try simp only [Go.IntWalk.toNatUp] at hx42_0 hf42_0)
         replace p42:=eq_true p42
         replace q42:=eq_true q42
         have HP44:=Kd.R_putg HO_7.out ((x5_13.length:Int):Int) ((x8_3)%4294967296)
         go_wp2_with (first | ((with_reducible refine gate_store (t:=89) (p:=79) rfl ?_); refine store_event (t:=89) (p:=79) (v:=?vo_w45) (w1:=(wr.setCell ⟨go42,((x5_13.length:Int):Int).toNat,none⟩ (.int .u32 ((x8_3)%4294967296)))) ?hg ?ho ?hn ?hr ?_; (case ho=>rfl); (case hg=>rfl); (case hn=>rfl); (case hr=>first | (go_simp; done) | (go_simp; rfl)); intro w45 hw; have hg:wr.grownBy w45 (some go42):=(by rw [hw]; exact HP44.2); have hp_:Kd.R (Kd.int .u32) 89 w45 w.heap.size (fun k_=>some k_≠(.slice Ao23 x5_13.length co23:Value).ownBlock∧some k_≠(u6:Value).ownBlock∧some k_≠(.slice Ao23 x5_13.length co23:Value).ownBlock) (.slice (some ⟨go42,0,none⟩) x7_3.length co42) y138:=(by rw [hw,Ny138.out]; exact HP44.1); clear HP44; replace HO_5:=Aside0.mk (Kd.R_after (v:=(.slice (some ⟨go42,0,none⟩) x7_3.length co42)) (v1:=(.slice (some ⟨go42,0,none⟩) x7_3.length co42)) (ok:=(fun k_=>some k_≠(u6:Value).ownBlock)) (zO HO_5) hg (.inl rfl)); replace HO_6:=Aside0.mk (Kd.R_after (v:=(.slice (some ⟨go42,0,none⟩) x7_3.length co42)) (v1:=(.slice (some ⟨go42,0,none⟩) x7_3.length co42)) (ok:=(fun k_=>some k_≠(.slice Ao23 x5_13.length co23:Value).ownBlock∧some k_≠(.slice Ao23 x5_13.length co23:Value).ownBlock)) (by (with_reducible repeat (first | apply Kd.R_alloc | apply Kd.R_drewN | apply Kd.R_drew)); exact Kd.R_mono HO_6.out (fun _ hk=>⟨⟨hk.1,hk.2.2⟩,hk.2.1⟩)) hg (.inl rfl)); replace HO_7:=Aside0.mk (hp_); replace HO_44:=Aside0.mk (Kd.R_after (v:=(.slice (some ⟨go42,0,none⟩) x7_3.length co42)) (v1:=(.slice (some ⟨go42,0,none⟩) x7_3.length co42)) (ok:=(fun k_=>some k_≠(u6:Value).ownBlock)) (zO HO_44) hg (.inl rfl)); replace HB:=Aside0.mk ((by rw [hw]; exact below_set (HB.out) GB42.out:Below w.heap.size w w45)); clear hg hw hp_) | ((with_reducible refine zG 76 ?_); refine goesL_ (some 81) rfl rfl Tryd.func76 (by kernel_rfl) rfl #[.slice (some ⟨go42,0,none⟩) y138.length co42] rfl (by (try simp only [List.map_toArray,List.map_cons,List.map_nil]); first | done | (rw [show y138.length=x7_3.length from (Kd.R_reads' HO_7.out).1.symm]<;>rfl) | rfl | (simp only [List.length_drop,List.length_take]; rfl)) ?_; (with_reducible refine (nat_text.calls k3 _ _ y138 t139 _ ?side1 ?side2 A43.out).mono ?_); (case side1=>exact zC HO_7); (case side2=>rw [show y138.length=x7_3.length from (Kd.R_reads' HO_7.out).1.symm]; exact (Kd.R_reads' HO_7.out).2.1); rintro e w46 ⟨rfl,hb⟩; refine ⟨_,rfl,?_⟩; replace HO_5:=Aside0.mk (Kd.R_below (zO HO_5) hb); replace HO_6:=Aside0.mk (Kd.R_below (zO HO_6) hb); replace HO_7:=Aside0.mk (Kd.R_below (zO HO_7) hb); replace HO_44:=Aside0.mk (Kd.R_below (zO HO_44) hb); replace HB:=zP hb; (try clear hb)))
         go_ret
         exact ⟨zQ hji20,zB⟩
        rw [if_neg c41] at H
        exact absurd H (by simp)
       rw [if_pos c26] at H
       have c26b0:decide (x46_3 < (x5_13.length:Int))=true:=decide_eq_true c26
       clear c26
       obtain ⟨c27b0,H⟩:=zF H
       obtain ⟨c28b0,H⟩:=zF H
       by_cases c29:x46_3 < (x6_13.length:Int)
       ·rw [if_pos c29] at H
        have c29b0:decide (x46_3 < (x6_13.length:Int))=true:=decide_eq_true c29
        clear c29
        obtain ⟨c30b0,H⟩:=zF H
        obtain ⟨y136,Ny136⟩:∃ y_:List Int,Aside0 (y_=(x7_3.set (x46_3:Int).toNat ((IntKind.u64.wrap ((IntKind.u64.wrap (x8_3+(IntKind.u64.wrap (rd x5_13 x46_3))))+(IntKind.u64.wrap (rd x6_13 x46_3))))%4294967296))):=⟨_,⟨rfl⟩⟩
        replace H:(nat_Add.l0 k3 x5_13 x6_13 y136 ((IntKind.u64.wrap ((IntKind.u64.wrap (x8_3+(IntKind.u64.wrap (rd x5_13 x46_3))))+(IntKind.u64.wrap (rd x6_13 x46_3))))/4294967296) x5_13 (x5_13.length:Int) (wrap64 (x46_3+1)))=some r:=zY Ny136 H
        have H':=Aside0.mk H
        clear H
        have p134:0≤(x46_3:Int):=zD
        have q134:x46_3 < (x5_13.length:Int):=zD
        obtain ⟨ad134,e134,hx134_0⟩:=Kd.at_int (Kd.R_reads' HO_44.out).2.2 x46_3 p134 q134
        cases e134
        replace p134:=eq_true p134
        replace q134:=eq_true q134
        obtain ⟨Ao32,co32,eo32⟩:=Kd.R_slice HO_6.out
        subst eo32
        have p135:0≤(x46_3:Int):=zD
        have q135:x46_3 < (x6_13.length:Int):=zD
        obtain ⟨ad135,e135,hx135_0⟩:=Kd.at_int (Kd.R_reads' HO_6.out).2.2 x46_3 p135 q135
        cases e135
        replace p135:=eq_true p135
        replace q135:=eq_true q135
        have p31:0≤(x46_3:Int):=zD
        have q31:(x46_3:Int) < ((x7_3.length:Int):Int):=zD
        obtain ⟨go31,co31,eo31,gb31,gl31,cl31,HG31⟩:=Kd.R_form HO_7.out (by omega)
        (first | cases eo31 | (injection eo31 with ea_ en_ ec_; (first | subst ea_ | (injection ea_ with ea_; subst ea_)); subst ec_; clear en_))
        have GB31:=Aside0.mk gb31
        have GG31:=Aside0.mk HG31
        clear gb31 gl31 HG31
        obtain ⟨hx31_0,hf31_0⟩:=Kd.R_celln 0 HO_7.out (x46_3:Int) p31 q31
        replace p31:=eq_true p31
        replace q31:=eq_true q31
        have HP33:=Kd.R_putg HO_7.out (x46_3:Int) ((IntKind.u64.wrap ((IntKind.u64.wrap (x8_3+(IntKind.u64.wrap (rd x5_13 x46_3))))+(IntKind.u64.wrap (rd x6_13 x46_3))))%4294967296)
        go_wp2_with (first | ((with_reducible refine gate_store (t:=89) (p:=70) rfl ?_); refine store_event (t:=89) (p:=70) (v:=?vo_w34) (w1:=(wr.setCell ⟨go31,(x46_3:Int).toNat,none⟩ (.int .u32 ((IntKind.u64.wrap ((IntKind.u64.wrap (x8_3+(IntKind.u64.wrap (rd x5_13 x46_3))))+(IntKind.u64.wrap (rd x6_13 x46_3))))%4294967296)))) ?hg ?ho ?hn ?hr ?_; (case ho=>rfl); (case hg=>rfl); (case hn=>rfl); (case hr=>first | (go_simp; done) | (go_simp; rfl)); intro w34 hw; have hg:wr.grownBy w34 (some go31):=(by rw [hw]; exact HP33.2); have hp_:Kd.R (Kd.int .u32) 89 w34 w.heap.size (fun k_=>some k_≠(.slice (some ad134) x5_13.length co23:Value).ownBlock∧some k_≠(.slice (some ad135) x6_13.length co32:Value).ownBlock∧some k_≠(.slice (some ad134) x5_13.length co23:Value).ownBlock) (.slice (some ⟨go31,0,none⟩) x7_3.length co31) y136:=(by rw [hw,Ny136.out]; exact HP33.1); clear HP33; replace HO_5:=Aside0.mk (Kd.R_after (v:=(.slice (some ⟨go31,0,none⟩) x7_3.length co31)) (v1:=(.slice (some ⟨go31,0,none⟩) x7_3.length co31)) (ok:=(fun k_=>some k_≠(.slice (some ad135) x6_13.length co32:Value).ownBlock)) (zO HO_5) hg (.inl rfl)); replace HO_6:=Aside0.mk (Kd.R_after (v:=(.slice (some ⟨go31,0,none⟩) x7_3.length co31)) (v1:=(.slice (some ⟨go31,0,none⟩) x7_3.length co31)) (ok:=(fun k_=>some k_≠(.slice (some ad134) x5_13.length co23:Value).ownBlock∧some k_≠(.slice (some ad134) x5_13.length co23:Value).ownBlock)) (by (with_reducible repeat (first | apply Kd.R_alloc | apply Kd.R_drewN | apply Kd.R_drew)); exact Kd.R_mono HO_6.out (fun _ hk=>⟨⟨hk.1,hk.2.2⟩,hk.2.1⟩)) hg (.inl rfl)); replace HO_7:=Aside0.mk (hp_); replace HO_44:=Aside0.mk (Kd.R_after (v:=(.slice (some ⟨go31,0,none⟩) x7_3.length co31)) (v1:=(.slice (some ⟨go31,0,none⟩) x7_3.length co31)) (ok:=(fun k_=>some k_≠(.slice (some ad135) x6_13.length co32:Value).ownBlock)) (zO HO_44) hg (.inl rfl)); replace HB:=Aside0.mk ((by rw [hw]; exact below_set (HB.out) GB31.out:Below w.heap.size w w34)); clear hg hw hp_))
        go_roundg k3
        case measure=>have:=HJ4.out; have:=HJ13.out; have:=HK3.out; omega
        case rel=>exact ⟨(y136),((IntKind.u64.wrap ((IntKind.u64.wrap (x8_3+(IntKind.u64.wrap (rd x5_13 x46_3))))+(IntKind.u64.wrap (rd x6_13 x46_3))))/4294967296),(wrap64 (x46_3+1)),zS,zS,H',⟨by have:=HJ4.out; have:=HJ13.out; have:=HK3.out; omega⟩,⟨zO HO_5⟩,⟨by (with_reducible repeat (first | apply Kd.R_alloc | apply Kd.R_drewN | apply Kd.R_drew)); exact Kd.R_mono HO_6.out (fun _ hk=>⟨hk.1.1,⟨hk.2,hk.1.2⟩⟩)⟩,⟨zO HO_7⟩,⟨zO HO_44⟩,⟨zB⟩⟩
       rw [if_neg c29] at H
       have c29b0:decide (x46_3 < (x6_13.length:Int))=false:=decide_eq_false c29
       clear c29
       obtain ⟨c35b0,H⟩:=zF H
       obtain ⟨y137,Ny137⟩:∃ y_:List Int,Aside0 (y_=(x7_3.set (x46_3:Int).toNat ((IntKind.u64.wrap (x8_3+(IntKind.u64.wrap (rd x5_13 x46_3))))%4294967296))):=⟨_,⟨rfl⟩⟩
       replace H:(nat_Add.l0 k3 x5_13 x6_13 y137 ((IntKind.u64.wrap (x8_3+(IntKind.u64.wrap (rd x5_13 x46_3))))/4294967296) x5_13 (x5_13.length:Int) (wrap64 (x46_3+1)))=some r:=zY Ny137 H
       have H':=Aside0.mk H
       clear H
       have p134:0≤(x46_3:Int):=zD
       have q134:x46_3 < (x5_13.length:Int):=zD
       obtain ⟨ad134,e134,hx134_0⟩:=Kd.at_int (Kd.R_reads' HO_44.out).2.2 x46_3 p134 q134
       cases e134
       replace p134:=eq_true p134
       replace q134:=eq_true q134
       obtain ⟨Ao37,co37,eo37⟩:=Kd.R_slice HO_6.out
       subst eo37
       have p36:0≤(x46_3:Int):=zD
       have q36:(x46_3:Int) < ((x7_3.length:Int):Int):=zD
       obtain ⟨go36,co36,eo36,gb36,gl36,cl36,HG36⟩:=Kd.R_form HO_7.out (by omega)
       (first | cases eo36 | (injection eo36 with ea_ en_ ec_; (first | subst ea_ | (injection ea_ with ea_; subst ea_)); subst ec_; clear en_))
       have GB36:=Aside0.mk gb36
       have GG36:=Aside0.mk HG36
       clear gb36 gl36 HG36
       obtain ⟨hx36_0,hf36_0⟩:=Kd.R_celln 0 HO_7.out (x46_3:Int) p36 q36
       replace p36:=eq_true p36
       replace q36:=eq_true q36
       have HP38:=Kd.R_putg HO_7.out (x46_3:Int) ((IntKind.u64.wrap (x8_3+(IntKind.u64.wrap (rd x5_13 x46_3))))%4294967296)
       go_wp2_with (first | ((with_reducible refine gate_store (t:=89) (p:=70) rfl ?_); refine store_event (t:=89) (p:=70) (v:=?vo_w39) (w1:=(wr.setCell ⟨go36,(x46_3:Int).toNat,none⟩ (.int .u32 ((IntKind.u64.wrap (x8_3+(IntKind.u64.wrap (rd x5_13 x46_3))))%4294967296)))) ?hg ?ho ?hn ?hr ?_; (case ho=>rfl); (case hg=>rfl); (case hn=>rfl); (case hr=>first | (go_simp; done) | (go_simp; rfl)); intro w39 hw; have hg:wr.grownBy w39 (some go36):=(by rw [hw]; exact HP38.2); have hp_:Kd.R (Kd.int .u32) 89 w39 w.heap.size (fun k_=>some k_≠(.slice (some ad134) x5_13.length co23:Value).ownBlock∧some k_≠(.slice Ao37 x6_13.length co37:Value).ownBlock∧some k_≠(.slice (some ad134) x5_13.length co23:Value).ownBlock) (.slice (some ⟨go36,0,none⟩) x7_3.length co36) y137:=(by rw [hw,Ny137.out]; exact HP38.1); clear HP38; replace HO_5:=Aside0.mk (Kd.R_after (v:=(.slice (some ⟨go36,0,none⟩) x7_3.length co36)) (v1:=(.slice (some ⟨go36,0,none⟩) x7_3.length co36)) (ok:=(fun k_=>some k_≠(.slice Ao37 x6_13.length co37:Value).ownBlock)) (zO HO_5) hg (.inl rfl)); replace HO_6:=Aside0.mk (Kd.R_after (v:=(.slice (some ⟨go36,0,none⟩) x7_3.length co36)) (v1:=(.slice (some ⟨go36,0,none⟩) x7_3.length co36)) (ok:=(fun k_=>some k_≠(.slice (some ad134) x5_13.length co23:Value).ownBlock∧some k_≠(.slice (some ad134) x5_13.length co23:Value).ownBlock)) (by (with_reducible repeat (first | apply Kd.R_alloc | apply Kd.R_drewN | apply Kd.R_drew)); exact Kd.R_mono HO_6.out (fun _ hk=>⟨⟨hk.1,hk.2.2⟩,hk.2.1⟩)) hg (.inl rfl)); replace HO_7:=Aside0.mk (hp_); replace HO_44:=Aside0.mk (Kd.R_after (v:=(.slice (some ⟨go36,0,none⟩) x7_3.length co36)) (v1:=(.slice (some ⟨go36,0,none⟩) x7_3.length co36)) (ok:=(fun k_=>some k_≠(.slice Ao37 x6_13.length co37:Value).ownBlock)) (zO HO_44) hg (.inl rfl)); replace HB:=Aside0.mk ((by rw [hw]; exact below_set (HB.out) GB36.out:Below w.heap.size w w39)); clear hg hw hp_))
       go_roundg k3
       case measure=>have:=HJ4.out; have:=HJ13.out; have:=HK3.out; omega
       case rel=>exact ⟨(y137),((IntKind.u64.wrap (x8_3+(IntKind.u64.wrap (rd x5_13 x46_3))))/4294967296),(wrap64 (x46_3+1)),zS,zS,H',⟨by have:=HJ4.out; have:=HJ13.out; have:=HK3.out; omega⟩,⟨zO HO_5⟩,⟨by (with_reducible repeat (first | apply Kd.R_alloc | apply Kd.R_drewN | apply Kd.R_drew)); exact Kd.R_mono HO_6.out (fun _ hk=>⟨hk.1.1,⟨hk.2,hk.1.2⟩⟩)⟩,⟨zO HO_7⟩,⟨zO HO_44⟩,⟨zB⟩⟩
def nat_Sub.f (k:Nat) (a0:ByteArray) (a1:ByteArray):Option (ByteArray × Int):=(nat_Cmp.f k a0 a1).bind fun t140=>(if t140 < 0 then (some ((⟨#[]⟩:ByteArray),1)) else ((nat_words.f k a0).bind fun t141=>((nat_words.f k a1).bind fun t144=>((nat_less.f k t141 t144).bind fun t147=>((nat_text.f k t147).bind fun t148=>(some (t148,0)))))))
theorem nat_Sub.mono:∀ a0 a1 k,LeO (nat_Sub.f k a0 a1) (nat_Sub.f (k+1) a0 a1):=by
 intro a0 a1 k
 unfold nat_Sub.f
 have m0:=@nat_Cmp.mono
 have m1:=@nat_less.mono
 have m2:=@nat_text.mono
 have m3:=@nat_words.mono
 exact zM
theorem nat_Sub.calls (k:Nat) (a0:ByteArray) (a1:ByteArray) (r1:ByteArray) (r2:Int) (w:World) (h:nat_Sub.f k a0 a1=some (r1,r2)) :
 Calls Tryd.prog 69 #[.string a0,.string a1] w fun e w'=>e = .returned (.tuple #[.string r1,.int .i64 r2])∧Below w.heap.size w w':=by
 have HB:=Aside0.mk (Below.refl w.heap.size w)
 unfold nat_Sub.f at h
 have H:=h
 clear h
 obtain ⟨t140,A3,H⟩:=zH H
 by_cases c4:t140 < 0
 ·rw [if_pos c4] at H
  have c4b0:decide (t140 < 0)=true:=decide_eq_true c4
  clear c4
  simp only [Option.some.injEq,Prod.mk.injEq] at H
  obtain ⟨rfl,rfl⟩:=H
  go_enter Tryd.func69,Tryd.ntmps69
  go_wp2_with (first | ((with_reducible refine zG 65 ?_); refine zL 10 Tryd.func65 #[.string a0,.string a1] ?_; (with_reducible refine (nat_Cmp.calls k a0 a1 t140 _ A3.out).mono ?_); rintro e w' ⟨rfl,⟨nd,rfl⟩⟩; refine ⟨_,rfl,?_⟩))
  go_ret2
  exact ⟨zR,zB⟩
 rw [if_neg c4] at H
 have c4b0:decide (t140 < 0)=false:=decide_eq_false c4
 clear c4
 obtain ⟨t141,A5,H⟩:=zH H
 obtain ⟨t144,A6,H⟩:=zH H
 obtain ⟨t147,A7,H⟩:=zH H
 obtain ⟨t148,A8,H⟩:=zH H
 simp only [Option.some.injEq,Prod.mk.injEq] at H
 obtain ⟨rfl,rfl⟩:=H
 go_enter Tryd.func69,Tryd.ntmps69
 go_wp2_with (first | ((with_reducible refine zG 65 ?_); refine zL 10 Tryd.func65 #[.string a0,.string a1] ?_; (with_reducible refine (nat_Cmp.calls k a0 a1 t140 _ A3.out).mono ?_); rintro e w' ⟨rfl,⟨nd,rfl⟩⟩; refine ⟨_,rfl,?_⟩) | ((with_reducible refine zG 75 ?_); refine zL 13 Tryd.func75 #[.string a0] ?_; (with_reducible refine (nat_words.calls k a0 t141 _ A5.out).mono ?_); rintro e w9 ⟨v142,rfl,ho0,hb⟩; refine ⟨_,rfl,?_⟩; have HO143:=Aside0.mk (Kd.R_lower ho0 (below_size zB)); replace HB:=zP hb; (try clear hb); (try clear ho0)) | ((with_reducible refine zG 75 ?_); refine zL 15 Tryd.func75 #[.string a1] ?_; (with_reducible refine (nat_words.calls k a1 t144 _ A6.out).mono ?_); rintro e w10 ⟨v145,rfl,ho0,hb⟩; refine ⟨_,rfl,?_⟩; have HO146:=Aside0.mk (Kd.R_lower (Kd.R_new' ho0 (Kd.R_lt (zO HO143))) (below_size zB)); replace HO143:=Aside0.mk (Kd.R_elder' (zO HO143) (Kd.R_base ho0) hb); replace HB:=zP hb; (try clear hb); (try clear ho0); obtain ⟨Ao11,co11,eo11⟩:=Kd.R_slice HO143.out; subst eo11; obtain ⟨Ao12,co12,eo12⟩:=Kd.R_slice HO146.out; subst eo12) | ((with_reducible refine zG 80 ?_); refine zL 18 Tryd.func80 #[.slice Ao11 t141.length co11,.slice Ao12 t144.length co12] ?_; (with_reducible refine (nat_less.calls k (fun k_=>some k_=(.slice Ao11 t141.length co11:Value).ownBlock) (.slice Ao11 t141.length co11) t141 _ _ t144 t147 w _ ?side1 ?side2 ?side3 ?side4 A7.out).mono ?_); (case side1=>exact zB); (case side2=>exact Kd.R_tight rfl HO143.out); (case side3=>exact Kd.C_kept_own (HO146.out) (fun k_ hk_ hs_=>(hk_.2) hs_)); (case side4=>exact (Kd.R_reads' HO146.out).2.1); rintro e w13 ⟨rfl,hy0,hb,hkp⟩; refine ⟨_,rfl,?_⟩; replace HO143:=Aside0.mk (Kd.R_reok rfl hy0 (fun k_ e_=>HO143.out.1 k_ e_)); replace HO146:=Aside0.mk (Kd.R_mono (ok':=fun k_=>some k_≠(.slice Ao11 t141.length co11:Value).ownBlock) (Kd.R_keptB (HO146.out) hkp (fun k_ hk_ hs_=>(hk_.2) hs_)) (fun k_ hk_=>hk_.1.2)); replace HB:=Aside0.mk (hb); (try clear hb); (try clear hkp); (try clear hy0)) | ((with_reducible refine zG 76 ?_); refine goesL_ (some 20) rfl rfl Tryd.func76 (by kernel_rfl) rfl #[.slice Ao11 t147.length co11] rfl (by (try simp only [List.map_toArray,List.map_cons,List.map_nil]); first | done | (rw [show t147.length=t141.length from (Kd.R_reads' HO143.out).1.symm]<;>rfl) | rfl | (simp only [List.length_drop,List.length_take]; rfl)) ?_; (with_reducible refine (nat_text.calls k _ _ t147 t148 _ ?side1 ?side2 A8.out).mono ?_); (case side1=>exact zC HO143); (case side2=>rw [show t147.length=t141.length from (Kd.R_reads' HO143.out).1.symm]; exact (Kd.R_reads' HO143.out).2.1); rintro e w14 ⟨rfl,hb⟩; refine ⟨_,rfl,?_⟩; replace HO143:=Aside0.mk (Kd.R_below (zO HO143) hb); replace HO146:=Aside0.mk (Kd.R_below (zO HO146) hb); replace HB:=zP hb; (try clear hb)))
 go_ret2
 exact ⟨zR,zB⟩
end Go.Proofs.YtmkgijiniopalaaDoor.B
