import Derived.Test.YtmkgijiniopalaaDoorYC0
import Derived.Test.YtmkgijiniopalaaDoorYA2
namespace Go.Proofs.YtmkgijiniopalaaDoor.C
open Go.RowKit Go.Proofs.YtmkgijiniopalaaDoor.Z Go.Proofs.YtmkgijiniopalaaDoor.A Go.Proofs.YtmkgijiniopalaaDoor.H Go.Proofs.YtmkgijiniopalaaDoor.B Go.Proofs.YtmkgijiniopalaaDoorW.PrintWords Go.Proofs.YtmkgijiniopalaaDoorW.PrintLast Go.Proofs.YtmkgijiniopalaaDoorW.PrintMore
attribute [local go_sem] max2_int min2_int max_two min_two max_three min_three max_four min_four
set_option linter.unusedVariables false
set_option linter.unusedSimpArgs false
set_option maxHeartbeats 8000000
set_option maxRecDepth 100000
mutual
def nat_Div.j0:Nat→ByteArray→ByteArray→Bool→Option (ByteArray × ByteArray × Int)
 | 0,_,_,_=>none
 | k+1,x0,x1,x20=>if x20=true then ((nat_short.f k x0).bind fun t141=>((nat_short.f k x1).bind fun t142=>(if t142=0 then (none) else ((nat_fromShort.f (IntKind.u64.wrap (Int.tdiv t141 t142))).bind fun t143=>((nat_short.f k x0).bind fun t144=>((nat_short.f k x1).bind fun t145=>(if t145=0 then (none) else ((nat_fromShort.f (Int.tmod t144 t145)).bind fun t146=>(some (t143,t146,0)))))))))) else ((nat_Cmp.f k x0 x1).bind fun t147=>(if t147 < 0 then (some ((⟨#[]⟩:ByteArray),x0,0)) else ((nat_words.f k x0).bind fun t148=>((nat_words.f k x1).bind fun t151=>(if (t151.length:Int)=1 then (nat_Div.l0 k t148 t151 0 (wrap64 ((t148.length:Int) - 1))) else ((nat_longq.f k t148 t151).bind fun bt160=>((nat_text.f k bt160.1).bind fun t166=>((nat_text.f k bt160.2).bind fun t167=>(some (t166,t167,0))))))))))
def nat_Div.l0:Nat→List Int→List Int→Int→Int→Option (ByteArray × ByteArray × Int)
 | 0,_,_,_,_=>none
 | k+1,x7,x8,x9,x10=>if x10≥0 then (if 0≤x10 then (if x10 < (x7.length:Int) then (if 0 < (x8.length:Int) then (if (IntKind.u64.wrap (rd x8 0))=0 then (none) else (nat_Div.l0 k (x7.set (x10:Int).toNat ((IntKind.u64.wrap (Int.tdiv (Go.bits .or .u64 (IntKind.u64.wrap (x9*4294967296)) (IntKind.u64.wrap (rd x7 x10))) (IntKind.u64.wrap (rd x8 0))))%4294967296)) x8 (Int.tmod (Go.bits .or .u64 (IntKind.u64.wrap (x9*4294967296)) (IntKind.u64.wrap (rd x7 x10))) (IntKind.u64.wrap (rd x8 0))) (wrap64 (x10 - 1)))) else (none)) else (none)) else (none)) else ((nat_text.f k x7).bind fun t158=>((nat_fromShort.f x9).bind fun t159=>(some (t158,t159,0))))
end
def nat_Div.f (k:Nat) (a0:ByteArray) (a1:ByteArray):Option (ByteArray × ByteArray × Int):=(nat_trim.f k a0).bind fun t139=>((nat_trim.f k a1).bind fun t140=>(if t140.toList=([]:List UInt8) then (some ((⟨#[]⟩:ByteArray),(⟨#[]⟩:ByteArray),12)) else (if (t139.size:Int)≤8 then (nat_Div.j0 k t139 t140 (decide ((t140.size:Int)≤8))) else (nat_Div.j0 k t139 t140 false))))
theorem nat_Div.mono_l:∀ k,(∀ y0 y1 y2,LeO (nat_Div.j0 k y0 y1 y2) (nat_Div.j0 (k+1) y0 y1 y2))∧(∀ y0 y1 y2 y3,LeO (nat_Div.l0 k y0 y1 y2 y3) (nat_Div.l0 (k+1) y0 y1 y2 y3))
 | 0=>⟨fun _ _ _ r h=>by simp [nat_Div.j0] at h,fun _ _ _ _ r h=>by simp [nat_Div.l0] at h⟩
 | k+1=>by
  obtain ⟨ih0,ih1⟩:=nat_Div.mono_l k
  refine ⟨?_,?_⟩
  ·intro y0 y1 y2
   unfold nat_Div.j0
   have m0:=@nat_Cmp.mono
   have m1:=@nat_longq.mono
   have m2:=@nat_short.mono
   have m3:=@nat_text.mono
   have m4:=@nat_trim.mono
   have m5:=@nat_words.mono
   exact zM
  intro y0 y1 y2 y3
  unfold nat_Div.l0
  have m0:=@nat_Cmp.mono
  have m1:=@nat_longq.mono
  have m2:=@nat_short.mono
  have m3:=@nat_text.mono
  have m4:=@nat_trim.mono
  have m5:=@nat_words.mono
  exact zM
theorem nat_Div.mono:∀ a0 a1 k,LeO (nat_Div.f k a0 a1) (nat_Div.f (k+1) a0 a1):=by
 intro a0 a1 k
 obtain ⟨ih0,ih1⟩:=nat_Div.mono_l k
 unfold nat_Div.f
 have m0:=@nat_Cmp.mono
 have m1:=@nat_longq.mono
 have m2:=@nat_short.mono
 have m3:=@nat_text.mono
 have m4:=@nat_trim.mono
 have m5:=@nat_words.mono
 exact zM
def nat_Div.T15:Bool × List (List Nat × List Nat):=(true,[([],[]),([],[]),([],[]),([],[]),([3],[3]),([4],[4]),([5],[5]),([2,6],[2,6]),([7],[7]),([],[]),([],[]),([10],[10]),([11],[11]),([12],[12]),([9,13],[9,13]),([0,1,0,1,2,3,4,5,6,7,8,12],[0,1]),([15,8,0,1,2,3,4,5,6,7,8,12],[8,15]),([14,16,0,1,2,3,4,5,6,7,8,9,10,11,12,13,14,15,16],[2,9,14])])
def nat_Div.B15:List Nat:=[0,0,0,0,8,24,56,124,252,0,0,1024,3072,7168,15872,7679,40447,131071]
theorem nat_Div.tab15:rtab .any (opsOf Tryd.f71 15)=nat_Div.T15:=by kernel_rfl
theorem nat_Div.bits15:waitsOk nat_Div.T15.2 nat_Div.B15=true:=by kernel_rfl
theorem nat_Div.calls (k:Nat) (a0:ByteArray) (a1:ByteArray) (r1:ByteArray) (r2:ByteArray) (r3:Int) (w:World) (h:nat_Div.f k a0 a1=some (r1,r2,r3)) :
 Calls Tryd.prog 71 #[.string a0,.string a1] w fun e w'=>e = .returned (.tuple #[.string r1,.string r2,.int .i64 r3])∧Below w.heap.size w w':=by
 have HB:=Aside0.mk (Below.refl w.heap.size w)
 unfold nat_Div.f at h
 have H:=h
 clear h
 obtain ⟨t139,A3,H⟩:=zH H
 obtain ⟨t140,A4,H⟩:=zH H
 by_cases c5:t140.toList=([]:List UInt8)
 ·rw [if_pos c5] at H
  have c5b0:(t140.toList==([]:List UInt8))=true:=beq_iff_eq.mpr c5
  have c5b1:(t140.toList != ([]:List UInt8))=false:=bne_eq_false_iff_eq.mpr c5
  clear c5
  simp only [Option.some.injEq,Prod.mk.injEq] at H
  obtain ⟨rfl,rfl,rfl⟩:=H
  go_enter Tryd.func71,Tryd.ntmps71
  go_wp2_with (first | ((with_reducible refine zG 72 ?_); refine zL 14 Tryd.func72 #[.string a0] ?_; (with_reducible refine (nat_trim.calls k a0 t139 _ A3.out).mono ?_); rintro e w' ⟨rfl,⟨nd,rfl⟩⟩; refine ⟨_,rfl,?_⟩) | ((with_reducible refine zG 72 ?_); refine zL 16 Tryd.func72 #[.string a1] ?_; (with_reducible refine (nat_trim.calls k a1 t140 _ A4.out).mono ?_); rintro e w' ⟨rfl,⟨nd,rfl⟩⟩; refine ⟨_,rfl,?_⟩))
  go_ret3
  exact ⟨zR,zB⟩
 rw [if_neg c5] at H
 have c5b0:(t140.toList==([]:List UInt8))=false:=beq_eq_false_iff_ne.mpr c5
 have c5b1:(t140.toList != ([]:List UInt8))=true:=bne_iff_ne.mpr c5
 have HC6:=Aside0.mk H
 clear H
 go_enter Tryd.func71,Tryd.ntmps71
 go_upto_region 4 with (first | ((with_reducible refine zG 72 ?_); refine zL 14 Tryd.func72 #[.string a0] ?_; (with_reducible refine (nat_trim.calls k a0 t139 _ A3.out).mono ?_); rintro e w' ⟨rfl,⟨nd,rfl⟩⟩; refine ⟨_,rfl,?_⟩) | ((with_reducible refine zG 72 ?_); refine zL 16 Tryd.func72 #[.string a1] ?_; (with_reducible refine (nat_trim.calls k a1 t140 _ A4.out).mono ?_); rintro e w' ⟨rfl,⟨nd,rfl⟩⟩; refine ⟨_,rfl,?_⟩))
 (try simp only [Act.put,List.setIfInBounds_toArray,List.set_cons_zero,List.set_cons_succ])
 go_cut [20] (fun v20 wc=>∃ (kq:Nat) (x20_5:Bool),v20 = .bool x20_5∧Aside0 (nat_Div.j0 kq t139 t140 x20_5=some (r1,r2,r3))∧Aside0 (kq≤k)∧Aside0 (Below w.heap.size w wc))
 case first =>
  have H:=HC6.out
  clear HC6
  by_cases c7:(t139.size:Int)≤8
  ·rw [if_pos c7] at H
   have c7b0:decide ((t139.size:Int)≤8)=true:=decide_eq_true c7
   have c7b1:decide (t139.size≤8)=true:=decide_eq_true (by omega)
   clear c7
   (first | rw [c7b0] | rw [c7b1] | (simp only [i64_w,i32_w]; rw [c7b0]) | skip)
   have H':=Aside0.mk H
   clear H
   go_wp2
   go_meet
   case rel=>exact ⟨_,(decide ((t140.size:Int)≤8)),zS,H',⟨by first | omega | exact Nat.le_refl _⟩,⟨zB⟩⟩
  rw [if_neg c7] at H
  have c7b0:decide ((t139.size:Int)≤8)=false:=decide_eq_false c7
  have c7b1:decide (t139.size≤8)=false:=decide_eq_false (by omega)
  clear c7
  (first | rw [c7b0] | rw [c7b1] | (simp only [i64_w,i32_w]; rw [c7b0]) | skip)
  have H':=Aside0.mk H
  clear H
  go_wp2
  go_meet
  case rel=>exact ⟨_,(false),zS,H',⟨by first | omega | exact Nat.le_refl _⟩,⟨zB⟩⟩
 case rest =>
  clear HC6
  try clear p2
  try clear c5
  try clear c5b0
  try clear c5b1
  try clear c7
  try clear c7b0
  try clear c7b1
  obtain ⟨kq,x20_5,rfl,HA,HJ5,HB⟩:=hcut
  cases kq with
  | zero=>exact absurd HA.out (by simp [nat_Div.j0])
  | succ kj5 =>
   have H:=HA.out
   clear HA
   simp only [nat_Div.j0] at H
   by_cases c8:x20_5=true
   ·subst c8
    have H1:((nat_short.f kj5 t139).bind fun t141=>((nat_short.f kj5 t140).bind fun t142=>(if t142=0 then (none) else ((nat_fromShort.f (IntKind.u64.wrap (Int.tdiv t141 t142))).bind fun t143=>((nat_short.f kj5 t139).bind fun t144=>((nat_short.f kj5 t140).bind fun t145=>(if t145=0 then (none) else ((nat_fromShort.f (Int.tmod t144 t145)).bind fun t146=>(some (t143,t146,0))))))))))=some (r1,r2,r3):=by rw [if_pos rfl] at H; exact H
    clear H
    have H:=H1
    clear H1
    obtain ⟨t141,A9,H⟩:=zH H
    obtain ⟨t142,A10,H⟩:=zH H
    by_cases c11:t142=0
    ·rw [if_pos c11] at H
     exact absurd H (by simp)
    rw [if_neg c11] at H
    have c11b0:(t142==0)=false:=beq_eq_false_iff_ne.mpr c11
    have c11b1:(t142 != 0)=true:=bne_iff_ne.mpr c11
    obtain ⟨t143,A12,H⟩:=zH H
    obtain ⟨t144,A13,H⟩:=zH H
    obtain ⟨t145,A14,H⟩:=zH H
    by_cases c15:t145=0
    ·rw [if_pos c15] at H
     exact absurd H (by simp)
    rw [if_neg c15] at H
    have c15b0:(t145==0)=false:=beq_eq_false_iff_ne.mpr c15
    have c15b1:(t145 != 0)=true:=bne_iff_ne.mpr c15
    obtain ⟨t146,A16,H⟩:=zH H
    simp only [Option.some.injEq,Prod.mk.injEq] at H
    obtain ⟨rfl,rfl,rfl⟩:=H
    go_wp2_with (first | ((with_reducible refine zG 74 ?_); refine zL 30 Tryd.func74 #[.string t139] ?_; (with_reducible refine (nat_short.calls kj5 t139 t141 _ A9.out).mono ?_); rintro e w' ⟨rfl,⟨nd,rfl⟩⟩; refine ⟨_,rfl,?_⟩) | ((with_reducible refine zG 74 ?_); refine zL 32 Tryd.func74 #[.string t140] ?_; (with_reducible refine (nat_short.calls kj5 t140 t142 _ A10.out).mono ?_); rintro e w' ⟨rfl,⟨nd,rfl⟩⟩; refine ⟨_,rfl,?_⟩) | ((with_reducible refine zG 73 ?_); refine zL 34 Tryd.func73 #[.int .u64 (IntKind.u64.wrap (Int.tdiv t141 t142))] ?_; (with_reducible refine (nat_fromShort.calls (IntKind.u64.wrap (Int.tdiv t141 t142)) t143 _ A12.out).mono ?_); rintro e w17 ⟨rfl,hb⟩; refine ⟨_,rfl,?_⟩; replace HB:=zP hb; (try clear hb)) | ((with_reducible refine zG 74 ?_); refine zL 36 Tryd.func74 #[.string t139] ?_; (with_reducible refine (nat_short.calls kj5 t139 t144 _ A13.out).mono ?_); rintro e w' ⟨rfl,⟨nd,rfl⟩⟩; refine ⟨_,rfl,?_⟩) | ((with_reducible refine zG 74 ?_); refine zL 38 Tryd.func74 #[.string t140] ?_; (with_reducible refine (nat_short.calls kj5 t140 t145 _ A14.out).mono ?_); rintro e w' ⟨rfl,⟨nd,rfl⟩⟩; refine ⟨_,rfl,?_⟩) | ((with_reducible refine zG 73 ?_); refine zL 40 Tryd.func73 #[.int .u64 (Int.tmod t144 t145)] ?_; (with_reducible refine (nat_fromShort.calls (Int.tmod t144 t145) t146 _ A16.out).mono ?_); rintro e w18 ⟨rfl,hb⟩; refine ⟨_,rfl,?_⟩; replace HB:=zP hb; (try clear hb)))
    go_ret3
    exact ⟨zR,zB⟩
   replace c8:=Bool.eq_false_iff.mpr c8
   subst c8
   have H1:((nat_Cmp.f kj5 t139 t140).bind fun t147=>(if t147 < 0 then (some ((⟨#[]⟩:ByteArray),t139,0)) else ((nat_words.f kj5 t139).bind fun t148=>((nat_words.f kj5 t140).bind fun t151=>(if (t151.length:Int)=1 then (nat_Div.l0 kj5 t148 t151 0 (wrap64 ((t148.length:Int) - 1))) else ((nat_longq.f kj5 t148 t151).bind fun bt160=>((nat_text.f kj5 bt160.1).bind fun t166=>((nat_text.f kj5 bt160.2).bind fun t167=>(some (t166,t167,0))))))))))=some (r1,r2,r3):=by rw [if_neg (show ¬ (false=true) by decide)] at H; exact H
   clear H
   have H:=H1
   clear H1
   obtain ⟨t147,A19,H⟩:=zH H
   by_cases c20:t147 < 0
   ·rw [if_pos c20] at H
    have c20b0:decide (t147 < 0)=true:=decide_eq_true c20
    clear c20
    simp only [Option.some.injEq,Prod.mk.injEq] at H
    obtain ⟨rfl,rfl,rfl⟩:=H
    go_wp2_with (first | ((with_reducible refine zG 65 ?_); refine zL 44 Tryd.func65 #[.string t139,.string t140] ?_; (with_reducible refine (nat_Cmp.calls kj5 t139 t140 t147 _ A19.out).mono ?_); rintro e w' ⟨rfl,⟨nd,rfl⟩⟩; refine ⟨_,rfl,?_⟩))
    go_ret3
    exact ⟨zR,zB⟩
   rw [if_neg c20] at H
   have c20b0:decide (t147 < 0)=false:=decide_eq_false c20
   clear c20
   obtain ⟨t148,A21,H⟩:=zH H
   obtain ⟨t151,A22,H⟩:=zH H
   by_cases c23:(t151.length:Int)=1
   rotate_left
   ·rw [if_neg c23] at H
    have c23b0:((t151.length:Int)==1)=false:=beq_eq_false_iff_ne.mpr c23
    have c23b1:((t151.length:Int) != 1)=true:=bne_iff_ne.mpr c23
    obtain ⟨⟨t160,t161⟩,A40,H⟩:=zH H
    obtain ⟨t166,A41,H⟩:=zH H
    obtain ⟨t167,A42,H⟩:=zH H
    simp only [Option.some.injEq,Prod.mk.injEq] at H
    obtain ⟨rfl,rfl,rfl⟩:=H
    go_wp2_with (first | ((with_reducible refine zG 65 ?_); refine zL 44 Tryd.func65 #[.string t139,.string t140] ?_; (with_reducible refine (nat_Cmp.calls kj5 t139 t140 t147 _ A19.out).mono ?_); rintro e w' ⟨rfl,⟨nd,rfl⟩⟩; refine ⟨_,rfl,?_⟩) | ((with_reducible refine zG 75 ?_); refine zL 48 Tryd.func75 #[.string t139] ?_; (with_reducible refine (nat_words.calls kj5 t139 t148 _ A21.out).mono ?_); rintro e w43 ⟨v149,rfl,ho0,hb⟩; refine ⟨_,rfl,?_⟩; have HO150:=Aside0.mk (Kd.R_lower ho0 (below_size zB)); replace HB:=zP hb; (try clear hb); (try clear ho0)) | ((with_reducible refine zG 75 ?_); refine zL 50 Tryd.func75 #[.string t140] ?_; (with_reducible refine (nat_words.calls kj5 t140 t151 _ A22.out).mono ?_); rintro e w44 ⟨v152,rfl,ho0,hb⟩; refine ⟨_,rfl,?_⟩; have HO153:=Aside0.mk (Kd.R_lower (Kd.R_new' ho0 (Kd.R_lt (zO HO150))) (below_size zB)); replace HO150:=Aside0.mk (Kd.R_elder' (zO HO150) (Kd.R_base ho0) hb); replace HB:=zP hb; (try clear hb); (try clear ho0); obtain ⟨Ao45,co45,eo45⟩:=Kd.R_slice HO153.out; subst eo45; obtain ⟨Ao46,co46,eo46⟩:=Kd.R_slice HO150.out; subst eo46) | ((with_reducible refine zG 83 ?_); refine zL 92 Tryd.func83 #[.slice Ao46 t148.length co46,.slice Ao45 t151.length co45] ?_; (with_reducible refine (nat_longq.calls kj5 _ _ t148 _ _ t151 t160 t161 _ ?side1 ?side2 ?side3 ?side4 A40.out).mono ?_); (case side1=>exact zC HO150); (case side2=>exact (Kd.R_reads' HO150.out).2.1); (case side3=>exact zC HO153); (case side4=>exact (Kd.R_reads' HO153.out).2.1); rintro e w47 ⟨v162,v164,rfl,ho0,ho1,hb⟩; refine ⟨_,rfl,?_⟩; have HO163:=Aside0.mk (Kd.R_lower (Kd.R_new' (Kd.R_new' ho0 (Kd.R_lt (zO HO150))) (Kd.R_lt (zO HO153))) (below_size zB)); have HO165:=Aside0.mk (Kd.R_lower (Kd.R_new' (Kd.R_new' ho1 (Kd.R_lt (zO HO150))) (Kd.R_lt (zO HO153))) (below_size zB)); replace HO150:=Aside0.mk (Kd.R_mono (Kd.R_told (Kd.R_told (Kd.R_old (zO HO150) hb) (Kd.R_base ho0)) (Kd.R_base ho1)) (fun _ h_=>h_.1)); replace HO153:=Aside0.mk (Kd.R_mono (Kd.R_told (Kd.R_told (Kd.R_old (zO HO153) hb) (Kd.R_base ho0)) (Kd.R_base ho1)) (fun _ h_=>h_.1)); replace HB:=zP hb; (try clear hb); (try clear ho0); (try clear ho1); obtain ⟨Ao48,co48,eo48⟩:=Kd.R_slice HO163.out; subst eo48) | ((with_reducible refine zG 76 ?_); refine zL 96 Tryd.func76 #[.slice Ao48 t160.length co48] ?_; (with_reducible refine (nat_text.calls kj5 _ _ t160 t166 _ ?side1 ?side2 A41.out).mono ?_); (case side1=>exact zC HO163); (case side2=>exact (Kd.R_reads' HO163.out).2.1); rintro e w49 ⟨rfl,hb⟩; refine ⟨_,rfl,?_⟩; replace HO150:=Aside0.mk (Kd.R_below (zO HO150) hb); replace HO153:=Aside0.mk (Kd.R_below (zO HO153) hb); replace HO163:=Aside0.mk (Kd.R_below (zO HO163) hb); replace HO165:=Aside0.mk (Kd.R_below (zO HO165) hb); replace HB:=zP hb; (try clear hb); obtain ⟨Ao50,co50,eo50⟩:=Kd.R_slice HO165.out; subst eo50) | ((with_reducible refine zG 76 ?_); refine zL 98 Tryd.func76 #[.slice Ao50 t161.length co50] ?_; (with_reducible refine (nat_text.calls kj5 _ _ t161 t167 _ ?side1 ?side2 A42.out).mono ?_); (case side1=>exact zC HO165); (case side2=>exact (Kd.R_reads' HO165.out).2.1); rintro e w51 ⟨rfl,hb⟩; refine ⟨_,rfl,?_⟩; replace HO150:=Aside0.mk (Kd.R_below (zO HO150) hb); replace HO153:=Aside0.mk (Kd.R_below (zO HO153) hb); replace HO163:=Aside0.mk (Kd.R_below (zO HO163) hb); replace HO165:=Aside0.mk (Kd.R_below (zO HO165) hb); replace HB:=zP hb; (try clear hb)))
    go_ret3
    exact ⟨zR,zB⟩
   rw [if_pos c23] at H
   have c23b0:((t151.length:Int)==1)=true:=beq_iff_eq.mpr c23
   have c23b1:((t151.length:Int) != 1)=false:=bne_eq_false_iff_eq.mpr c23
   clear c23
   have H':=Aside0.mk H
   clear H
   go_wp2_with (first | ((with_reducible refine zG 65 ?_); refine zL 44 Tryd.func65 #[.string t139,.string t140] ?_; (with_reducible refine (nat_Cmp.calls kj5 t139 t140 t147 _ A19.out).mono ?_); rintro e w' ⟨rfl,⟨nd,rfl⟩⟩; refine ⟨_,rfl,?_⟩) | ((with_reducible refine zG 75 ?_); refine zL 48 Tryd.func75 #[.string t139] ?_; (with_reducible refine (nat_words.calls kj5 t139 t148 _ A21.out).mono ?_); rintro e w24 ⟨v149,rfl,ho0,hb⟩; refine ⟨_,rfl,?_⟩; have HO150:=Aside0.mk (Kd.R_lower ho0 (below_size zB)); replace HB:=zP hb; (try clear hb); (try clear ho0)) | ((with_reducible refine zG 75 ?_); refine zL 50 Tryd.func75 #[.string t140] ?_; (with_reducible refine (nat_words.calls kj5 t140 t151 _ A22.out).mono ?_); rintro e w25 ⟨v152,rfl,ho0,hb⟩; refine ⟨_,rfl,?_⟩; have HO153:=Aside0.mk (Kd.R_lower (Kd.R_new' ho0 (Kd.R_lt (zO HO150))) (below_size zB)); replace HO150:=Aside0.mk (Kd.R_elder' (zO HO150) (Kd.R_base ho0) hb); replace HB:=zP hb; (try clear hb); (try clear ho0); obtain ⟨Ao26,co26,eo26⟩:=Kd.R_slice HO153.out; subst eo26; obtain ⟨Ao27,co27,eo27⟩:=Kd.R_slice HO150.out; subst eo27))
   go_loopg [9,10] kj5 (fun kq v9 v10 w'=>∃ (x7_2:List Int) (x9_2:Int) (x10_2:Int),v9 = .int .u64 x9_2∧v10 = .int .i64 x10_2∧Aside0 (nat_Div.l0 kq x7_2 t151 x9_2 x10_2=some (r1,r2,r3))∧Aside0 (kq≤kj5)∧Aside0 (Kd.R (Kd.int .u32) 89 w' w.heap.size (fun k_=>some k_≠((.slice Ao26 t151.length co26):Value).ownBlock) (.slice Ao27 t148.length co27) x7_2)∧Aside0 (Kd.R (Kd.int .u32) 89 w' w.heap.size (fun k_=>some k_≠((.slice Ao27 t148.length co27):Value).ownBlock) (.slice Ao26 t151.length co26) t151)∧Aside0 (Below w.heap.size w w'))
   case atStart=>exact ⟨(t148),(0),(wrap64 ((t148.length:Int) - 1)),zS,zS,H',⟨Nat.le_refl _⟩,⟨by (with_reducible repeat (first | apply Kd.R_alloc | apply Kd.R_drewN | apply Kd.R_drew)); exact Kd.R_mono HO150.out (fun _ hk=>hk.2)⟩,⟨by (with_reducible repeat (first | apply Kd.R_alloc | apply Kd.R_drewN | apply Kd.R_drew)); exact Kd.R_mono HO153.out (fun _ hk=>hk.2)⟩,⟨zB⟩⟩
   case round =>
    clear H'
    try clear c1
    try clear c2
    try clear p2
    try clear c5
    try clear c5b0
    try clear c5b1
    try clear c6
    try clear p6
    try clear c7
    try clear c7b0
    try clear c7b1
    try clear c8
    try clear c11
    try clear c11b0
    try clear c11b1
    try clear c15
    try clear c15b0
    try clear c15b1
    try clear c20
    try clear c20b0
    try clear c23
    try clear c23b0
    try clear c23b1
    try clear p2
    obtain ⟨x7_2,x9_2,x10_2,rfl,rfl,HA,HK2,HO_7,HO_8,HB⟩:=hrel
    have hl7_2:=(Kd.R_reads' HO_7.out).1
    rw [hl7_2] at HO_7
    (try simp only [hl7_2])
    (try simp only [hl7_2] at HO_8)
    cases gk with
    | zero=>exact absurd HA.out (by simp [nat_Div.l0])
    | succ k2 =>
     have H:=HA.out
     clear HA
     simp only [nat_Div.l0] at H
     by_cases c28:x10_2≥0
     rotate_left
     ·rw [if_neg c28] at H
      have c28b0:decide (0≤x10_2)=false:=decide_eq_false c28
      clear c28
      obtain ⟨t158,A36,H⟩:=zH H
      obtain ⟨t159,A37,H⟩:=zH H
      simp only [Option.some.injEq,Prod.mk.injEq] at H
      obtain ⟨rfl,rfl,rfl⟩:=H
      go_wp2_with (first | ((with_reducible refine zG 76 ?_); refine zL 86 Tryd.func76 #[.slice Ao27 x7_2.length co27] ?_; (with_reducible refine (nat_text.calls k2 _ _ x7_2 t158 _ ?side1 ?side2 A36.out).mono ?_); (case side1=>exact zC HO_7); (case side2=>exact (Kd.R_reads' HO_7.out).2.1); rintro e w38 ⟨rfl,hb⟩; refine ⟨_,rfl,?_⟩; replace HO_7:=Aside0.mk (Kd.R_below (zO HO_7) hb); replace HO_8:=Aside0.mk (Kd.R_below (zO HO_8) hb); replace HB:=zP hb; (try clear hb)) | ((with_reducible refine zG 73 ?_); refine zL 88 Tryd.func73 #[.int .u64 x9_2] ?_; (with_reducible refine (nat_fromShort.calls x9_2 t159 _ A37.out).mono ?_); rintro e w39 ⟨rfl,hb⟩; refine ⟨_,rfl,?_⟩; replace HO_7:=Aside0.mk (Kd.R_below (zO HO_7) hb); replace HO_8:=Aside0.mk (Kd.R_below (zO HO_8) hb); replace HB:=zP hb; (try clear hb)))
      go_ret3
      exact ⟨zR,zB⟩
     rw [if_pos c28] at H
     have c28b0:decide (0≤x10_2)=true:=decide_eq_true c28
     clear c28
     obtain ⟨c29b0,H⟩:=zF H
     obtain ⟨c30b0,H⟩:=zF H
     (try (have c30b0_0:=c30b0; simp only [hl7_2] at c30b0_0))
     by_cases c31:0 < (t151.length:Int)
     rotate_left
     ·rw [if_neg c31] at H
      exact absurd H (by simp)
     rw [if_pos c31] at H
     have c31b0:decide (0 < (t151.length:Int))=true:=decide_eq_true c31
     (try (have c31b0_0:=c31b0; simp only [hl7_2] at c31b0_0))
     have c31b1:decide (0 < t151.length)=true:=decide_eq_true (by omega)
     clear c31
     by_cases c32:(IntKind.u64.wrap (rd t151 0))=0
     ·rw [if_pos c32] at H
      exact absurd H (by simp)
     rw [if_neg c32] at H
     have c32b0:((IntKind.u64.wrap (rd t151 0))==0)=false:=beq_eq_false_iff_ne.mpr c32
     have c32b1:((IntKind.u64.wrap (rd t151 0)) != 0)=true:=bne_iff_ne.mpr c32
     obtain ⟨y157,Ny157⟩:∃ y_:List Int,Aside0 (y_=(x7_2.set (x10_2:Int).toNat ((IntKind.u64.wrap (Int.tdiv (Go.bits .or .u64 (IntKind.u64.wrap (x9_2*4294967296)) (IntKind.u64.wrap (rd x7_2 x10_2))) (IntKind.u64.wrap (rd t151 0))))%4294967296))):=⟨_,⟨rfl⟩⟩
     replace H:(nat_Div.l0 k2 y157 t151 (Int.tmod (Go.bits .or .u64 (IntKind.u64.wrap (x9_2*4294967296)) (IntKind.u64.wrap (rd x7_2 x10_2))) (IntKind.u64.wrap (rd t151 0))) (wrap64 (x10_2 - 1)))=some (r1,r2,r3):=zY Ny157 H
     have H':=Aside0.mk H
     clear H
     have p154:0≤(x10_2:Int):=zD
     have q154:x10_2 < (x7_2.length:Int):=zD
     obtain ⟨ad154,e154,hx154_0⟩:=Kd.at_int (Kd.R_reads' HO_7.out).2.2 x10_2 p154 q154
     cases e154
     replace p154:=eq_true p154
     replace q154:=eq_true q154
     try go_wp2
     have n0_:=Aside0.mk (Kd.R_drew HO_7.out)
     have n1_:=Aside0.mk (Kd.R_drew HO_8.out)
     have n2_:=Aside0.mk (below_drew1 HB.out)
     clear HO_7
     clear HO_8
     clear HB
     have HO_7:=n0_
     have HO_8:=n1_
     have HB:=n2_
     clear n0_ n1_ n2_
     have p155:0≤(0:Int):=(by omega)
     have q155:0 < (t151.length:Int):=zD
     obtain ⟨ad155,e155,hx155_0⟩:=Kd.at_int (Kd.R_reads' HO_8.out).2.2 0 p155 q155
     cases e155
     have qi155:(0 < t151.length)=True:=eq_true (by omega)
     (try rw [show ((0:Int)).toNat=0 from rfl] at hx155_0)
     (try rw [Addr.add_zero'] at hx155_0)
     replace p155:=eq_true p155
     replace q155:=eq_true q155
     have p156:0≤(0:Int):=(by omega)
     have q156:0 < (t151.length:Int):=zD
     obtain ⟨ad156,e156,hx156_0⟩:=Kd.at_int (Kd.R_reads' HO_8.out).2.2 0 p156 q156
     obtain rfl:ad155=ad156:=(by injection e156)
     have qi156:(0 < t151.length)=True:=eq_true (by omega)
     (try rw [show ((0:Int)).toNat=0 from rfl] at hx156_0)
     (try rw [Addr.add_zero'] at hx156_0)
     replace p156:=eq_true p156
     replace q156:=eq_true q156
     have p33:0≤(x10_2:Int):=zD
     have q33:(x10_2:Int) < ((x7_2.length:Int):Int):=zD
     obtain ⟨go33,co33,eo33,gb33,gl33,cl33,HG33⟩:=Kd.R_form HO_7.out (by omega)
     (first | cases eo33 | (injection eo33 with ea_ en_ ec_; (first | subst ea_ | (injection ea_ with ea_; subst ea_)); subst ec_; clear en_))
     have GB33:=Aside0.mk gb33
     have GG33:=Aside0.mk HG33
     clear gb33 gl33 HG33
     (first | simp only [add_plain] at hx154_0 | skip)
     obtain ⟨hx33_0,hf33_0⟩:=Kd.R_celln 0 HO_7.out (x10_2:Int) p33 q33
     replace p33:=eq_true p33
     replace q33:=eq_true q33
     have HP35:=Kd.R_putn HO_7.out (x10_2:Int) ((IntKind.u64.wrap (Int.tdiv (Go.bits .or .u64 (IntKind.u64.wrap (x9_2*4294967296)) (IntKind.u64.wrap (rd x7_2 x10_2))) (IntKind.u64.wrap (rd t151 0))))%4294967296)
     rw [← Ny157.out] at HP35
     have HQ35:=Aside0.mk HP35
     clear HP35
     refine start_ (n:=18) (S:=fun w'=>w'.cell? ad155=some (.int .u32 (rd t151 0))∧w'.cell? ad155=some (.int .u32 (rd t151 0))) (ds:=[16]) #[false,false,false,false,false,false,false,false,false,false,false,false,false,false,false,false,false,false] (by kernel_rfl) rfl rfl ⟨hx155_0,hx156_0⟩ (fun hHeld=>?_); refine with_tabW nat_Div.tab15 nat_Div.bits15 (fun HT_ HW_=>?_)
     generalize wr.drew=w34 at HO_7 HO_8 HB GG33 HQ35 hf33_0 hx154_0 hx155_0 hx156_0 hx33_0 hHeld ⊢
     refine zU 0 69 #[true,false,false,false,false,false,false,false,false,false,false,false,false,false,false,false,false,false] ?_
     refine zU 1 70 #[true,true,false,false,false,false,false,false,false,false,false,false,false,false,false,false,false,false] ?_
     refine zU 2 71 #[true,true,true,false,false,false,false,false,false,false,false,false,false,false,false,false,false,false] ?_
     refine zU 3 72 #[true,true,true,true,false,false,false,false,false,false,false,false,false,false,false,false,false,false] ?_
     refine zU 4 73 #[true,true,true,true,true,false,false,false,false,false,false,false,false,false,false,false,false,false] ?_
     refine zU 9 78 #[true,true,true,true,true,false,false,false,false,true,false,false,false,false,false,false,false,false] ?_
     refine zU 10 79 #[true,true,true,true,true,false,false,false,false,true,true,false,false,false,false,false,false,false] ?_
     refine zU 11 80 #[true,true,true,true,true,false,false,false,false,true,true,true,false,false,false,false,false,false] ?_
     refine take_ (i:=5) (N:=some 74) (v:=?_) (a':=?_) #[true,true,true,true,true,true,false,false,false,true,true,true,false,false,false,false,false,false] rfl rfl (take_ofW HT_.out HW_.out (by kernel_rfl)) (fun _ _ _ h=>h) (Or.inl ⟨by rfl,?_⟩) hHeld ?_ ?_
     rotate_left
     ·rintro w' ⟨s0,s1⟩
      go_simp
      with_reducible rfl
     rotate_left
     ·simp only [Act.put,List.setIfInBounds_toArray,List.set_cons_zero,List.set_cons_succ,i64_w,i32_w]
      rfl
     refine zU 6 75 #[true,true,true,true,true,true,true,false,false,true,true,true,false,false,false,false,false,false] ?_
     refine zU 7 76 #[true,true,true,true,true,true,true,true,false,true,true,true,false,false,false,false,false,false] ?_
     refine zU 8 77 #[true,true,true,true,true,true,true,true,true,true,true,true,false,false,false,false,false,false] ?_
     refine take_ (i:=12) (N:=some 81) (v:=?_) (a':=?_) #[true,true,true,true,true,true,true,true,true,true,true,true,true,false,false,false,false,false] rfl rfl (take_ofW HT_.out HW_.out (by kernel_rfl)) (fun _ _ _ h=>h) (Or.inl ⟨by rfl,?_⟩) hHeld ?_ ?_
     rotate_left
     ·rintro w' ⟨s0,s1⟩
      go_simp
      with_reducible rfl
     rotate_left
     ·simp only [Act.put,List.setIfInBounds_toArray,List.set_cons_zero,List.set_cons_succ,i64_w,i32_w]
      rfl
     refine zU 13 82 #[true,true,true,true,true,true,true,true,true,true,true,true,true,true,false,false,false,false] ?_
     refine zU 14 83 #[true,true,true,true,true,true,true,true,true,true,true,true,true,true,true,false,false,false] ?_
     refine zU 15 84 #[true,true,true,true,true,true,true,true,true,true,true,true,true,true,true,true,false,false] ?_
     refine last_ (i:=16) (N:=none) #[true,true,true,true,true,true,true,true,true,true,true,true,true,true,true,true,true,false] rfl rfl (one_of HT_.out (by kernel_rfl)) (by decide) (fun K hK=>?_)
     refine skip_ (w1:=?_) (by rfl) rfl ?_ ?_
     rotate_left
     ·go_simp
      rfl
     refine hK.out _ _ ?_
     clear hK K
     refine zU 17 9 #[true,true,true,true,true,true,true,true,true,true,true,true,true,true,true,true,true,true] ?_
     refine done_ (done_of HT_.out (by kernel_rfl)) ?_
     try go_wp2
     (try simp only [← hl7_2])
     go_roundg k2
     case measure=>have:=HJ5.out; have:=HK2.out; omega
     case rel=>exact ⟨(y157),(Int.tmod (Go.bits .or .u64 (IntKind.u64.wrap (x9_2*4294967296)) (IntKind.u64.wrap (rd x7_2 x10_2))) (IntKind.u64.wrap (rd t151 0))),(wrap64 (x10_2 - 1)),zS,zS,H',⟨by have:=HJ5.out; have:=HK2.out; omega⟩,⟨by (try simp only [hl7_2]); (with_reducible repeat (first | apply Kd.R_alloc | apply Kd.R_drewN | apply Kd.R_drew)); exact HQ35.out⟩,⟨by (try simp only [hl7_2]); (with_reducible repeat (first | apply Kd.R_alloc | apply Kd.R_drewN | apply Kd.R_drew)); exact Kd.R_mono (Kd.R_far (p:=⟨go33,(x10_2:Int).toNat,none⟩) (Kd.R_mono HO_8.out (fun k_ hk=>(⟨hk,fun e_=>hk (by rw [e_]; rfl)⟩:_∧k_≠go33))) (fun _ hk=>hk.2) (.int .u32 ((IntKind.u64.wrap (Int.tdiv (Go.bits .or .u64 (IntKind.u64.wrap (x9_2*4294967296)) (IntKind.u64.wrap (rd x7_2 x10_2))) (IntKind.u64.wrap (rd t151 0))))%4294967296))) (fun _ hk=>hk.1)⟩,⟨by repeat (first | (with_reducible first | exact HB.out | apply below_alloc | apply pw_below_drewN | apply below_drew1 | refine below_set ?_ GB33.out) | exact HB.out)⟩⟩
end Go.Proofs.YtmkgijiniopalaaDoor.C
