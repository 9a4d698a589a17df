import Derived.Test.YtmkgijiniopalaaDoorYC0
import Derived.Test.YtmkgijiniopalaaDoorYA2
namespace Go.Proofs.YtmkgijiniopalaaDoor.C
open Go.RowKit Go.Proofs.YtmkgijiniopalaaDoor.Z Go.Proofs.YtmkgijiniopalaaDoor.A Go.Proofs.YtmkgijiniopalaaDoor.H Go.Proofs.YtmkgijiniopalaaDoor.B Go.Proofs.YtmkgijiniopalaaDoorW.PrintWords Go.Proofs.YtmkgijiniopalaaDoorW.PrintLast Go.Proofs.YtmkgijiniopalaaDoorW.PrintMore
attribute [local go_sem] max2_int min2_int max_two min_two max_three min_three max_four min_four
set_option linter.unusedVariables false
set_option linter.unusedSimpArgs false
set_option maxHeartbeats 8000000
set_option maxRecDepth 100000
mutual
def nat_Mul.l0:Nat→List Int→List Int→List Int→Int→Int→Option (ByteArray)
 | 0,_,_,_,_,_=>none
 | k+1,x6,x7,x39,x40,x41=>if x41 < x40 then (if 0≤x41 then (if x41 < (x39.length:Int) then (nat_Mul.l1 k x6 x7 x41 (rd x39 x41) 0 x39 x40 x41 x6 (x6.length:Int) 0) else (none)) else (none)) else ((nat_text.f k x7).bind fun t130=>(some t130))
def nat_Mul.l1:Nat→List Int→List Int→Int→Int→Int→List Int→Int→Int→List Int→Int→Int→Option (ByteArray)
 | 0,_,_,_,_,_,_,_,_,_,_,_=>none
 | k+1,x6,x7,x8,x9,x10,x39,x40,x41,x46,x47,x48=>if x48 < x47 then (if 0≤x48 then (if x48 < (x46.length:Int) then (if 0≤(wrap64 (x8+x48)) then (if (wrap64 (x8+x48)) < (x7.length:Int) then (nat_Mul.l1 k x6 (x7.set ((wrap64 (x8+x48)):Int).toNat ((IntKind.u64.wrap (x10+(IntKind.u64.wrap ((IntKind.u64.wrap ((IntKind.u64.wrap (x9))*(IntKind.u64.wrap (rd x46 x48))))+(IntKind.u64.wrap (rd x7 (wrap64 (x8+x48))))))))%4294967296)) x8 x9 ((IntKind.u64.wrap (x10+(IntKind.u64.wrap ((IntKind.u64.wrap ((IntKind.u64.wrap (x9))*(IntKind.u64.wrap (rd x46 x48))))+(IntKind.u64.wrap (rd x7 (wrap64 (x8+x48))))))))/4294967296) x39 x40 x41 x46 x47 (wrap64 (x48+1))) else (none)) else (none)) else (none)) else (none)) else (if 0≤(wrap64 (x8+(x6.length:Int))) then (if (wrap64 (x8+(x6.length:Int))) < (x7.length:Int) then (nat_Mul.l0 k x6 (x7.set ((wrap64 (x8+(x6.length:Int))):Int).toNat ((x10)%4294967296)) x39 x40 (wrap64 (x41+1))) else (none)) else (none))
end
def nat_Mul.f (k:Nat) (a0:ByteArray) (a1:ByteArray):Option (ByteArray):=(nat_trim.f k a0).bind fun t116=>((nat_trim.f k a1).bind fun t117=>(if (wrap64 ((t116.size:Int)+(t117.size:Int)))≤8 then ((nat_short.f k t116).bind fun t118=>((nat_short.f k t117).bind fun t119=>((nat_fromShort.f (IntKind.u64.wrap (t118*t119))).bind fun t120=>(some t120)))) else ((nat_words.f k t116).bind fun t121=>((nat_words.f k t117).bind fun t124=>(if 0≤(wrap64 ((t121.length:Int)+(t124.length:Int))) then (if (wrap64 ((t121.length:Int)+(t124.length:Int)):Int).toNat≤70368744177664 then (nat_Mul.l0 k t124 (List.replicate (wrap64 ((t121.length:Int)+(t124.length:Int)):Int).toNat 0) t121 (t121.length:Int) 0) else (none)) else (none))))))
theorem nat_Mul.mono_l:∀ k,(∀ y0 y1 y2 y3 y4,LeO (nat_Mul.l0 k y0 y1 y2 y3 y4) (nat_Mul.l0 (k+1) y0 y1 y2 y3 y4))∧(∀ y0 y1 y2 y3 y4 y5 y6 y7 y8 y9 y10,LeO (nat_Mul.l1 k y0 y1 y2 y3 y4 y5 y6 y7 y8 y9 y10) (nat_Mul.l1 (k+1) y0 y1 y2 y3 y4 y5 y6 y7 y8 y9 y10))
 | 0=>⟨fun _ _ _ _ _ r h=>by simp [nat_Mul.l0] at h,fun _ _ _ _ _ _ _ _ _ _ _ r h=>by simp [nat_Mul.l1] at h⟩
 | k+1=>by
  obtain ⟨ih0,ih1⟩:=nat_Mul.mono_l k
  refine ⟨?_,?_⟩
  ·intro y0 y1 y2 y3 y4
   unfold nat_Mul.l0
   have m0:=@nat_short.mono
   have m1:=@nat_text.mono
   have m2:=@nat_trim.mono
   have m3:=@nat_words.mono
   exact zM
  intro y0 y1 y2 y3 y4 y5 y6 y7 y8 y9 y10
  unfold nat_Mul.l1
  have m0:=@nat_short.mono
  have m1:=@nat_text.mono
  have m2:=@nat_trim.mono
  have m3:=@nat_words.mono
  exact zM
theorem nat_Mul.mono:∀ a0 a1 k,LeO (nat_Mul.f k a0 a1) (nat_Mul.f (k+1) a0 a1):=by
 intro a0 a1 k
 obtain ⟨ih0,ih1⟩:=nat_Mul.mono_l k
 unfold nat_Mul.f
 have m0:=@nat_short.mono
 have m1:=@nat_text.mono
 have m2:=@nat_trim.mono
 have m3:=@nat_words.mono
 exact zM
theorem nat_Mul.calls (k:Nat) (a0:ByteArray) (a1:ByteArray) (r:ByteArray) (w:World) (h:nat_Mul.f k a0 a1=some r) :
 Calls Tryd.prog 52 #[.string a0,.string a1] w fun e w'=>e = .returned (.string r)∧Below w.heap.size w w':=by
 have HB:=Aside0.mk (Below.refl w.heap.size w)
 unfold nat_Mul.f at h
 have H:=h
 clear h
 obtain ⟨t116,A3,H⟩:=zH H
 obtain ⟨t117,A4,H⟩:=zH H
 by_cases c5:(wrap64 ((t116.size:Int)+(t117.size:Int)))≤8
 ·rw [if_pos c5] at H
  have c5b0:decide ((wrap64 ((t116.size:Int)+(t117.size:Int)))≤8)=true:=decide_eq_true c5
  clear c5
  obtain ⟨t118,A6,H⟩:=zH H
  obtain ⟨t119,A7,H⟩:=zH H
  obtain ⟨t120,A8,H⟩:=zH H
  obtain rfl:=Option.some.inj H
  go_enter Tryd.func52,Tryd.ntmps52
  go_wp2_with (first | ((with_reducible refine zG 72 ?_); refine zL 14 Tryd.func72 #[.string a0] ?_; (with_reducible refine (nat_trim.calls k a0 t116 _ A3.out).mono ?_); rintro e w' ⟨rfl,⟨nd,rfl⟩⟩; refine ⟨_,rfl,?_⟩) | ((with_reducible refine zG 72 ?_); refine zL 16 Tryd.func72 #[.string a1] ?_; (with_reducible refine (nat_trim.calls k a1 t117 _ A4.out).mono ?_); rintro e w' ⟨rfl,⟨nd,rfl⟩⟩; refine ⟨_,rfl,?_⟩) | ((with_reducible refine zG 74 ?_); refine zL 24 Tryd.func74 #[.string t116] ?_; (with_reducible refine (nat_short.calls k t116 t118 _ A6.out).mono ?_); rintro e w' ⟨rfl,⟨nd,rfl⟩⟩; refine ⟨_,rfl,?_⟩) | ((with_reducible refine zG 74 ?_); refine zL 26 Tryd.func74 #[.string t117] ?_; (with_reducible refine (nat_short.calls k t117 t119 _ A7.out).mono ?_); rintro e w' ⟨rfl,⟨nd,rfl⟩⟩; refine ⟨_,rfl,?_⟩) | ((with_reducible refine zG 73 ?_); refine zL 28 Tryd.func73 #[.int .u64 (IntKind.u64.wrap (t118*t119))] ?_; (with_reducible refine (nat_fromShort.calls (IntKind.u64.wrap (t118*t119)) t120 _ A8.out).mono ?_); rintro e w9 ⟨rfl,hb⟩; refine ⟨_,rfl,?_⟩; replace HB:=zP hb; (try clear hb)))
  go_ret
  exact ⟨zR,zB⟩
 rw [if_neg c5] at H
 have c5b0:decide ((wrap64 ((t116.size:Int)+(t117.size:Int)))≤8)=false:=decide_eq_false c5
 clear c5
 obtain ⟨t121,A10,H⟩:=zH H
 obtain ⟨t124,A11,H⟩:=zH H
 generalize hji12:(wrap64 ((t121.length:Int)+(t124.length:Int)))=ji12 at H
 (try rw [hji12] at A3)
 (try rw [hji12] at A4)
 (try rw [hji12] at A10)
 (try rw [hji12] at A11)
 have hji12w:(IntKind.i64.wrap ((t121.length:Int)+(t124.length:Int)))=ji12:=(i64_w _).trans hji12
 obtain ⟨c13b0,c13b1,H⟩:=zE H
 obtain ⟨c14b0,c14b1,H⟩:=zE H
 obtain ⟨y127,Ny127⟩:∃ y_:List Int,Aside0 (y_=(List.replicate (ji12:Int).toNat 0)):=⟨_,⟨rfl⟩⟩
 replace H:(nat_Mul.l0 k t124 y127 t121 (t121.length:Int) 0)=some r:=zY Ny127 H
 have H':=Aside0.mk H
 clear H
 go_enter Tryd.func52,Tryd.ntmps52
 go_wp2_with (first | ((with_reducible refine zG 72 ?_); refine zL 14 Tryd.func72 #[.string a0] ?_; (with_reducible refine (nat_trim.calls k a0 t116 _ A3.out).mono ?_); rintro e w' ⟨rfl,⟨nd,rfl⟩⟩; refine ⟨_,rfl,?_⟩) | ((with_reducible refine zG 72 ?_); refine zL 16 Tryd.func72 #[.string a1] ?_; (with_reducible refine (nat_trim.calls k a1 t117 _ A4.out).mono ?_); rintro e w' ⟨rfl,⟨nd,rfl⟩⟩; refine ⟨_,rfl,?_⟩) | ((with_reducible refine zG 75 ?_); refine zL 30 Tryd.func75 #[.string t116] ?_; (with_reducible refine (nat_words.calls k t116 t121 _ A10.out).mono ?_); rintro e w15 ⟨v122,rfl,ho0,hb⟩; refine ⟨_,rfl,?_⟩; have HO123:=Aside0.mk (Kd.R_lower ho0 (below_size zB)); replace HB:=zP hb; (try clear hb); (try clear ho0)) | ((with_reducible refine zG 75 ?_); refine zL 32 Tryd.func75 #[.string t117] ?_; (with_reducible refine (nat_words.calls k t117 t124 _ A11.out).mono ?_); rintro e w16 ⟨v125,rfl,ho0,hb⟩; refine ⟨_,rfl,?_⟩; have HO126:=Aside0.mk (Kd.R_lower (Kd.R_new' ho0 (Kd.R_lt (zO HO123))) (below_size zB)); replace HO123:=Aside0.mk (Kd.R_elder' (zO HO123) (Kd.R_base ho0) hb); replace HB:=zP hb; (try clear hb); (try clear ho0); obtain ⟨Ao17,co17,eo17⟩:=Kd.R_slice HO123.out; subst eo17; obtain ⟨Ao18,co18,eo18⟩:=Kd.R_slice HO126.out; subst eo18) | ((with_reducible refine gate_dst (N:=38) rfl ?_); refine Kd.R_make (Kd.int .u32) _ 89 rfl (N:=38) rfl 47 _ _ rfl ji12 rfl rfl Tryd.underlying47 (.int .u32 0) 4 info89 rfl (by decide) (by omega) 0 (ok:=fun _=>True) (okp:=fun _=>True) rfl zI trivial zD (Nat.le_trans (Nat.mul_le_mul_right _ (zD:ji12.toNat≤70368744177664)) (by omega)) (Below.refl _ _) (Nat.le_refl _) ?_; intro v128 w19 ho20 hb hg_ hnew_; clear hg_ hnew_; (first | rw [← Ny127.out] at ho20 | (simp only [Int.reduceToNat] at ho20; rw [← Ny127.out] at ho20)); have HO129:=Aside0.mk (Kd.R_lower (Kd.R_new' (Kd.R_new' ho20 (Kd.R_lt (zO HO123))) (Kd.R_lt (zO HO126))) (below_size zB)); replace HO123:=Aside0.mk (Kd.R_elder' (zO HO123) (Kd.R_base ho20) hb); replace HO126:=Aside0.mk (Kd.R_elder' (zO HO126) (Kd.R_base ho20) hb); replace HB:=zP hb; clear hb ho20))
 go_loopg [41] k (fun kq v41 w'=>∃ (x7_1:List Int) (x41_1:Int),v41 = .int .i64 x41_1∧Aside0 (nat_Mul.l0 kq t124 x7_1 t121 (t121.length:Int) x41_1=some r)∧Aside0 (kq≤k)∧Aside0 (Kd.R (Kd.int .u32) 89 w' w.heap.size (fun k_=>some k_≠(v128:Value).ownBlock∧some k_≠((.slice Ao17 t121.length co17):Value).ownBlock) (.slice Ao18 t124.length co18) t124)∧Aside0 (Kd.R (Kd.int .u32) 89 w' w.heap.size (fun k_=>some k_≠((.slice Ao18 t124.length co18):Value).ownBlock∧some k_≠((.slice Ao17 t121.length co17):Value).ownBlock) v128 x7_1)∧Aside0 (Kd.R (Kd.int .u32) 89 w' w.heap.size (fun k_=>some k_≠((.slice Ao18 t124.length co18):Value).ownBlock∧some k_≠(v128:Value).ownBlock) (.slice Ao17 t121.length co17) t121)∧Aside0 (Below w.heap.size w w'))
 case atStart=>exact ⟨(y127),(0),zS,H',⟨Nat.le_refl _⟩,⟨by (with_reducible repeat (first | apply Kd.R_alloc | apply Kd.R_drewN | apply Kd.R_drew)); exact Kd.R_mono HO126.out (fun _ hk=>⟨hk.2,hk.1.2⟩)⟩,⟨by (with_reducible repeat (first | apply Kd.R_alloc | apply Kd.R_drewN | apply Kd.R_drew)); exact Kd.R_mono HO129.out (fun _ hk=>⟨hk.2,hk.1.2⟩)⟩,⟨by (with_reducible repeat (first | apply Kd.R_alloc | apply Kd.R_drewN | apply Kd.R_drew)); exact Kd.R_mono HO123.out (fun _ hk=>⟨hk.1.2,hk.2⟩)⟩,⟨zB⟩⟩
 case round =>
  clear H'
  try clear c1
  try clear p2
  try clear c5
  try clear c5b0
  try clear p6
  try clear c7
  try clear c13
  try clear c13b0
  try clear c13b1
  try clear c14
  try clear c14b0
  try clear c14b1
  obtain ⟨x7_1,x41_1,rfl,HA,HK1,HO_6,HO_7,HO_39,HB⟩:=hrel
  cases gk with
  | zero=>exact absurd HA.out (by simp [nat_Mul.l0])
  | succ k1 =>
   have H:=HA.out
   clear HA
   simp only [nat_Mul.l0] at H
   by_cases c21:x41_1 < (t121.length:Int)
   rotate_left
   ·rw [if_neg c21] at H
    have c21b0:decide (x41_1 < (t121.length:Int))=false:=decide_eq_false c21
    clear c21
    obtain ⟨t130,A40,H⟩:=zH H
    obtain rfl:=Option.some.inj H
    obtain ⟨Ao41,co41,eo41⟩:=Kd.R_slice HO_7.out
    subst eo41
    go_wp2_with (first | ((with_reducible refine zG 76 ?_); refine zL 88 Tryd.func76 #[.slice Ao41 x7_1.length co41] ?_; (with_reducible refine (nat_text.calls k1 _ _ x7_1 t130 _ ?side1 ?side2 A40.out).mono ?_); (case side1=>exact zC HO_7); (case side2=>exact (Kd.R_reads' HO_7.out).2.1); rintro e w42 ⟨rfl,hb⟩; refine ⟨_,rfl,?_⟩; replace HO_6:=Aside0.mk (Kd.R_below (zO HO_6) hb); replace HO_7:=Aside0.mk (Kd.R_below (zO HO_7) hb); replace HO_39:=Aside0.mk (Kd.R_below (zO HO_39) hb); replace HB:=zP hb; (try clear hb)))
    go_ret
    exact ⟨zQ hji12,zB⟩
   rw [if_pos c21] at H
   have c21b0:decide (x41_1 < (t121.length:Int))=true:=decide_eq_true c21
   clear c21
   obtain ⟨c22b0,H⟩:=zF H
   obtain ⟨c23b0,H⟩:=zF H
   have H':=Aside0.mk H
   clear H
   have p131:0≤(x41_1:Int):=zD
   have q131:x41_1 < (t121.length:Int):=zD
   obtain ⟨ad131,e131,hx131_0⟩:=Kd.at_int (Kd.R_reads' HO_39.out).2.2 x41_1 p131 q131
   cases e131
   replace p131:=eq_true p131
   replace q131:=eq_true q131
   go_wp2
   go_loopg [10,48] k1 (fun kq v10 v48 w'=>∃ (x7_2:List Int) (x10_2:Int) (x48_2:Int),v10 = .int .u64 x10_2∧v48 = .int .i64 x48_2∧Aside0 (nat_Mul.l1 kq t124 x7_2 x41_1 (rd t121 x41_1) x10_2 t121 (t121.length:Int) x41_1 t124 (t124.length:Int) x48_2=some r)∧Aside0 (kq≤k1)∧Aside0 (Kd.R (Kd.int .u32) 89 w' w.heap.size (fun k_=>some k_≠(v128:Value).ownBlock∧some k_≠((.slice (some ad131) t121.length co17):Value).ownBlock) (.slice Ao18 t124.length co18) t124)∧Aside0 (Kd.R (Kd.int .u32) 89 w' w.heap.size (fun k_=>some k_≠((.slice Ao18 t124.length co18):Value).ownBlock∧some k_≠((.slice (some ad131) t121.length co17):Value).ownBlock∧some k_≠((.slice Ao18 t124.length co18):Value).ownBlock) v128 x7_2)∧Aside0 (Kd.R (Kd.int .u32) 89 w' w.heap.size (fun k_=>some k_≠((.slice Ao18 t124.length co18):Value).ownBlock∧some k_≠(v128:Value).ownBlock∧some k_≠((.slice Ao18 t124.length co18):Value).ownBlock) (.slice (some ad131) t121.length co17) t121)∧Aside0 (Kd.R (Kd.int .u32) 89 w' w.heap.size (fun k_=>some k_≠(v128:Value).ownBlock∧some k_≠((.slice (some ad131) t121.length co17):Value).ownBlock) (.slice Ao18 t124.length co18) t124)∧Aside0 (Below w.heap.size w w'))
   case atStart=>exact ⟨(x7_1),(0),(0),zS,zS,H',⟨Nat.le_refl _⟩,⟨zO HO_6⟩,⟨by (with_reducible repeat (first | apply Kd.R_alloc | apply Kd.R_drewN | apply Kd.R_drew)); exact Kd.R_mono HO_7.out (fun _ hk=>⟨hk.1,⟨hk.2,hk.1⟩⟩)⟩,⟨by (with_reducible repeat (first | apply Kd.R_alloc | apply Kd.R_drewN | apply Kd.R_drew)); exact Kd.R_mono HO_39.out (fun _ hk=>⟨hk.1,⟨hk.2,hk.1⟩⟩)⟩,⟨zO HO_6⟩,⟨zB⟩⟩
   case round =>
    clear H'
    try clear c1
    try clear p1
    try clear q1
    try clear hx1
    try clear c2
    try clear p2
    try clear c5
    try clear c5b0
    try clear p6
    try clear c7
    try clear c13
    try clear c13b0
    try clear c13b1
    try clear p13
    try clear q13
    try clear hx13
    try clear c14
    try clear c14b0
    try clear c14b1
    try clear c21
    try clear c21b0
    try clear c22
    try clear c22b0
    try clear c23
    try clear c23b0
    try clear hx131_0
    try clear p131
    try clear p2
    try clear p6
    try clear q131
    obtain ⟨x7_2,x10_2,x48_2,rfl,rfl,HA,HK2,HO_6,HO_7,HO_39,HO_46,HB⟩:=hrel
    cases gk with
    | zero=>exact absurd HA.out (by simp [nat_Mul.l1])
    | succ k2 =>
     have H:=HA.out
     clear HA
     simp only [nat_Mul.l1] at H
     by_cases c24:x48_2 < (t124.length:Int)
     ·rw [if_pos c24] at H
      have c24b0:decide (x48_2 < (t124.length:Int))=true:=decide_eq_true c24
      clear c24
      obtain ⟨c25b0,H⟩:=zF H
      obtain ⟨c26b0,H⟩:=zF H
      generalize hji27:(wrap64 (x41_1+x48_2))=ji27 at H
      have hji27w:(IntKind.i64.wrap (x41_1+x48_2))=ji27:=(i64_w _).trans hji27
      obtain ⟨c28b0,H⟩:=zF H
      obtain ⟨c29b0,H⟩:=zF H
      obtain ⟨y134,Ny134⟩:∃ y_:List Int,Aside0 (y_=(x7_2.set ((ji27):Int).toNat ((IntKind.u64.wrap (x10_2+(IntKind.u64.wrap ((IntKind.u64.wrap ((IntKind.u64.wrap ((rd t121 x41_1)))*(IntKind.u64.wrap (rd t124 x48_2))))+(IntKind.u64.wrap (rd x7_2 (ji27)))))))%4294967296))):=⟨_,⟨rfl⟩⟩
      replace H:(nat_Mul.l1 k2 t124 y134 x41_1 (rd t121 x41_1) ((IntKind.u64.wrap (x10_2+(IntKind.u64.wrap ((IntKind.u64.wrap ((IntKind.u64.wrap ((rd t121 x41_1)))*(IntKind.u64.wrap (rd t124 x48_2))))+(IntKind.u64.wrap (rd x7_2 (ji27)))))))/4294967296) t121 (t121.length:Int) x41_1 t124 (t124.length:Int) (wrap64 (x48_2+1)))=some r:=zY Ny134 H
      have H':=Aside0.mk H
      clear H
      have p132:0≤(x48_2:Int):=zD
      have q132:x48_2 < (t124.length:Int):=zD
      obtain ⟨ad132,e132,hx132_0⟩:=Kd.at_int (Kd.R_reads' HO_46.out).2.2 x48_2 p132 q132
      cases e132
      replace p132:=eq_true p132
      replace q132:=eq_true q132
      obtain ⟨Ao31,co31,eo31⟩:=Kd.R_slice HO_7.out
      subst eo31
      have p133:0≤((ji27):Int):=zD
      have q133:(ji27) < (x7_2.length:Int):=zD
      obtain ⟨ad133,e133,hx133_0⟩:=Kd.at_int (Kd.R_reads' HO_7.out).2.2 (ji27) p133 q133
      cases e133
      replace p133:=eq_true p133
      replace q133:=eq_true q133
      have p30:0≤((ji27):Int):=zD
      have q30:((ji27):Int) < ((x7_2.length:Int):Int):=zD
      obtain ⟨go30,co30,eo30,gb30,gl30,cl30,HG30⟩:=Kd.R_form HO_7.out (by omega)
      (first | cases eo30 | (injection eo30 with ea_ en_ ec_; (first | subst ea_ | (injection ea_ with ea_; subst ea_)); subst ec_; clear en_))
      have GB30:=Aside0.mk gb30
      have GG30:=Aside0.mk HG30
      clear gb30 gl30 HG30
      (first | simp only [add_plain] at hx133_0 | skip)
      obtain ⟨hx30_0,hf30_0⟩:=Kd.R_celln 0 HO_7.out ((ji27):Int) p30 q30
      replace p30:=eq_true p30
      replace q30:=eq_true q30
      have HP32:=Kd.R_putg HO_7.out ((ji27):Int) ((IntKind.u64.wrap (x10_2+(IntKind.u64.wrap ((IntKind.u64.wrap ((IntKind.u64.wrap ((rd t121 x41_1)))*(IntKind.u64.wrap (rd t124 x48_2))))+(IntKind.u64.wrap (rd x7_2 (ji27)))))))%4294967296)
      go_wp2_with (first | ((with_reducible refine gate_store (t:=89) (p:=74) rfl ?_); refine store_event (t:=89) (p:=74) (v:=?vo_w33) (w1:=(wr.setCell ⟨go30,((ji27):Int).toNat,none⟩ (.int .u32 ((IntKind.u64.wrap (x10_2+(IntKind.u64.wrap ((IntKind.u64.wrap ((IntKind.u64.wrap ((rd t121 x41_1)))*(IntKind.u64.wrap (rd t124 x48_2))))+(IntKind.u64.wrap (rd x7_2 (ji27)))))))%4294967296)))) ?hg ?ho ?hn ?hr ?_; (case ho=>rfl); (case hg=>rfl); (case hn=>rfl); (case hr=>first | (go_simp; done) | (go_simp; rfl)); intro w33 hw; have hg:wr.grownBy w33 (some go30):=(by rw [hw]; exact HP32.2); have hp_:Kd.R (Kd.int .u32) 89 w33 w.heap.size (fun k_=>some k_≠(.slice (some ad132) t124.length co18:Value).ownBlock∧some k_≠(.slice (some ad131) t121.length co17:Value).ownBlock∧some k_≠(.slice (some ad132) t124.length co18:Value).ownBlock) (.slice (some ⟨go30,0,none⟩) x7_2.length co31) y134:=(by rw [hw,Ny134.out]; exact HP32.1); clear HP32; replace HO_6:=Aside0.mk (Kd.R_after (v:=(.slice (some ⟨go30,0,none⟩) x7_2.length co31)) (v1:=(.slice (some ⟨go30,0,none⟩) x7_2.length co31)) (ok:=(fun k_=>some k_≠(.slice (some ad131) t121.length co17:Value).ownBlock)) (by (with_reducible repeat (first | apply Kd.R_alloc | apply Kd.R_drewN | apply Kd.R_drew)); exact Kd.R_mono HO_6.out (fun _ hk=>⟨hk.2,hk.1⟩)) hg (.inl rfl)); replace HO_7:=Aside0.mk (hp_); replace HO_39:=Aside0.mk (Kd.R_after (v:=(.slice (some ⟨go30,0,none⟩) x7_2.length co31)) (v1:=(.slice (some ⟨go30,0,none⟩) x7_2.length co31)) (ok:=(fun k_=>some k_≠(.slice (some ad132) t124.length co18:Value).ownBlock∧some k_≠(.slice (some ad132) t124.length co18:Value).ownBlock)) (by (with_reducible repeat (first | apply Kd.R_alloc | apply Kd.R_drewN | apply Kd.R_drew)); exact Kd.R_mono HO_39.out (fun _ hk=>⟨⟨hk.1,hk.2.2⟩,hk.2.1⟩)) hg (.inl rfl)); replace HO_46:=Aside0.mk (Kd.R_after (v:=(.slice (some ⟨go30,0,none⟩) x7_2.length co31)) (v1:=(.slice (some ⟨go30,0,none⟩) x7_2.length co31)) (ok:=(fun k_=>some k_≠(.slice (some ad131) t121.length co17:Value).ownBlock)) (by (with_reducible repeat (first | apply Kd.R_alloc | apply Kd.R_drewN | apply Kd.R_drew)); exact Kd.R_mono HO_46.out (fun _ hk=>⟨hk.2,hk.1⟩)) hg (.inl rfl)); replace HB:=Aside0.mk ((by rw [hw]; exact below_set (HB.out) GB30.out:Below w.heap.size w w33)); clear hg hw hp_))
      go_roundg k2
      case measure=>have:=HK1.out; have:=HK2.out; omega
      case rel=>exact ⟨(y134),((IntKind.u64.wrap (x10_2+(IntKind.u64.wrap ((IntKind.u64.wrap ((IntKind.u64.wrap ((rd t121 x41_1)))*(IntKind.u64.wrap (rd t124 x48_2))))+(IntKind.u64.wrap (rd x7_2 (ji27)))))))/4294967296),(wrap64 (x48_2+1)),(by first | rfl | (simp; done) | (simp only [← hji27]<;>(first | rfl | simp)) | (simp [*]; done)),zS,H',⟨by have:=HK1.out; have:=HK2.out; omega⟩,⟨by (with_reducible repeat (first | apply Kd.R_alloc | apply Kd.R_drewN | apply Kd.R_drew)); exact Kd.R_mono HO_6.out (fun _ hk=>⟨hk.2,hk.1⟩)⟩,⟨zO HO_7⟩,⟨by (with_reducible repeat (first | apply Kd.R_alloc | apply Kd.R_drewN | apply Kd.R_drew)); exact Kd.R_mono HO_39.out (fun _ hk=>⟨hk.1.1,⟨hk.2,hk.1.2⟩⟩)⟩,⟨by (with_reducible repeat (first | apply Kd.R_alloc | apply Kd.R_drewN | apply Kd.R_drew)); exact Kd.R_mono HO_46.out (fun _ hk=>⟨hk.2,hk.1⟩)⟩,⟨zB⟩⟩
     rw [if_neg c24] at H
     have c24b0:decide (x48_2 < (t124.length:Int))=false:=decide_eq_false c24
     clear c24
     generalize hji34:(wrap64 (x41_1+(t124.length:Int)))=ji34 at H
     have hji34w:(IntKind.i64.wrap (x41_1+(t124.length:Int)))=ji34:=(i64_w _).trans hji34
     obtain ⟨c35b0,H⟩:=zF H
     obtain ⟨c36b0,H⟩:=zF H
     obtain ⟨y135,Ny135⟩:∃ y_:List Int,Aside0 (y_=(x7_2.set ((ji34):Int).toNat ((x10_2)%4294967296))):=⟨_,⟨rfl⟩⟩
     replace H:(nat_Mul.l0 k2 t124 y135 t121 (t121.length:Int) (wrap64 (x41_1+1)))=some r:=zY Ny135 H
     have H':=Aside0.mk H
     clear H
     have p37:0≤((ji34):Int):=zD
     have q37:((ji34):Int) < ((x7_2.length:Int):Int):=zD
     obtain ⟨go37,co37,eo37,gb37,gl37,cl37,HG37⟩:=Kd.R_form HO_7.out (by omega)
     (first | cases eo37 | (injection eo37 with ea_ en_ ec_; (first | subst ea_ | (injection ea_ with ea_; subst ea_)); subst ec_; clear en_))
     have GB37:=Aside0.mk gb37
     have GG37:=Aside0.mk HG37
     clear gb37 gl37 HG37
     obtain ⟨hx37_0,hf37_0⟩:=Kd.R_celln 0 HO_7.out ((ji34):Int) p37 q37
     replace p37:=eq_true p37
     replace q37:=eq_true q37
     have HP38:=Kd.R_putg HO_7.out ((ji34):Int) ((x10_2)%4294967296)
     go_wp2_with (first | ((with_reducible refine gate_store (t:=89) (p:=85) rfl ?_); refine store_event (t:=89) (p:=85) (v:=?vo_w39) (w1:=(wr.setCell ⟨go37,((ji34):Int).toNat,none⟩ (.int .u32 ((x10_2)%4294967296)))) ?hg ?ho ?hn ?hr ?_; (case ho=>rfl); (case hg=>rfl); (case hn=>rfl); (case hr=>first | (go_simp; done) | (go_simp; rfl)); intro w39 hw; have hg:wr.grownBy w39 (some go37):=(by rw [hw]; exact HP38.2); have hp_:Kd.R (Kd.int .u32) 89 w39 w.heap.size (fun k_=>some k_≠(.slice Ao18 t124.length co18:Value).ownBlock∧some k_≠(.slice (some ad131) t121.length co17:Value).ownBlock∧some k_≠(.slice Ao18 t124.length co18:Value).ownBlock) (.slice (some ⟨go37,0,none⟩) x7_2.length co37) y135:=(by rw [hw,Ny135.out]; exact HP38.1); clear HP38; replace HO_6:=Aside0.mk (Kd.R_after (v:=(.slice (some ⟨go37,0,none⟩) x7_2.length co37)) (v1:=(.slice (some ⟨go37,0,none⟩) x7_2.length co37)) (ok:=(fun k_=>some k_≠(.slice (some ad131) t121.length co17:Value).ownBlock)) (by (with_reducible repeat (first | apply Kd.R_alloc | apply Kd.R_drewN | apply Kd.R_drew)); exact Kd.R_mono HO_6.out (fun _ hk=>⟨hk.2,hk.1⟩)) hg (.inl rfl)); replace HO_7:=Aside0.mk (hp_); replace HO_39:=Aside0.mk (Kd.R_after (v:=(.slice (some ⟨go37,0,none⟩) x7_2.length co37)) (v1:=(.slice (some ⟨go37,0,none⟩) x7_2.length co37)) (ok:=(fun k_=>some k_≠(.slice Ao18 t124.length co18:Value).ownBlock∧some k_≠(.slice Ao18 t124.length co18:Value).ownBlock)) (by (with_reducible repeat (first | apply Kd.R_alloc | apply Kd.R_drewN | apply Kd.R_drew)); exact Kd.R_mono HO_39.out (fun _ hk=>⟨⟨hk.1,hk.2.2⟩,hk.2.1⟩)) hg (.inl rfl)); replace HO_46:=Aside0.mk (Kd.R_after (v:=(.slice (some ⟨go37,0,none⟩) x7_2.length co37)) (v1:=(.slice (some ⟨go37,0,none⟩) x7_2.length co37)) (ok:=(fun k_=>some k_≠(.slice (some ad131) t121.length co17:Value).ownBlock)) (by (with_reducible repeat (first | apply Kd.R_alloc | apply Kd.R_drewN | apply Kd.R_drew)); exact Kd.R_mono HO_46.out (fun _ hk=>⟨hk.2,hk.1⟩)) hg (.inl rfl)); replace HB:=Aside0.mk ((by rw [hw]; exact below_set (HB.out) GB37.out:Below w.heap.size w w39)); clear hg hw hp_))
     go_roundg k2
     case measure=>have:=HK1.out; have:=HK2.out; omega
     case rel=>exact ⟨(y135),(wrap64 (x41_1+1)),zS,H',⟨by have:=HK1.out; have:=HK2.out; omega⟩,⟨by (with_reducible repeat (first | apply Kd.R_alloc | apply Kd.R_drewN | apply Kd.R_drew)); exact Kd.R_mono HO_6.out (fun _ hk=>⟨hk.2,hk.1⟩)⟩,⟨by (with_reducible repeat (first | apply Kd.R_alloc | apply Kd.R_drewN | apply Kd.R_drew)); exact Kd.R_mono HO_7.out (fun _ hk=>⟨hk.1,hk.2.1⟩)⟩,⟨by (with_reducible repeat (first | apply Kd.R_alloc | apply Kd.R_drewN | apply Kd.R_drew)); exact Kd.R_mono HO_39.out (fun _ hk=>⟨hk.1.1,hk.2⟩)⟩,⟨zB⟩⟩
end Go.Proofs.YtmkgijiniopalaaDoor.C
