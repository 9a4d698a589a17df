import Derived.Test.YtkpeembfagcpcaaDoorYD0
import Derived.Test.YtkpeembfagcpcaaDoorYZ
namespace Go.Proofs.YtkpeembfagcpcaaDoor.D
open Go.RowKit Go.Proofs.YtkpeembfagcpcaaDoor.Z Go.Proofs.YtkpeembfagcpcaaDoor.A Go.Proofs.YtkpeembfagcpcaaDoor.H Go.Proofs.YtkpeembfagcpcaaDoor.B Go.Proofs.YtkpeembfagcpcaaDoor.R Go.Proofs.YtkpeembfagcpcaaDoorW.PrintWords Go.Proofs.YtkpeembfagcpcaaDoorW.PrintLast Go.Proofs.YtkpeembfagcpcaaDoorW.PrintMore
attribute [local go_sem] max2_int min2_int max_two min_two max_three min_three max_four min_four
set_option linter.unusedVariables false
set_option linter.unusedSimpArgs false
set_option maxHeartbeats 8000000
set_option maxRecDepth 100000
mutual
def gantref1_Numeral.j0:Nat→ByteArray→Bool→Option (ByteArray × Int)
 | 0,_,_=>none
 | k+1,x0,x25=>if x25=true then (some ((⟨#[]⟩:ByteArray),15)) else (gantref1_Numeral.l0 k x0 (⟨#[]⟩:ByteArray) (⟨#[1]⟩:ByteArray) (wrap64 ((x0.size:Int) - 1)))
def gantref1_Numeral.l0:Nat→ByteArray→ByteArray→ByteArray→Int→Option (ByteArray × Int)
 | 0,_,_,_,_=>none
 | k+1,x0,x4,x5,x6=>if x6≥0 then (if 0≤x6 then (if x6 < (x0.size:Int) then ((gantref1_Small.f k (((bt x0 x6) - 48)%256)).bind fun t150=>((gantref1_Times.f k x5 t150).bind fun t151=>((gantref1_Plus.f k x4 t151).bind fun t152=>((gantref1_Times.f k x5 (⟨#[10]⟩:ByteArray)).bind fun t153=>(gantref1_Numeral.l0 k x0 t152 t153 (wrap64 (x6 - 1))))))) else (none)) else (none)) else (some (x4,0))
end
def gantref1_Numeral.f (k:Nat) (a0:ByteArray):Option (ByteArray × Int):=if (a0.size:Int) > 2000 then (some ((⟨#[]⟩:ByteArray),2)) else ((strings_Trim.f a0 (⟨#[48,49,50,51,52,53,54,55,56,57]⟩:ByteArray)).bind fun t149=>(if t149.toList=([]:List UInt8) then (if a0.toList=([]:List UInt8) then (gantref1_Numeral.j0 k a0 true) else (if a0.toList=([48]:List UInt8) then (gantref1_Numeral.j0 k a0 false) else (if 0 < (a0.size:Int) then (gantref1_Numeral.j0 k a0 ((bt a0 0)==48)) else (none)))) else (gantref1_Numeral.j0 k a0 true)))
theorem gantref1_Numeral.mono_l:∀ k,(∀ y0 y1,LeO (gantref1_Numeral.j0 k y0 y1) (gantref1_Numeral.j0 (k+1) y0 y1))∧(∀ y0 y1 y2 y3,LeO (gantref1_Numeral.l0 k y0 y1 y2 y3) (gantref1_Numeral.l0 (k+1) y0 y1 y2 y3))
 | 0=>⟨fun _ _ r h=>by simp [gantref1_Numeral.j0] at h,fun _ _ _ _ r h=>by simp [gantref1_Numeral.l0] at h⟩
 | k+1=>by
  obtain ⟨ih0,ih1⟩:=gantref1_Numeral.mono_l k
  refine ⟨?_,?_⟩
  ·intro y0 y1
   unfold gantref1_Numeral.j0
   have m0:=@gantref1_Plus.mono
   have m1:=@gantref1_Small.mono
   have m2:=@gantref1_Times.mono
   exact zM
  intro y0 y1 y2 y3
  unfold gantref1_Numeral.l0
  have m0:=@gantref1_Plus.mono
  have m1:=@gantref1_Small.mono
  have m2:=@gantref1_Times.mono
  exact zM
theorem gantref1_Numeral.mono:∀ a0 k,LeO (gantref1_Numeral.f k a0) (gantref1_Numeral.f (k+1) a0):=by
 intro a0 k
 obtain ⟨ih0,ih1⟩:=gantref1_Numeral.mono_l k
 unfold gantref1_Numeral.f
 have m0:=@gantref1_Plus.mono
 have m1:=@gantref1_Small.mono
 have m2:=@gantref1_Times.mono
 exact zM
theorem gantref1_Numeral.calls (k:Nat) (a0:ByteArray) (r1:ByteArray) (r2:Int) (w:World) (h:gantref1_Numeral.f k a0=some (r1,r2)) :
 Calls Tryd.prog 11 #[.string a0] w fun e w'=>e = .returned (.tuple #[.string r1,.int .i64 r2])∧Below w.heap.size w w':=by
 have HB:=Aside0.mk (Below.refl w.heap.size w)
 unfold gantref1_Numeral.f at h
 have H:=h
 clear h
 by_cases c2:(a0.size:Int) > 2000
 ·rw [if_pos c2] at H
  have c2b0:decide (2000 < (a0.size:Int))=true:=decide_eq_true c2
  have c2b1:decide (2000 < a0.size)=true:=decide_eq_true (by omega)
  clear c2
  simp only [Option.some.injEq,Prod.mk.injEq] at H
  obtain ⟨rfl,rfl⟩:=H
  go_enter Tryd.func11,Tryd.ntmps11
  go_wp2
  go_ret2
  exact ⟨zR,zB⟩
 rw [if_neg c2] at H
 have c2b0:decide (2000 < (a0.size:Int))=false:=decide_eq_false c2
 have c2b1:decide (2000 < a0.size)=false:=decide_eq_false (by omega)
 clear c2
 have HC3:=Aside0.mk H
 clear H
 go_enter Tryd.func11,Tryd.ntmps11
 go_upto_region 3 with (fail)
 go_cut [25] (fun v25 wc=>∃ (kq:Nat) (x25_2:Bool),v25 = .bool x25_2∧Aside0 (gantref1_Numeral.j0 kq a0 x25_2=some (r1,r2))∧Aside0 (kq≤k)∧Aside0 (Below w.heap.size w wc))
 case first =>
  have H:=HC3.out
  clear HC3
  obtain ⟨t149,A4,H⟩:=zH H
  by_cases c5:t149.toList=([]:List UInt8)
  rotate_left
  ·rw [if_neg c5] at H
   have c5b0:(t149.toList==([]:List UInt8))=false:=beq_eq_false_iff_ne.mpr c5
   have c5b1:(t149.toList != ([]:List UInt8))=true:=bne_iff_ne.mpr c5
   (first | rw [c5b0] | rw [c5b1] | (simp only [i64_w,i32_w]; rw [c5b0]) | skip)
   have H':=Aside0.mk H
   clear H
   go_wp2_with (first | ((with_reducible refine zG 48 ?_); refine zL 11 Tryd.func48 #[.string a0,.string (⟨#[48,49,50,51,52,53,54,55,56,57]⟩:ByteArray)] ?_; (with_reducible refine (strings_Trim.calls a0 (⟨#[48,49,50,51,52,53,54,55,56,57]⟩:ByteArray) t149 _ A4.out).mono ?_); rintro e w13 ⟨rfl,hb⟩; refine ⟨_,rfl,?_⟩; replace HB:=zP hb; (try clear hb)))
   go_meet
   case rel=>exact ⟨_,(true),zS,H',⟨by first | omega | exact Nat.le_refl _⟩,⟨zB⟩⟩
  rw [if_pos c5] at H
  have c5b0:(t149.toList==([]:List UInt8))=true:=beq_iff_eq.mpr c5
  have c5b1:(t149.toList != ([]:List UInt8))=false:=bne_eq_false_iff_eq.mpr c5
  clear c5
  (first | rw [c5b0] | rw [c5b1] | (simp only [i64_w,i32_w]; rw [c5b0]) | skip)
  by_cases c6:a0.toList=([]:List UInt8)
  ·rw [if_pos c6] at H
   have c6b0:(a0.toList==([]:List UInt8))=true:=beq_iff_eq.mpr c6
   have c6b1:(a0.toList != ([]:List UInt8))=false:=bne_eq_false_iff_eq.mpr c6
   clear c6
   have H':=Aside0.mk H
   clear H
   go_wp2_with (first | ((with_reducible refine zG 48 ?_); refine zL 11 Tryd.func48 #[.string a0,.string (⟨#[48,49,50,51,52,53,54,55,56,57]⟩:ByteArray)] ?_; (with_reducible refine (strings_Trim.calls a0 (⟨#[48,49,50,51,52,53,54,55,56,57]⟩:ByteArray) t149 _ A4.out).mono ?_); rintro e w7 ⟨rfl,hb⟩; refine ⟨_,rfl,?_⟩; replace HB:=zP hb; (try clear hb)))
   go_meet
   case rel=>exact ⟨_,(true),zS,H',⟨by first | omega | exact Nat.le_refl _⟩,⟨zB⟩⟩
  rw [if_neg c6] at H
  have c6b0:(a0.toList==([]:List UInt8))=false:=beq_eq_false_iff_ne.mpr c6
  have c6b1:(a0.toList != ([]:List UInt8))=true:=bne_iff_ne.mpr c6
  by_cases c8:a0.toList=([48]:List UInt8)
  ·rw [if_pos c8] at H
   have c8b0:(a0.toList==([48]:List UInt8))=true:=beq_iff_eq.mpr c8
   have c8b1:(a0.toList != ([48]:List UInt8))=false:=bne_eq_false_iff_eq.mpr c8
   clear c8
   have H':=Aside0.mk H
   clear H
   go_wp2_with (first | ((with_reducible refine zG 48 ?_); refine zL 11 Tryd.func48 #[.string a0,.string (⟨#[48,49,50,51,52,53,54,55,56,57]⟩:ByteArray)] ?_; (with_reducible refine (strings_Trim.calls a0 (⟨#[48,49,50,51,52,53,54,55,56,57]⟩:ByteArray) t149 _ A4.out).mono ?_); rintro e w9 ⟨rfl,hb⟩; refine ⟨_,rfl,?_⟩; replace HB:=zP hb; (try clear hb)))
   go_meet
   case rel=>exact ⟨_,(false),zS,H',⟨by first | omega | exact Nat.le_refl _⟩,⟨zB⟩⟩
  rw [if_neg c8] at H
  have c8b0:(a0.toList==([48]:List UInt8))=false:=beq_eq_false_iff_ne.mpr c8
  have c8b1:(a0.toList != ([48]:List UInt8))=true:=bne_iff_ne.mpr c8
  by_cases c10:0 < (a0.size:Int)
  ·rw [if_pos c10] at H
   have c10b0:decide (0 < (a0.size:Int))=true:=decide_eq_true c10
   have c10b1:decide (0 < a0.size)=true:=decide_eq_true (by omega)
   clear c10
   have H':=Aside0.mk H
   clear H
   go_wp2_with (first | ((with_reducible refine zG 48 ?_); refine zL 11 Tryd.func48 #[.string a0,.string (⟨#[48,49,50,51,52,53,54,55,56,57]⟩:ByteArray)] ?_; (with_reducible refine (strings_Trim.calls a0 (⟨#[48,49,50,51,52,53,54,55,56,57]⟩:ByteArray) t149 _ A4.out).mono ?_); rintro e w12 ⟨rfl,hb⟩; refine ⟨_,rfl,?_⟩; replace HB:=zP hb; (try clear hb); have p11:0≤(0:Int):=(by omega); have q11:0 < a0.size:=(by have:(0:Int) < (a0.size:Int):=zD; omega); have hx11:∀ h:0 < a0.size,((a0[0]'h).toNat:Int)=bt a0 0:=bt_at a0 0; clear p11; have qi11:(0 < (a0.size:Int))=True:=eq_true zD; replace q11:=eq_true q11))
   go_meet
   case rel=>exact ⟨_,(((bt a0 0)==48)),zS,H',⟨by first | omega | exact Nat.le_refl _⟩,⟨zB⟩⟩
  rw [if_neg c10] at H
  exact absurd H (by simp)
 case rest =>
  clear HC3
  try clear c1
  try clear p1
  try clear q1
  try clear hx1
  try clear qi1
  try clear c2
  try clear c2b0
  try clear c2b1
  try clear p2
  try clear c4
  try clear c5
  try clear c5b0
  try clear c5b1
  try clear c6
  try clear c6b0
  try clear c6b1
  try clear c8
  try clear c8b0
  try clear c8b1
  try clear c10
  try clear c10b0
  try clear c10b1
  try clear c11
  try clear p11
  try clear q11
  try clear hx11
  try clear qi11
  try clear p11
  try clear q11
  obtain ⟨kq,x25_2,rfl,HA,HJ2,HB⟩:=hcut
  cases kq with
  | zero=>exact absurd HA.out (by simp [gantref1_Numeral.j0])
  | succ kj2 =>
   have H:=HA.out
   clear HA
   simp only [gantref1_Numeral.j0] at H
   by_cases c14:x25_2=true
   ·subst c14
    have H1:(some ((⟨#[]⟩:ByteArray),15))=some (r1,r2):=by rw [if_pos rfl] at H; exact H
    clear H
    have H:=H1
    clear H1
    simp only [Option.some.injEq,Prod.mk.injEq] at H
    obtain ⟨rfl,rfl⟩:=H
    go_wp2
    go_ret2
    exact ⟨zR,zB⟩
   replace c14:=Bool.eq_false_iff.mpr c14
   subst c14
   have H1:(gantref1_Numeral.l0 kj2 a0 (⟨#[]⟩:ByteArray) (⟨#[1]⟩:ByteArray) (wrap64 ((a0.size:Int) - 1)))=some (r1,r2):=by rw [if_neg (show ¬ (false=true) by decide)] at H; exact H
   clear H
   have H:=H1
   clear H1
   have H':=Aside0.mk H
   clear H
   go_wp2
   go_loopg [4,5,6] kj2 (fun kq v4 v5 v6 w'=>∃ (x4_2:ByteArray) (x5_2:ByteArray) (x6_2:Int),v4 = .string x4_2∧v5 = .string x5_2∧v6 = .int .i64 x6_2∧Aside0 (gantref1_Numeral.l0 kq a0 x4_2 x5_2 x6_2=some (r1,r2))∧Aside0 (kq≤kj2)∧Aside0 (Below w.heap.size w w'))
   case atStart=>exact ⟨((⟨#[]⟩:ByteArray)),((⟨#[1]⟩:ByteArray)),(wrap64 ((a0.size:Int) - 1)),zS,zS,zS,H',⟨Nat.le_refl _⟩,⟨zB⟩⟩
   case round =>
    clear H'
    try clear c1
    try clear p1
    try clear q1
    try clear hx1
    try clear qi1
    try clear c2
    try clear c2b0
    try clear c2b1
    try clear p2
    try clear c4
    try clear c5
    try clear c5b0
    try clear c5b1
    try clear c6
    try clear c6b0
    try clear c6b1
    try clear p6
    try clear c8
    try clear c8b0
    try clear c8b1
    try clear c10
    try clear c10b0
    try clear c10b1
    try clear c11
    try clear p11
    try clear q11
    try clear hx11
    try clear qi11
    try clear c14
    try clear p1
    try clear p11
    try clear p2
    try clear q1
    try clear q11
    obtain ⟨x4_2,x5_2,x6_2,rfl,rfl,rfl,HA,HK2,HB⟩:=hrel
    cases gk with
    | zero=>exact absurd HA.out (by simp [gantref1_Numeral.l0])
    | succ k2 =>
     have H:=HA.out
     clear HA
     simp only [gantref1_Numeral.l0] at H
     by_cases c15:x6_2≥0
     ·rw [if_pos c15] at H
      have c15b0:decide (0≤x6_2)=true:=decide_eq_true c15
      clear c15
      obtain ⟨c16b0,H⟩:=zF H
      obtain ⟨c17b0,H⟩:=zF H
      obtain ⟨t150,A19,H⟩:=zH H
      obtain ⟨t151,A20,H⟩:=zH H
      obtain ⟨t152,A21,H⟩:=zH H
      obtain ⟨t153,A22,H⟩:=zH H
      have H':=Aside0.mk H
      clear H
      have p18:0≤(x6_2:Int):=zD
      have q18:x6_2 < (a0.size:Int):=zD
      have hx18:=bt_at a0 x6_2
      replace p18:=eq_true p18
      replace q18:=eq_true q18
      go_wp2_with (first | ((with_reducible refine zG 51 ?_); refine zL 40 Tryd.func51 #[.int .i64 (((bt a0 x6_2) - 48)%256)] ?_; (with_reducible refine (gantref1_Small.calls k2 (((bt a0 x6_2) - 48)%256) t150 _ A19.out).mono ?_); rintro e w23 ⟨rfl,hb⟩; refine ⟨_,rfl,?_⟩; replace HB:=zP hb; (try clear hb)) | ((with_reducible refine zG 50 ?_); refine zL 41 Tryd.func50 #[.string x5_2,.string t150] ?_; (with_reducible refine (gantref1_Times.calls k2 x5_2 t150 t151 _ A20.out).mono ?_); rintro e w24 ⟨rfl,hb⟩; refine ⟨_,rfl,?_⟩; replace HB:=zP hb; (try clear hb)) | ((with_reducible refine zG 49 ?_); refine zL 42 Tryd.func49 #[.string x4_2,.string t151] ?_; (with_reducible refine (gantref1_Plus.calls k2 x4_2 t151 t152 _ A21.out).mono ?_); rintro e w25 ⟨rfl,hb⟩; refine ⟨_,rfl,?_⟩; replace HB:=zP hb; (try clear hb)) | ((with_reducible refine zG 50 ?_); refine zL 44 Tryd.func50 #[.string x5_2,.string (⟨#[10]⟩:ByteArray)] ?_; (with_reducible refine (gantref1_Times.calls k2 x5_2 (⟨#[10]⟩:ByteArray) t153 _ A22.out).mono ?_); rintro e w26 ⟨rfl,hb⟩; refine ⟨_,rfl,?_⟩; replace HB:=zP hb; (try clear hb)))
      go_roundg k2
      case measure=>have:=HJ2.out; have:=HK2.out; omega
      case rel=>exact ⟨(t152),(t153),(wrap64 (x6_2 - 1)),zS,zS,zS,H',⟨by have:=HJ2.out; have:=HK2.out; omega⟩,⟨zB⟩⟩
     rw [if_neg c15] at H
     have c15b0:decide (0≤x6_2)=false:=decide_eq_false c15
     clear c15
     simp only [Option.some.injEq,Prod.mk.injEq] at H
     obtain ⟨rfl,rfl⟩:=H
     go_wp2
     go_ret2
     exact ⟨zR,zB⟩
end Go.Proofs.YtkpeembfagcpcaaDoor.D
