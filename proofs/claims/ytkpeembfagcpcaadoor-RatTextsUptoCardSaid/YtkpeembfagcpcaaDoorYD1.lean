import Derived.Test.YtkpeembfagcpcaaDoorYD0
import Derived.Test.YtkpeembfagcpcaaDoorYZ
namespace Go.Proofs.YtkpeembfagcpcaaDoor.D
open Go.RowKit Go.Proofs.YtkpeembfagcpcaaDoor.Z Go.Proofs.YtkpeembfagcpcaaDoor.A Go.Proofs.YtkpeembfagcpcaaDoor.H Go.Proofs.YtkpeembfagcpcaaDoor.B Go.Proofs.YtkpeembfagcpcaaDoor.R Go.Proofs.YtkpeembfagcpcaaDoorW.PrintWords Go.Proofs.YtkpeembfagcpcaaDoorW.PrintLast Go.Proofs.YtkpeembfagcpcaaDoorW.PrintMore
attribute [local go_sem] max2_int min2_int max_two min_two max_three min_three max_four min_four
set_option linter.unusedVariables false
set_option linter.unusedSimpArgs false
set_option maxHeartbeats 8000000
set_option maxRecDepth 100000
mutual
def nat_Read.j0:Nat→ByteArray→Bool→Option (ByteArray × Int)
 | 0,_,_=>none
 | k+1,x0,x22=>if x22=true then (some ((⟨#[]⟩:ByteArray),15)) else (nat_Read.l0 k x0 ([]:List Int) (x0.size:Int) 0)
def nat_Read.l0:Nat→ByteArray→List Int→Int→Int→Option (ByteArray × Int)
 | 0,_,_,_,_=>none
 | k+1,x0,x4,x24,x25=>if x25 < x24 then (if 0≤x25 then (if x25 < (x0.size:Int) then (if (bt x0 x25) < 48 then (nat_Read.j2 k x0 x4 x25 x24 x25 true) else (nat_Read.j2 k x0 x4 x25 x24 x25 (decide ((bt x0 x25) > 57)))) else (none)) else (none)) else ((nat_text.f k x4).bind fun t110=>(some (t110,0)))
def nat_Read.j2:Nat→ByteArray→List Int→Int→Int→Int→Bool→Option (ByteArray × Int)
 | 0,_,_,_,_,_,_=>none
 | k+1,x0,x4,x5,x24,x25,x37=>if x37=true then (some ((⟨#[]⟩:ByteArray),15)) else (if 0≤x5 then (if x5 < (x0.size:Int) then (nat_Read.l1 k x0 x4 (((bt x0 x5) - 48)%256) x24 x25 (x4.length:Int) 0) else (none)) else (none))
def nat_Read.l1:Nat→ByteArray→List Int→Int→Int→Int→Int→Int→Option (ByteArray × Int)
 | 0,_,_,_,_,_,_,_=>none
 | k+1,x0,x4,x6,x24,x25,x44,x45=>if x45 < x44 then (if 0≤x45 then (if x45 < (x4.length:Int) then (nat_Read.l1 k x0 (x4.set (x45:Int).toNat ((IntKind.u64.wrap (x6+(IntKind.u64.wrap (10*(IntKind.u64.wrap (rd x4 x45))))))%4294967296)) ((IntKind.u64.wrap (x6+(IntKind.u64.wrap (10*(IntKind.u64.wrap (rd x4 x45))))))/4294967296) x24 x25 x44 (wrap64 (x45+1))) else (none)) else (none)) else (if x6 > 0 then (if x4.length < 35184372088832 then (nat_Read.l0 k x0 (x4++[(x6)%4294967296]) x24 (wrap64 (x25+1))) else (none)) else (nat_Read.l0 k x0 x4 x24 (wrap64 (x25+1))))
end
def nat_Read.f (k:Nat) (a0:ByteArray):Option (ByteArray × Int):=if (a0.size:Int) > 2000 then (some ((⟨#[]⟩:ByteArray),2)) else (if a0.toList=([]:List UInt8) then (nat_Read.j0 k a0 true) else (if (a0.size:Int) > 1 then (if 0 < (a0.size:Int) then (nat_Read.j0 k a0 ((bt a0 0)==48)) else (none)) else (nat_Read.j0 k a0 false)))
theorem nat_Read.mono_l:∀ k,(∀ y0 y1,LeO (nat_Read.j0 k y0 y1) (nat_Read.j0 (k+1) y0 y1))∧(∀ y0 y1 y2 y3,LeO (nat_Read.l0 k y0 y1 y2 y3) (nat_Read.l0 (k+1) y0 y1 y2 y3))∧(∀ y0 y1 y2 y3 y4 y5,LeO (nat_Read.j2 k y0 y1 y2 y3 y4 y5) (nat_Read.j2 (k+1) y0 y1 y2 y3 y4 y5))∧(∀ y0 y1 y2 y3 y4 y5 y6,LeO (nat_Read.l1 k y0 y1 y2 y3 y4 y5 y6) (nat_Read.l1 (k+1) y0 y1 y2 y3 y4 y5 y6))
 | 0=>⟨fun _ _ r h=>by simp [nat_Read.j0] at h,fun _ _ _ _ r h=>by simp [nat_Read.l0] at h,fun _ _ _ _ _ _ r h=>by simp [nat_Read.j2] at h,fun _ _ _ _ _ _ _ r h=>by simp [nat_Read.l1] at h⟩
 | k+1=>by
  obtain ⟨ih0,ih1,ih2,ih3⟩:=nat_Read.mono_l k
  refine ⟨?_,?_,?_,?_⟩
  ·intro y0 y1
   unfold nat_Read.j0
   have m0:=@nat_text.mono
   exact zM
  ·intro y0 y1 y2 y3
   unfold nat_Read.l0
   have m0:=@nat_text.mono
   exact zM
  ·intro y0 y1 y2 y3 y4 y5
   unfold nat_Read.j2
   have m0:=@nat_text.mono
   exact zM
  intro y0 y1 y2 y3 y4 y5 y6
  unfold nat_Read.l1
  have m0:=@nat_text.mono
  exact zM
theorem nat_Read.mono:∀ a0 k,LeO (nat_Read.f k a0) (nat_Read.f (k+1) a0):=by
 intro a0 k
 obtain ⟨ih0,ih1,ih2,ih3⟩:=nat_Read.mono_l k
 unfold nat_Read.f
 have m0:=@nat_text.mono
 exact zM
theorem nat_Read.calls (k:Nat) (a0:ByteArray) (r1:ByteArray) (r2:Int) (w:World) (h:nat_Read.f k a0=some (r1,r2)) :
 Calls Tryd.prog 10 #[.string a0] w fun e w'=>e = .returned (.tuple #[.string r1,.int .i64 r2])∧Below w.heap.size w w':=by
 have HB:=Aside0.mk (Below.refl w.heap.size w)
 unfold nat_Read.f at h
 have H:=h
 clear h
 by_cases c2:(a0.size:Int) > 2000
 ·rw [if_pos c2] at H
  have c2b0:decide (2000 < (a0.size:Int))=true:=decide_eq_true c2
  have c2b1:decide (2000 < a0.size)=true:=decide_eq_true (by omega)
  clear c2
  simp only [Option.some.injEq,Prod.mk.injEq] at H
  obtain ⟨rfl,rfl⟩:=H
  go_enter Tryd.func10,Tryd.ntmps10
  go_wp2
  go_ret2
  exact ⟨zR,zB⟩
 rw [if_neg c2] at H
 have c2b0:decide (2000 < (a0.size:Int))=false:=decide_eq_false c2
 have c2b1:decide (2000 < a0.size)=false:=decide_eq_false (by omega)
 clear c2
 have HC3:=Aside0.mk H
 clear H
 go_enter Tryd.func10,Tryd.ntmps10
 go_upto_region 3 with (fail)
 go_cut [22] (fun v22 wc=>∃ (kq:Nat) (x22_2:Bool),v22 = .bool x22_2∧Aside0 (nat_Read.j0 kq a0 x22_2=some (r1,r2))∧Aside0 (kq≤k)∧Aside0 (Below w.heap.size w wc))
 case first =>
  have H:=HC3.out
  clear HC3
  by_cases c4:a0.toList=([]:List UInt8)
  ·rw [if_pos c4] at H
   have c4b0:(a0.toList==([]:List UInt8))=true:=beq_iff_eq.mpr c4
   have c4b1:(a0.toList != ([]:List UInt8))=false:=bne_eq_false_iff_eq.mpr c4
   clear c4
   (first | rw [c4b0] | rw [c4b1] | (simp only [i64_w,i32_w]; rw [c4b0]) | skip)
   have H':=Aside0.mk H
   clear H
   go_wp2
   go_meet
   case rel=>exact ⟨_,(true),zS,H',⟨by first | omega | exact Nat.le_refl _⟩,⟨zB⟩⟩
  rw [if_neg c4] at H
  have c4b0:(a0.toList==([]:List UInt8))=false:=beq_eq_false_iff_ne.mpr c4
  have c4b1:(a0.toList != ([]:List UInt8))=true:=bne_iff_ne.mpr c4
  (first | rw [c4b0] | rw [c4b1] | (simp only [i64_w,i32_w]; rw [c4b0]) | skip)
  by_cases c5:(a0.size:Int) > 1
  ·rw [if_pos c5] at H
   have c5b0:decide (1 < (a0.size:Int))=true:=decide_eq_true c5
   have c5b1:decide (1 < a0.size)=true:=decide_eq_true (by omega)
   clear c5
   by_cases c6:0 < (a0.size:Int)
   ·rw [if_pos c6] at H
    have c6b0:decide (0 < (a0.size:Int))=true:=decide_eq_true c6
    have c6b1:decide (0 < a0.size)=true:=decide_eq_true (by omega)
    clear c6
    have H':=Aside0.mk H
    clear H
    have p7:0≤(0:Int):=(by omega)
    have q7:0 < a0.size:=(by have:(0:Int) < (a0.size:Int):=zD; omega)
    have hx7:∀ h:0 < a0.size,((a0[0]'h).toNat:Int)=bt a0 0:=bt_at a0 0
    clear p7
    have qi7:(0 < (a0.size:Int))=True:=eq_true zD
    replace q7:=eq_true q7
    go_wp2
    go_meet
    case rel=>exact ⟨_,(((bt a0 0)==48)),zS,H',⟨by first | omega | exact Nat.le_refl _⟩,⟨zB⟩⟩
   rw [if_neg c6] at H
   exact absurd H (by simp)
  rw [if_neg c5] at H
  have c5b0:decide (1 < (a0.size:Int))=false:=decide_eq_false c5
  have c5b1:decide (1 < a0.size)=false:=decide_eq_false (by omega)
  clear c5
  have H':=Aside0.mk H
  clear H
  go_wp2
  go_meet
  case rel=>exact ⟨_,(false),zS,H',⟨by first | omega | exact Nat.le_refl _⟩,⟨zB⟩⟩
 case rest =>
  clear HC3
  try clear c1
  try clear c2
  try clear c2b0
  try clear c2b1
  try clear p2
  try clear c4
  try clear c4b0
  try clear c4b1
  try clear c5
  try clear c5b0
  try clear c5b1
  try clear c6
  try clear c6b0
  try clear c6b1
  try clear p7
  try clear q7
  try clear hx7
  try clear qi7
  try clear p7
  try clear q7
  obtain ⟨kq,x22_2,rfl,HA,HJ2,HB⟩:=hcut
  cases kq with
  | zero=>exact absurd HA.out (by simp [nat_Read.j0])
  | succ kj2 =>
   have H:=HA.out
   clear HA
   simp only [nat_Read.j0] at H
   by_cases c8:x22_2=true
   ·subst c8
    have H1:(some ((⟨#[]⟩:ByteArray),15))=some (r1,r2):=by rw [if_pos rfl] at H; exact H
    clear H
    have H:=H1
    clear H1
    simp only [Option.some.injEq,Prod.mk.injEq] at H
    obtain ⟨rfl,rfl⟩:=H
    go_wp2
    go_ret2
    exact ⟨zR,zB⟩
   replace c8:=Bool.eq_false_iff.mpr c8
   subst c8
   have H1:(nat_Read.l0 kj2 a0 ([]:List Int) (a0.size:Int) 0)=some (r1,r2):=by rw [if_neg (show ¬ (false=true) by decide)] at H; exact H
   clear H
   have H:=H1
   clear H1
   have H':=Aside0.mk H
   clear H
   go_wp2
   go_loopg [4,25] kj2 (fun kq v4 v25 w'=>∃ (x4_2:List Int) (x25_2:Int),v25 = .int .i64 x25_2∧Aside0 (nat_Read.l0 kq a0 x4_2 (a0.size:Int) x25_2=some (r1,r2))∧Aside0 (kq≤kj2)∧Aside0 (Kd.R (Kd.int .u32) 81 w' w.heap.size (fun _=>True) v4 x4_2)∧Aside0 (Below w.heap.size w w'))
   case atStart=>exact ⟨(([]:List Int)),(0),zS,H',⟨Nat.le_refl _⟩,⟨by first | exact Kd.R_nil _ _ _ _ _ | exact Kd.N_nil _ _ _ _ _ | exact Kd.V_nil _ _ _ _ _ | exact Kd.Q_nil _ _ _ _ _ | exact Kd.S_nil _ _ _ _ _⟩,⟨zB⟩⟩
   case round =>
    clear H'
    try clear c1
    try clear c2
    try clear c2b0
    try clear c2b1
    try clear p2
    try clear c4
    try clear c4b0
    try clear c4b1
    try clear c5
    try clear c5b0
    try clear c5b1
    try clear c6
    try clear c6b0
    try clear c6b1
    try clear p7
    try clear q7
    try clear hx7
    try clear qi7
    try clear c8
    try clear p2
    try clear p7
    try clear q7
    obtain ⟨x4_2,x25_2,rfl,HA,HK2,HO_4,HB⟩:=hrel
    cases gk with
    | zero=>exact absurd HA.out (by simp [nat_Read.l0])
    | succ k2 =>
     have H:=HA.out
     clear HA
     simp only [nat_Read.l0] at H
     by_cases c9:x25_2 < (a0.size:Int)
     rotate_left
     ·rw [if_neg c9] at H
      have c9b0:decide (x25_2 < (a0.size:Int))=false:=decide_eq_false c9
      clear c9
      obtain ⟨t110,A30,H⟩:=zH H
      simp only [Option.some.injEq,Prod.mk.injEq] at H
      obtain ⟨rfl,rfl⟩:=H
      obtain ⟨Ao31,co31,eo31⟩:=Kd.R_slice HO_4.out
      subst eo31
      go_wp2_with (first | ((with_reducible refine zG 47 ?_); refine zL 73 Tryd.func47 #[.slice Ao31 x4_2.length co31] ?_; (with_reducible refine (nat_text.calls k2 _ _ x4_2 t110 _ ?side1 ?side2 A30.out).mono ?_); (case side1=>exact zC HO_4); (case side2=>exact (Kd.R_reads' HO_4.out).2.1); rintro e w32 ⟨rfl,hb⟩; refine ⟨_,rfl,?_⟩; replace HO_4:=Aside0.mk (Kd.R_below (zO HO_4) hb); replace HB:=zP hb; (try clear hb)))
      go_ret2
      exact ⟨zR,zB⟩
     rw [if_pos c9] at H
     have c9b0:decide (x25_2 < (a0.size:Int))=true:=decide_eq_true c9
     clear c9
     have HC10:=Aside0.mk H
     clear H
     go_upto_region 9 with (fail)
     go_cut [37] (fun v37 wc=>∃ (kq:Nat) (x37_9:Bool),v37 = .bool x37_9∧Aside0 (nat_Read.j2 kq a0 x4_2 x25_2 (a0.size:Int) x25_2 x37_9=some (r1,r2))∧Aside0 (kq≤k2)∧Aside0 (Kd.R (Kd.int .u32) 81 wc w.heap.size (fun _=>True) u4 x4_2)∧Aside0 (Below w.heap.size w wc))
     case first =>
      have H:=HC10.out
      clear HC10
      obtain ⟨c11b0,H⟩:=zF H
      (first | rw [c11b0] | rw [c11b1] | (simp only [i64_w,i32_w]; rw [c11b0]) | skip)
      obtain ⟨c12b0,H⟩:=zF H
      by_cases c14:(bt a0 x25_2) < 48
      ·rw [if_pos c14] at H
       have c14b0:decide ((bt a0 x25_2) < 48)=true:=decide_eq_true c14
       clear c14
       have H':=Aside0.mk H
       clear H
       have p13:0≤(x25_2:Int):=zD
       have q13:x25_2 < (a0.size:Int):=zD
       have hx13:=bt_at a0 x25_2
       replace p13:=eq_true p13
       replace q13:=eq_true q13
       go_wp2
       go_meet
       case rel=>exact ⟨_,(true),zS,H',⟨by have:=HJ2.out; have:=HK2.out; first | omega | exact Nat.le_refl _⟩,⟨zO HO_4⟩,⟨zB⟩⟩
      rw [if_neg c14] at H
      have c14b0:decide ((bt a0 x25_2) < 48)=false:=decide_eq_false c14
      clear c14
      have H':=Aside0.mk H
      clear H
      have p13:0≤(x25_2:Int):=zD
      have q13:x25_2 < (a0.size:Int):=zD
      have hx13:=bt_at a0 x25_2
      replace p13:=eq_true p13
      replace q13:=eq_true q13
      have p15:0≤(x25_2:Int):=zD
      have q15:x25_2 < (a0.size:Int):=zD
      have hx15:=bt_at a0 x25_2
      replace p15:=eq_true p15
      replace q15:=eq_true q15
      go_wp2
      go_meet
      case rel=>exact ⟨_,(decide ((bt a0 x25_2) > 57)),zS,H',⟨by have:=HJ2.out; have:=HK2.out; first | omega | exact Nat.le_refl _⟩,⟨zO HO_4⟩,⟨zB⟩⟩
     case rest =>
      clear HC10
      try clear c1
      try clear p1
      try clear q1
      try clear hx1
      try clear c2
      try clear c2b0
      try clear c2b1
      try clear p2
      try clear c4
      try clear c4b0
      try clear c4b1
      try clear c5
      try clear c5b0
      try clear c5b1
      try clear c6
      try clear c6b0
      try clear c6b1
      try clear p7
      try clear q7
      try clear hx7
      try clear qi7
      try clear c8
      try clear c9
      try clear c9b0
      try clear c10
      try clear c11
      try clear c11b0
      try clear c12
      try clear c12b0
      try clear p13
      try clear q13
      try clear hx13
      try clear c14
      try clear c14b0
      try clear p15
      try clear q15
      try clear hx15
      try clear p13
      try clear p15
      try clear p2
      try clear p7
      try clear q13
      try clear q15
      try clear q7
      obtain ⟨kq,x37_9,rfl,HA,HJ9,HO_4,HB⟩:=hcut
      cases kq with
      | zero=>exact absurd HA.out (by simp [nat_Read.j2])
      | succ kj9 =>
       have H:=HA.out
       clear HA
       simp only [nat_Read.j2] at H
       by_cases c16:x37_9=true
       ·subst c16
        have H1:(some ((⟨#[]⟩:ByteArray),15))=some (r1,r2):=by rw [if_pos rfl] at H; exact H
        clear H
        have H:=H1
        clear H1
        simp only [Option.some.injEq,Prod.mk.injEq] at H
        obtain ⟨rfl,rfl⟩:=H
        go_wp2
        go_ret2
        exact ⟨zR,zB⟩
       replace c16:=Bool.eq_false_iff.mpr c16
       subst c16
       have H1:(if 0≤x25_2 then (if x25_2 < (a0.size:Int) then (nat_Read.l1 kj9 a0 x4_2 (((bt a0 x25_2) - 48)%256) (a0.size:Int) x25_2 (x4_2.length:Int) 0) else (none)) else (none))=some (r1,r2):=by rw [if_neg (show ¬ (false=true) by decide)] at H; exact H
       clear H
       have H:=H1
       clear H1
       obtain ⟨c17b0,H⟩:=zF H
       obtain ⟨c18b0,H⟩:=zF H
       have H':=Aside0.mk H
       clear H
       have p19:0≤(x25_2:Int):=zD
       have q19:x25_2 < (a0.size:Int):=zD
       have hx19:=bt_at a0 x25_2
       replace p19:=eq_true p19
       replace q19:=eq_true q19
       obtain ⟨Ao20,co20,eo20⟩:=Kd.R_slice HO_4.out
       subst eo20
       go_wp2
       go_loopg [6,45] kj9 (fun kq v6 v45 w'=>∃ (x4_4:List Int) (x6_4:Int) (x45_4:Int),v6 = .int .u64 x6_4∧v45 = .int .i64 x45_4∧Aside0 (nat_Read.l1 kq a0 x4_4 x6_4 (a0.size:Int) x25_2 (x4_2.length:Int) x45_4=some (r1,r2))∧Aside0 (kq≤kj9)∧Aside0 (Kd.R (Kd.int .u32) 81 w' w.heap.size (fun _=>True) (.slice Ao20 x4_2.length co20) x4_4)∧Aside0 (Below w.heap.size w w'))
       case atStart=>exact ⟨(x4_2),(((bt a0 x25_2) - 48)%256),(0),zS,zS,H',⟨Nat.le_refl _⟩,⟨zO HO_4⟩,⟨zB⟩⟩
       case round =>
        clear H'
        try clear c1
        try clear p1
        try clear q1
        try clear hx1
        try clear c2
        try clear c2b0
        try clear c2b1
        try clear p2
        try clear c4
        try clear c4b0
        try clear c4b1
        try clear c5
        try clear c5b0
        try clear c5b1
        try clear c6
        try clear c6b0
        try clear c6b1
        try clear p7
        try clear q7
        try clear hx7
        try clear qi7
        try clear c8
        try clear c9
        try clear c9b0
        try clear c10
        try clear c11
        try clear c11b0
        try clear c12
        try clear c12b0
        try clear p13
        try clear q13
        try clear hx13
        try clear c14
        try clear c14b0
        try clear p15
        try clear q15
        try clear hx15
        try clear c16
        try clear c17
        try clear c17b0
        try clear c18
        try clear c18b0
        try clear p19
        try clear q19
        try clear hx19
        try clear p1
        try clear p13
        try clear p15
        try clear p19
        try clear p2
        try clear p7
        try clear q1
        try clear q13
        try clear q15
        try clear q19
        try clear q7
        obtain ⟨x4_4,x6_4,x45_4,rfl,rfl,HA,HK4,HO_4,HB⟩:=hrel
        have hl4_4:=(Kd.R_reads' HO_4.out).1
        rw [hl4_4] at HO_4
        (try simp only [hl4_4])
        cases gk with
        | zero=>exact absurd HA.out (by simp [nat_Read.l1])
        | succ k4 =>
         have H:=HA.out
         clear HA
         simp only [nat_Read.l1] at H
         by_cases c21:x45_4 < (x4_2.length:Int)
         ·rw [if_pos c21] at H
          have c21b0:decide (x45_4 < (x4_2.length:Int))=true:=decide_eq_true c21
          (try (have c21b0_0:=c21b0; simp only [hl4_4] at c21b0_0))
          clear c21
          obtain ⟨c22b0,H⟩:=zF H
          obtain ⟨c23b0,H⟩:=zF H
          (try (have c23b0_0:=c23b0; simp only [hl4_4] at c23b0_0))
          obtain ⟨y112,Ny112⟩:∃ y_:List Int,Aside0 (y_=(x4_4.set (x45_4:Int).toNat ((IntKind.u64.wrap (x6_4+(IntKind.u64.wrap (10*(IntKind.u64.wrap (rd x4_4 x45_4))))))%4294967296))):=⟨_,⟨rfl⟩⟩
          replace H:(nat_Read.l1 k4 a0 y112 ((IntKind.u64.wrap (x6_4+(IntKind.u64.wrap (10*(IntKind.u64.wrap (rd x4_4 x45_4))))))/4294967296) (a0.size:Int) x25_2 (x4_2.length:Int) (wrap64 (x45_4+1)))=some (r1,r2):=zY Ny112 H
          have H':=Aside0.mk H
          clear H
          have p111:0≤(x45_4:Int):=zD
          have q111:x45_4 < (x4_4.length:Int):=zD
          obtain ⟨ad111,e111,hx111_0⟩:=Kd.at_int (Kd.R_reads' HO_4.out).2.2 x45_4 p111 q111
          cases e111
          replace p111:=eq_true p111
          replace q111:=eq_true q111
          have p24:0≤(x45_4:Int):=zD
          have q24:(x45_4:Int) < ((x4_4.length:Int):Int):=zD
          obtain ⟨go24,co24,eo24,gb24,gl24,cl24,HG24⟩:=Kd.R_form HO_4.out (by omega)
          (first | cases eo24 | (injection eo24 with ea_ en_ ec_; (first | subst ea_ | (injection ea_ with ea_; subst ea_)); subst ec_; clear en_))
          have GB24:=Aside0.mk gb24
          have GG24:=Aside0.mk HG24
          clear gb24 gl24 HG24
          (first | simp only [add_plain] at hx111_0 | skip)
          obtain ⟨hx24_0,hf24_0⟩:=Kd.R_celln 0 HO_4.out (x45_4:Int) p24 q24
          replace p24:=eq_true p24
          replace q24:=eq_true q24
          have HP25:=Kd.R_putg HO_4.out (x45_4:Int) ((IntKind.u64.wrap (x6_4+(IntKind.u64.wrap (10*(IntKind.u64.wrap (rd x4_4 x45_4))))))%4294967296)
          go_wp2_with (first | ((with_reducible refine gate_store (t:=81) (p:=60) rfl ?_); refine store_event (t:=81) (p:=60) (v:=?vo_w26) (w1:=(wr.setCell ⟨go24,(x45_4:Int).toNat,none⟩ (.int .u32 ((IntKind.u64.wrap (x6_4+(IntKind.u64.wrap (10*(IntKind.u64.wrap (rd x4_4 x45_4))))))%4294967296)))) ?hg ?ho ?hn ?hr ?_; (case ho=>rfl); (case hg=>rfl); (case hn=>rfl); (case hr=>first | (go_simp; done) | (go_simp; rfl)); intro w26 hw; have hg:wr.grownBy w26 (some go24):=(by rw [hw]; exact HP25.2); have hp_:Kd.R (Kd.int .u32) 81 w26 w.heap.size (fun _=>True) (.slice (some ⟨go24,0,none⟩) x4_4.length co20) y112:=(by rw [hw,Ny112.out]; exact HP25.1); clear HP25; replace HO_4:=Aside0.mk (hp_); replace HB:=Aside0.mk ((by rw [hw]; exact below_set (HB.out) GB24.out:Below w.heap.size w w26)); clear hg hw hp_))
          (try simp only [← hl4_4])
          go_roundg k4
          case measure=>have:=HJ2.out; have:=HK2.out; have:=HJ9.out; have:=HK4.out; omega
          case rel=>exact ⟨(y112),((IntKind.u64.wrap (x6_4+(IntKind.u64.wrap (10*(IntKind.u64.wrap (rd x4_4 x45_4))))))/4294967296),(wrap64 (x45_4+1)),zS,zS,H',⟨by have:=HJ2.out; have:=HK2.out; have:=HJ9.out; have:=HK4.out; omega⟩,⟨by (try simp only [hl4_4]); (with_reducible repeat (first | apply Kd.R_alloc | apply Kd.R_drewN | apply Kd.R_drew)); exact HO_4.out⟩,⟨zB⟩⟩
         rw [if_neg c21] at H
         have c21b0:decide (x45_4 < (x4_2.length:Int))=false:=decide_eq_false c21
         (try (have c21b0_0:=c21b0; simp only [hl4_4] at c21b0_0))
         clear c21
         by_cases c27:x6_4 > 0
         ·rw [if_pos c27] at H
          have c27b0:decide (0 < x6_4)=true:=decide_eq_true c27
          clear c27
          by_cases c28:x4_4.length < 35184372088832
          ·rw [if_pos c28] at H
           have LMc28:=Aside0.mk c28
           clear c28
           obtain ⟨y113,Ny113⟩:∃ y_:List Int,Aside0 (y_=(x4_4++[(x6_4)%4294967296])):=⟨_,⟨rfl⟩⟩
           replace H:(nat_Read.l0 k4 a0 y113 (a0.size:Int) (wrap64 (x25_2+1)))=some (r1,r2):=zY Ny113 H
           have H':=Aside0.mk H
           clear H
           go_wp2_with (first | ((with_reducible refine gate_builtin (b:=.append) (xs:=#[.tmp 66,.tmp 69]) rfl ?_); (try (refine gate_guard (by rfl) ?_; dsimp only)); at_builtin; refine Kd.R_append (Kd.int .u32) (w0:=w) w.heap.size rfl (.tmp 66) (.tmp 69) 70 81 (.int .u32 0) 4 rfl Tryd.underlying70 info81 rfl (by decide) (by omega) (.slice Ao20 x4_4.length co20) x4_4 ((x6_4)%4294967296) [.int .u32 ((x6_4)%4294967296)] (fun _=>True) (fun _=>False) rfl rfl ?aP (fun _ hk=>hk.elim) ?aF ?aO ?aB ?aS ?aL ?_; (case aP=>exact rfl); (case aB=>exact zB); (case aF=>exact (fun _ _=>trivial)); (case aO=>exact (zO HO_4)); (case aS=>exact (below_size zB)); (case aL=>have:=LMc28.out; omega); intro v114 w29 ho hb hg hat; rw [← Ny113.out] at ho; replace HB:=Aside0.mk (hb); have HO115:=Aside0.mk (ho); clear HO_4; clear ho hb hg hat))
           (try simp only [← hl4_4])
           go_roundg k4
           case measure=>have:=HJ2.out; have:=HK2.out; have:=HJ9.out; have:=HK4.out; omega
           case rel=>exact ⟨(y113),(wrap64 (x25_2+1)),zS,H',⟨by have:=HJ2.out; have:=HK2.out; have:=HJ9.out; have:=HK4.out; omega⟩,⟨by (try simp only [hl4_4]); (with_reducible repeat (first | apply Kd.R_alloc | apply Kd.R_drewN | apply Kd.R_drew)); exact HO115.out⟩,⟨zB⟩⟩
          rw [if_neg c28] at H
          exact absurd H (by simp)
         rw [if_neg c27] at H
         have c27b0:decide (0 < x6_4)=false:=decide_eq_false c27
         clear c27
         have H':=Aside0.mk H
         clear H
         go_wp2
         (try simp only [← hl4_4])
         go_roundg k4
         case measure=>have:=HJ2.out; have:=HK2.out; have:=HJ9.out; have:=HK4.out; omega
         case rel=>exact ⟨(x4_4),(wrap64 (x25_2+1)),zS,H',⟨by have:=HJ2.out; have:=HK2.out; have:=HJ9.out; have:=HK4.out; omega⟩,⟨by (try simp only [hl4_4]); (with_reducible repeat (first | apply Kd.R_alloc | apply Kd.R_drewN | apply Kd.R_drew)); exact HO_4.out⟩,⟨zB⟩⟩
end Go.Proofs.YtkpeembfagcpcaaDoor.D
