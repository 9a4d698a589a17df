import Derived.Test.YtjefpjajkbldpaaDoorYX0
import Derived.Test.YtjefpjajkbldpaaDoorYZ
namespace Go.Proofs.YtjefpjajkbldpaaDoor.X
open Go.RowKit Go.Proofs.YtjefpjajkbldpaaDoor.Z Go.Proofs.YtjefpjajkbldpaaDoor.A Go.Proofs.YtjefpjajkbldpaaDoorW.PrintWords Go.Proofs.YtjefpjajkbldpaaDoorW.PrintLast Go.Proofs.YtjefpjajkbldpaaDoorW.PrintMore
attribute [local go_sem] max2_int min2_int max_two min_two max_three min_three max_four min_four
set_option linter.unusedVariables false
set_option linter.unusedSimpArgs false
set_option maxHeartbeats 8000000
set_option maxRecDepth 100000
mutual
def nat_Text.l0:Nat→List Int→List Int→Option (ByteArray)
 | 0,_,_=>none
 | k+1,x3,x4=>if (x3.length:Int) > 0 then (nat_Text.l1 k x3 x4 0 (wrap64 ((x3.length:Int) - 1))) else (if (x4.length:Int)=0 then (some (⟨#[48]⟩:ByteArray)) else (nat_Text.l3 k x4 0 (wrap64 ((x4.length:Int) - 1))))
def nat_Text.l1:Nat→List Int→List Int→Int→Int→Option (ByteArray)
 | 0,_,_,_,_=>none
 | k+1,x3,x4,x5,x6=>if x6≥0 then (if 0≤x6 then (if x6 < (x3.length:Int) then (nat_Text.l1 k (x3.set (x6:Int).toNat ((IntKind.u64.wrap (Int.tdiv (Go.bits .or .u64 (IntKind.u64.wrap (x5*4294967296)) (IntKind.u64.wrap (rd x3 x6))) 10))%4294967296)) x4 (Int.tmod (Go.bits .or .u64 (IntKind.u64.wrap (x5*4294967296)) (IntKind.u64.wrap (rd x3 x6))) 10) (wrap64 (x6 - 1))) else (none)) else (none)) else (if x4.length < 140737488355328 then (nat_Text.l2 k x3 (x4++[(IntKind.u64.wrap (48+x5))%256])) else (none))
def nat_Text.l2:Nat→List Int→List Int→Option (ByteArray)
 | 0,_,_=>none
 | k+1,x3,x4=>if (x3.length:Int) > 0 then (if 0≤(wrap64 ((x3.length:Int) - 1)) then (if (wrap64 ((x3.length:Int) - 1)) < (x3.length:Int) then (if (rd x3 (wrap64 ((x3.length:Int) - 1)))=0 then (if (wrap64 ((x3.length:Int) - 1))≤(x3.length:Int) then (nat_Text.l2 k (x3.take ((wrap64 ((x3.length:Int) - 1)):Int).toNat) x4) else (none)) else (nat_Text.l0 k x3 x4)) else (none)) else (none)) else (nat_Text.l0 k x3 x4)
def nat_Text.l3:Nat→List Int→Int→Int→Option (ByteArray)
 | 0,_,_,_=>none
 | k+1,x4,x7,x8=>if x7 < x8 then (if 0≤x8 then (if x8 < (x4.length:Int) then (if 0≤x7 then (if x7 < (x4.length:Int) then (nat_Text.l3 k ((x4.set (x7:Int).toNat (rd x4 x8)).set (x8:Int).toNat (rd x4 x7)) (wrap64 (x7+1)) (wrap64 (x8 - 1))) else (none)) else (none)) else (none)) else (none)) else (some (strOfNums x4))
end
def nat_Text.f (k:Nat) (a0:ByteArray):Option (ByteArray):=(nat_words.f k a0).bind fun t107=>(nat_Text.l0 k t107 ([]:List Int))
theorem nat_Text.mono_l:∀ k,(∀ y0 y1,LeO (nat_Text.l0 k y0 y1) (nat_Text.l0 (k+1) y0 y1))∧(∀ y0 y1 y2 y3,LeO (nat_Text.l1 k y0 y1 y2 y3) (nat_Text.l1 (k+1) y0 y1 y2 y3))∧(∀ y0 y1,LeO (nat_Text.l2 k y0 y1) (nat_Text.l2 (k+1) y0 y1))∧(∀ y0 y1 y2,LeO (nat_Text.l3 k y0 y1 y2) (nat_Text.l3 (k+1) y0 y1 y2))
 | 0=>⟨fun _ _ r h=>by simp [nat_Text.l0] at h,fun _ _ _ _ r h=>by simp [nat_Text.l1] at h,fun _ _ r h=>by simp [nat_Text.l2] at h,fun _ _ _ r h=>by simp [nat_Text.l3] at h⟩
 | k+1=>by
  obtain ⟨ih0,ih1,ih2,ih3⟩:=nat_Text.mono_l k
  refine ⟨?_,?_,?_,?_⟩
  ·intro y0 y1
   unfold nat_Text.l0
   have m0:=@nat_words.mono
   exact zM
  ·intro y0 y1 y2 y3
   unfold nat_Text.l1
   have m0:=@nat_words.mono
   exact zM
  ·intro y0 y1
   unfold nat_Text.l2
   have m0:=@nat_words.mono
   exact zM
  intro y0 y1 y2
  unfold nat_Text.l3
  have m0:=@nat_words.mono
  exact zM
theorem nat_Text.mono:∀ a0 k,LeO (nat_Text.f k a0) (nat_Text.f (k+1) a0):=by
 intro a0 k
 obtain ⟨ih0,ih1,ih2,ih3⟩:=nat_Text.mono_l k
 unfold nat_Text.f
 have m0:=@nat_words.mono
 exact zM
def nat_Text.T18:Bool × List (List Nat × List Nat):=(true,[([],[]),([],[]),([],[]),([],[]),([],[]),([],[]),([4,5],[4,5]),([6],[6]),([],[]),([],[]),([8,9],[8,9]),([10],[10]),([0,1,0,1,4,5,6,7,11],[0,1]),([12,7,0,1,4,5,6,7,11],[7,12]),([2,3,0,1,2,3,4,5,6,7,8,9,10,11,12,13],[2,3]),([14,11,13,0,1,2,3,4,5,6,7,8,9,10,11,12,13],[11,14])])
def nat_Text.B18:List Nat:=[0,0,0,0,0,0,48,112,0,0,768,1792,4083,8179,16383,32767]
theorem nat_Text.tab18:rtab .any (opsOf Tryd.f65 18)=nat_Text.T18:=by kernel_rfl
theorem nat_Text.bits18:waitsOk nat_Text.T18.2 nat_Text.B18=true:=by kernel_rfl
theorem nat_Text.calls (k:Nat) (a0:ByteArray) (r:ByteArray) (w:World) (h:nat_Text.f k a0=some r) :
 Calls Tryd.prog 65 #[.string a0] w fun e w'=>e = .returned (.string r)∧Below w.heap.size w w':=by
 have HB:=Aside0.mk (Below.refl w.heap.size w)
 unfold nat_Text.f at h
 have H:=h
 clear h
 obtain ⟨t107,A2,H⟩:=zH H
 have H':=Aside0.mk H
 clear H
 go_enter Tryd.func65,Tryd.ntmps65
 go_wp2_with (first | ((with_reducible refine zG 53 ?_); refine zL 10 Tryd.func53 #[.string a0] ?_; (with_reducible refine (nat_words.calls k a0 t107 _ A2.out).mono ?_); rintro e w3 ⟨v108,rfl,ho0,hb⟩; refine ⟨_,rfl,?_⟩; have HO109:=Aside0.mk (Kd.R_lower ho0 (below_size zB)); replace HB:=zP hb; (try clear hb); (try clear ho0)))
 go_loopg [3,4] k (fun kq v3 v4 w'=>∃ (x3_1:List Int) (x4_1:List Int),Aside0 (nat_Text.l0 kq x3_1 x4_1=some r)∧Aside0 (kq≤k)∧Aside0 (Kd.R (Kd.int .u32) 74 w' w.heap.size (fun _=>True) v3 x3_1)∧Aside0 (Kd.R (Kd.int .u8) 5 w' w.heap.size (fun _=>True) v4 x4_1)∧Aside0 (Below w.heap.size w w'))
 case atStart=>exact ⟨(t107),(([]:List Int)),H',⟨Nat.le_refl _⟩,⟨zO HO109⟩,⟨by first | exact Kd.R_nil _ _ _ _ _ | exact Kd.N_nil _ _ _ _ _ | exact Kd.V_nil _ _ _ _ _ | exact Kd.Q_nil _ _ _ _ _ | exact Kd.S_nil _ _ _ _ _⟩,⟨zB⟩⟩
 case round =>
  clear H'
  try clear p2
  obtain ⟨x3_1,x4_1,HA,HK1,HO_3,HO_4,HB⟩:=hrel
  cases gk with
  | zero=>exact absurd HA.out (by simp [nat_Text.l0])
  | succ k1 =>
   have H:=HA.out
   clear HA
   simp only [nat_Text.l0] at H
   by_cases c4:(x3_1.length:Int) > 0
   ·rw [if_pos c4] at H
    have c4b0:decide (0 < (x3_1.length:Int))=true:=decide_eq_true c4
    have c4b1:decide (0 < x3_1.length)=true:=decide_eq_true (by omega)
    clear c4
    have H':=Aside0.mk H
    clear H
    obtain ⟨Ao5,co5,eo5⟩:=Kd.R_slice HO_3.out
    subst eo5
    go_wp2
    go_loopg [5,6] k1 (fun kq v5 v6 w'=>∃ (x3_2:List Int) (x5_2:Int) (x6_2:Int),v5 = .int .u64 x5_2∧v6 = .int .i64 x6_2∧Aside0 (nat_Text.l1 kq x3_2 x4_1 x5_2 x6_2=some r)∧Aside0 (kq≤k1)∧Aside0 (Kd.R (Kd.int .u32) 74 w' w.heap.size (fun _=>True) (.slice Ao5 x3_1.length co5) x3_2)∧Aside0 (Kd.R (Kd.int .u8) 5 w' w.heap.size (fun _=>True) u4 x4_1)∧Aside0 (Below w.heap.size w w'))
    case atStart=>exact ⟨(x3_1),(0),(wrap64 ((x3_1.length:Int) - 1)),zS,zS,H',⟨Nat.le_refl _⟩,⟨zO HO_3⟩,⟨zO HO_4⟩,⟨zB⟩⟩
    case round =>
     clear H'
     try clear p2
     try clear c4
     try clear c4b0
     try clear c4b1
     try clear c5
     try clear p2
     obtain ⟨x3_2,x5_2,x6_2,rfl,rfl,HA,HK2,HO_3,HO_4,HB⟩:=hrel
     have hl3_2:=(Kd.R_reads' HO_3.out).1
     rw [hl3_2] at HO_3
     (try simp only [hl3_2])
     (try simp only [hl3_2] at HO_4)
     cases gk with
     | zero=>exact absurd HA.out (by simp [nat_Text.l1])
     | succ k2 =>
      have H:=HA.out
      clear HA
      simp only [nat_Text.l1] at H
      by_cases c6:x6_2≥0
      ·rw [if_pos c6] at H
       have c6b0:decide (0≤x6_2)=true:=decide_eq_true c6
       clear c6
       obtain ⟨c7b0,H⟩:=zF H
       obtain ⟨c8b0,H⟩:=zF H
       (try (have c8b0_0:=c8b0; simp only [hl3_2] at c8b0_0))
       obtain ⟨y111,Ny111⟩:∃ y_:List Int,Aside0 (y_=(x3_2.set (x6_2:Int).toNat ((IntKind.u64.wrap (Int.tdiv (Go.bits .or .u64 (IntKind.u64.wrap (x5_2*4294967296)) (IntKind.u64.wrap (rd x3_2 x6_2))) 10))%4294967296))):=⟨_,⟨rfl⟩⟩
       replace H:(nat_Text.l1 k2 y111 x4_1 (Int.tmod (Go.bits .or .u64 (IntKind.u64.wrap (x5_2*4294967296)) (IntKind.u64.wrap (rd x3_2 x6_2))) 10) (wrap64 (x6_2 - 1)))=some r:=zY Ny111 H
       have H':=Aside0.mk H
       clear H
       have p110:0≤(x6_2:Int):=zD
       have q110:x6_2 < (x3_2.length:Int):=zD
       obtain ⟨ad110,e110,hx110_0⟩:=Kd.at_int (Kd.R_reads' HO_3.out).2.2 x6_2 p110 q110
       cases e110
       replace p110:=eq_true p110
       replace q110:=eq_true q110
       have p9:0≤(x6_2:Int):=zD
       have q9:(x6_2:Int) < ((x3_2.length:Int):Int):=zD
       obtain ⟨go9,co9,eo9,gb9,gl9,cl9,HG9⟩:=Kd.R_form HO_3.out (by omega)
       (first | cases eo9 | (injection eo9 with ea_ en_ ec_; (first | subst ea_ | (injection ea_ with ea_; subst ea_)); subst ec_; clear en_))
       have GB9:=Aside0.mk gb9
       have GG9:=Aside0.mk HG9
       clear gb9 gl9 HG9
       (first | simp only [add_plain] at hx110_0 | skip)
       obtain ⟨hx9_0,hf9_0⟩:=Kd.R_celln 0 HO_3.out (x6_2:Int) p9 q9
       replace p9:=eq_true p9
       replace q9:=eq_true q9
       have HP10:=Kd.R_putg HO_3.out (x6_2:Int) ((IntKind.u64.wrap (Int.tdiv (Go.bits .or .u64 (IntKind.u64.wrap (x5_2*4294967296)) (IntKind.u64.wrap (rd x3_2 x6_2))) 10))%4294967296)
       go_wp2_with (first | ((with_reducible refine gate_store (t:=74) (p:=36) rfl ?_); refine store_event (t:=74) (p:=36) (v:=?vo_w11) (w1:=(wr.setCell ⟨go9,(x6_2:Int).toNat,none⟩ (.int .u32 ((IntKind.u64.wrap (Int.tdiv (Go.bits .or .u64 (IntKind.u64.wrap (x5_2*4294967296)) (IntKind.u64.wrap (rd x3_2 x6_2))) 10))%4294967296)))) ?hg ?ho ?hn ?hr ?_; (case ho=>rfl); (case hg=>rfl); (case hn=>rfl); (case hr=>first | (go_simp; done) | (go_simp; rfl)); intro w11 hw; have hg:wr.grownBy w11 (some go9):=(by rw [hw]; exact HP10.2); have hp_:Kd.R (Kd.int .u32) 74 w11 w.heap.size (fun _=>True) (.slice (some ⟨go9,0,none⟩) x3_2.length co5) y111:=(by rw [hw,Ny111.out]; exact HP10.1); clear HP10; replace HO_4:=Aside0.mk (Kd.R_over' (v:=(.slice (some ⟨go9,0,none⟩) x3_2.length co5)) (zO HO_4) (Kd.R_typed HO_3.out) (by decide) hg); replace HO_3:=Aside0.mk (hp_); replace HB:=Aside0.mk ((by rw [hw]; exact below_set (HB.out) GB9.out:Below w.heap.size w w11)); clear hg hw hp_))
       (try simp only [← hl3_2])
       go_roundg k2
       case measure=>have:=HK1.out; have:=HK2.out; omega
       case rel=>exact ⟨(y111),(Int.tmod (Go.bits .or .u64 (IntKind.u64.wrap (x5_2*4294967296)) (IntKind.u64.wrap (rd x3_2 x6_2))) 10),(wrap64 (x6_2 - 1)),zS,zS,H',⟨by have:=HK1.out; have:=HK2.out; omega⟩,⟨by (try simp only [hl3_2]); (with_reducible repeat (first | apply Kd.R_alloc | apply Kd.R_drewN | apply Kd.R_drew)); exact HO_3.out⟩,⟨by (try simp only [hl3_2]); (with_reducible repeat (first | apply Kd.R_alloc | apply Kd.R_drewN | apply Kd.R_drew)); exact HO_4.out⟩,⟨zB⟩⟩
      rw [if_neg c6] at H
      have c6b0:decide (0≤x6_2)=false:=decide_eq_false c6
      clear c6
      by_cases c12:x4_1.length < 140737488355328
      rotate_left
      ·rw [if_neg c12] at H
       exact absurd H (by simp)
      rw [if_pos c12] at H
      have LMc12:=Aside0.mk c12
      clear c12
      obtain ⟨y112,Ny112⟩:∃ y_:List Int,Aside0 (y_=(x4_1++[(IntKind.u64.wrap (48+x5_2))%256])):=⟨_,⟨rfl⟩⟩
      replace H:(nat_Text.l2 k2 x3_2 y112)=some r:=zY Ny112 H
      have H':=Aside0.mk H
      clear H
      go_wp2_with (first | ((with_reducible refine gate_builtin (b:=.append) (xs:=#[.tmp 37,.tmp 41]) rfl ?_); (try (refine gate_guard (by rfl) ?_; dsimp only)); at_builtin; refine Kd.R_append (Kd.int .u8) (w0:=w) w.heap.size rfl (.tmp 37) (.tmp 41) 85 5 (.int .u8 0) 1 rfl Tryd.underlying85 info5 rfl (by decide) (by omega) u4 x4_1 ((IntKind.u64.wrap (48+x5_2))%256) [.int .u8 ((IntKind.u64.wrap (48+x5_2))%256)] (fun _=>True) (fun _=>False) rfl rfl ?aP (fun _ hk=>hk.elim) ?aF ?aO ?aB ?aS ?aL ?_; (case aP=>exact rfl); (case aB=>exact zB); (case aF=>exact (fun _ _=>trivial)); (case aO=>exact (zO HO_4)); (case aS=>exact (below_size zB)); (case aL=>have:=LMc12.out; omega); intro v113 w13 ho hb hg hat; rw [← Ny112.out] at ho; replace HO_3:=Aside0.mk (Kd.R_over' (zO HO_3) (Kd.R_typed (zO HO_4)) (by decide) hg); replace HB:=Aside0.mk (hb); have HO114:=Aside0.mk (ho); clear HO_4; clear ho hb hg hat))
      go_loopg [3] k2 (fun kq v3 w'=>∃ (x3_3:List Int),Aside0 (nat_Text.l2 kq x3_3 y112=some r)∧Aside0 (kq≤k2)∧Aside0 (Kd.R (Kd.int .u32) 74 w' w.heap.size (fun _=>True) v3 x3_3)∧Aside0 (Kd.R (Kd.int .u8) 5 w' w.heap.size (fun _=>True) v113 y112)∧Aside0 (Below w.heap.size w w'))
      case atStart=>exact ⟨(x3_2),H',⟨Nat.le_refl _⟩,⟨by (try simp only [hl3_2]); (with_reducible repeat (first | apply Kd.R_alloc | apply Kd.R_drewN | apply Kd.R_drew)); exact HO_3.out⟩,⟨by (try simp only [hl3_2]); (with_reducible repeat (first | apply Kd.R_alloc | apply Kd.R_drewN | apply Kd.R_drew)); exact HO114.out⟩,⟨zB⟩⟩
      case round =>
       clear H'
       try clear c1
       try clear p1
       try clear q1
       try clear hx1
       try clear p2
       try clear c4
       try clear c4b0
       try clear c4b1
       try clear c5
       try clear c6
       try clear c6b0
       try clear p6
       try clear c7
       try clear c7b0
       try clear c8
       try clear c8b0
       try clear p9
       try clear q9
       try clear hx9
       try clear hf9
       try clear p11
       try clear q11
       try clear hx11
       try clear c12
       try clear hx110_0
       try clear hx9_0
       try clear p110
       try clear p2
       try clear p9
       try clear q110
       try clear q9
       obtain ⟨x3_3,HA,HK3,HO_3,HO_4,HB⟩:=hrel
       cases gk with
       | zero=>exact absurd HA.out (by simp [nat_Text.l2])
       | succ k3 =>
        have H:=HA.out
        clear HA
        simp only [nat_Text.l2] at H
        by_cases c14:(x3_3.length:Int) > 0
        rotate_left
        ·rw [if_neg c14] at H
         have c14b0:decide (0 < (x3_3.length:Int))=false:=decide_eq_false c14
         (try (have c14b0_0:=c14b0; simp only [hl3_2] at c14b0_0))
         have c14b1:decide (0 < x3_3.length)=false:=decide_eq_false (by omega)
         clear c14
         have H':=Aside0.mk H
         clear H
         obtain ⟨Ao23,co23,eo23⟩:=Kd.R_slice HO_3.out
         subst eo23
         go_wp2
         (try simp only [← hl3_2])
         go_roundg k3
         case measure=>have:=HK1.out; have:=HK2.out; have:=HK3.out; omega
         case rel=>exact ⟨(x3_3),(y112),H',⟨by have:=HK1.out; have:=HK2.out; have:=HK3.out; omega⟩,⟨by (try simp only [hl3_2]); (with_reducible repeat (first | apply Kd.R_alloc | apply Kd.R_drewN | apply Kd.R_drew)); exact HO_3.out⟩,⟨by (try simp only [hl3_2]); (with_reducible repeat (first | apply Kd.R_alloc | apply Kd.R_drewN | apply Kd.R_drew)); exact HO_4.out⟩,⟨zB⟩⟩
        rw [if_pos c14] at H
        have c14b0:decide (0 < (x3_3.length:Int))=true:=decide_eq_true c14
        (try (have c14b0_0:=c14b0; simp only [hl3_2] at c14b0_0))
        have c14b1:decide (0 < x3_3.length)=true:=decide_eq_true (by omega)
        clear c14
        generalize hji15:(wrap64 ((x3_3.length:Int) - 1))=ji15 at H
        have hji15w:(IntKind.i64.wrap ((x3_3.length:Int) - 1))=ji15:=(i64_w _).trans hji15
        obtain ⟨c16b0,H⟩:=zF H
        obtain ⟨c17b0,H⟩:=zF H
        (try (have c17b0_0:=c17b0; simp only [hl3_2] at c17b0_0))
        by_cases c18:(rd x3_3 (ji15))=0
        ·rw [if_pos c18] at H
         have c18b0:((rd x3_3 (ji15))==0)=true:=beq_iff_eq.mpr c18
         have c18b1:((rd x3_3 (ji15)) != 0)=false:=bne_eq_false_iff_eq.mpr c18
         clear c18
         obtain ⟨c19b0,c19b1,H⟩:=zE H
         obtain ⟨y116,Ny116⟩:∃ y_:List Int,Aside0 (y_=(x3_3.take ((ji15):Int).toNat)):=⟨_,⟨rfl⟩⟩
         replace H:(nat_Text.l2 k3 y116 y112)=some r:=zY Ny116 H
         have H':=Aside0.mk H
         clear H
         obtain ⟨Ao20,co20,eo20⟩:=Kd.R_slice HO_3.out
         subst eo20
         have p115:0≤((ji15):Int):=zD
         have q115:(ji15) < (x3_3.length:Int):=zD
         obtain ⟨ad115,e115,hx115_0⟩:=Kd.at_int (Kd.R_reads' HO_3.out).2.2 (ji15) p115 q115
         cases e115
         replace p115:=eq_true p115
         replace q115:=eq_true q115
         have q21:((ji15):Int)≤((x3_3.length:Int):Int):=zD
         obtain ⟨i021,hi021,_,hsz21,_⟩:=info_parts info74
         have hcut21:=cut_to (P:=Tryd.prog) 72 74 .i64 Tryd.underlying72 hi021 (some ad115) x3_3.length co20 (ji15) zD q21 (Kd.R_reads' HO_3.out).2.1
         have hr21:=Kd.R_take (m:=((ji15):Int).toNat) HO_3.out (by omega)
         have hy21:y116.length=((ji15):Int).toNat:=(by rw [Ny116.out,List.length_take]; omega)
         rw [← Ny116.out] at hr21
         rw [← hy21] at hr21 hcut21
         clear hy21 hi021 hsz21 HO_3
         have HO118:=Aside0.mk hr21
         clear hr21
         replace q21:=eq_true q21
         go_wp2
         go_roundg k3
         case measure=>have:=HK1.out; have:=HK2.out; have:=HK3.out; omega
         case rel=>exact ⟨(y116),H',⟨by have:=HK1.out; have:=HK2.out; have:=HK3.out; omega⟩,⟨by (try simp only [hl3_2]); (with_reducible repeat (first | apply Kd.R_alloc | apply Kd.R_drewN | apply Kd.R_drew)); exact HO118.out⟩,⟨by (try simp only [hl3_2]); (with_reducible repeat (first | apply Kd.R_alloc | apply Kd.R_drewN | apply Kd.R_drew)); exact HO_4.out⟩,⟨zB⟩⟩
        rw [if_neg c18] at H
        have c18b0:((rd x3_3 (ji15))==0)=false:=beq_eq_false_iff_ne.mpr c18
        have c18b1:((rd x3_3 (ji15)) != 0)=true:=bne_iff_ne.mpr c18
        have H':=Aside0.mk H
        clear H
        obtain ⟨Ao22,co22,eo22⟩:=Kd.R_slice HO_3.out
        subst eo22
        have p115:0≤((ji15):Int):=zD
        have q115:(ji15) < (x3_3.length:Int):=zD
        obtain ⟨ad115,e115,hx115_0⟩:=Kd.at_int (Kd.R_reads' HO_3.out).2.2 (ji15) p115 q115
        cases e115
        replace p115:=eq_true p115
        replace q115:=eq_true q115
        go_wp2
        (try simp only [← hl3_2])
        go_roundg k3
        case measure=>have:=HK1.out; have:=HK2.out; have:=HK3.out; omega
        case rel=>exact ⟨(x3_3),(y112),H',⟨by have:=HK1.out; have:=HK2.out; have:=HK3.out; omega⟩,⟨by (try simp only [hl3_2]); (with_reducible repeat (first | apply Kd.R_alloc | apply Kd.R_drewN | apply Kd.R_drew)); exact HO_3.out⟩,⟨by (try simp only [hl3_2]); (with_reducible repeat (first | apply Kd.R_alloc | apply Kd.R_drewN | apply Kd.R_drew)); exact HO_4.out⟩,⟨zB⟩⟩
   rw [if_neg c4] at H
   have c4b0:decide (0 < (x3_1.length:Int))=false:=decide_eq_false c4
   (try (have c4b0_0:=c4b0; simp only [hl3_2] at c4b0_0))
   have c4b1:decide (0 < x3_1.length)=false:=decide_eq_false (by omega)
   clear c4
   by_cases c24:(x4_1.length:Int)=0
   ·rw [if_pos c24] at H
    have c24b0:((x4_1.length:Int)==0)=true:=beq_iff_eq.mpr c24
    have c24b1:((x4_1.length:Int) != 0)=false:=bne_eq_false_iff_eq.mpr c24
    clear c24
    obtain rfl:=Option.some.inj H
    obtain ⟨Ao25,co25,eo25⟩:=Kd.R_slice HO_3.out
    subst eo25
    obtain ⟨Ao26,co26,eo26⟩:=Kd.R_slice HO_4.out
    subst eo26
    go_wp2
    go_ret
    exact ⟨zR,zB⟩
   rw [if_neg c24] at H
   have c24b0:((x4_1.length:Int)==0)=false:=beq_eq_false_iff_ne.mpr c24
   have c24b1:((x4_1.length:Int) != 0)=true:=bne_iff_ne.mpr c24
   have c24b2:¬ (x4_1=[]):=fun h_=>c24 (by rw [h_]; rfl)
   have H':=Aside0.mk H
   clear H
   obtain ⟨Ao27,co27,eo27⟩:=Kd.R_slice HO_3.out
   subst eo27
   obtain ⟨Ao28,co28,eo28⟩:=Kd.R_slice HO_4.out
   subst eo28
   go_wp2
   go_loopg [7,8] k1 (fun kq v7 v8 w'=>∃ (x4_2:List Int) (x7_2:Int) (x8_2:Int),v7 = .int .i64 x7_2∧v8 = .int .i64 x8_2∧Aside0 (nat_Text.l3 kq x4_2 x7_2 x8_2=some r)∧Aside0 (kq≤k1)∧Aside0 (Kd.R (Kd.int .u8) 5 w' w.heap.size (fun _=>True) (.slice Ao28 x4_1.length co28) x4_2)∧Aside0 (Below w.heap.size w w'))
   case atStart=>exact ⟨(x4_1),(0),(wrap64 ((x4_1.length:Int) - 1)),zS,zS,H',⟨Nat.le_refl _⟩,⟨zO HO_4⟩,⟨zB⟩⟩
   case round =>
    clear H'
    try clear c1
    try clear p1
    try clear q1
    try clear hx1
    try clear c2
    try clear p2
    try clear q2
    try clear c4
    try clear c4b0
    try clear c4b1
    try clear c5
    try clear c6
    try clear c6b0
    try clear p6
    try clear c7
    try clear c7b0
    try clear c8
    try clear c8b0
    try clear p9
    try clear q9
    try clear hx9
    try clear hf9
    try clear p11
    try clear q11
    try clear hx11
    try clear c12
    try clear c14
    try clear c14b0
    try clear c14b1
    try clear c16
    try clear c16b0
    try clear c17
    try clear c17b0
    try clear c18
    try clear c18b0
    try clear c18b1
    try clear c19
    try clear c19b0
    try clear c19b1
    try clear q21
    try clear c24
    try clear c24b0
    try clear c24b1
    try clear c24b2
    try clear hx110_0
    try clear hx115_0
    try clear hx9_0
    try clear p1
    try clear p11
    try clear p110
    try clear p115
    try clear p2
    try clear p6
    try clear p9
    try clear q1
    try clear q11
    try clear q110
    try clear q115
    try clear q21
    try clear q9
    obtain ⟨x4_2,x7_2,x8_2,rfl,rfl,HA,HK2,HO_4,HB⟩:=hrel
    have hl4_2:=(Kd.R_reads' HO_4.out).1
    rw [hl4_2] at HO_4
    (try simp only [hl4_2])
    cases gk with
    | zero=>exact absurd HA.out (by simp [nat_Text.l3])
    | succ k2 =>
     have H:=HA.out
     clear HA
     simp only [nat_Text.l3] at H
     by_cases c29:x7_2 < x8_2
     rotate_left
     ·rw [if_neg c29] at H
      have c29b0:decide (x7_2 < x8_2)=false:=decide_eq_false c29
      clear c29
      obtain rfl:=Option.some.inj H
      have hcv39:=own_string (P:=Tryd.prog) Tryd.underlying85 Tryd.underlying5 Tryd.underlying9 (Kd.own_of_R HO_4.out)
      go_wp2
      go_ret
      exact ⟨zR,zB⟩
     rw [if_pos c29] at H
     have c29b0:decide (x7_2 < x8_2)=true:=decide_eq_true c29
     clear c29
     obtain ⟨c30b0,H⟩:=zF H
     obtain ⟨c31b0,H⟩:=zF H
     (try (have c31b0_0:=c31b0; simp only [hl3_2] at c31b0_0))
     (try (have c31b0_1:=c31b0; simp only [hl4_2] at c31b0_1))
     obtain ⟨c32b0,H⟩:=zF H
     obtain ⟨c33b0,H⟩:=zF H
     (try (have c33b0_0:=c33b0; simp only [hl3_2] at c33b0_0))
     (try (have c33b0_1:=c33b0; simp only [hl4_2] at c33b0_1))
     obtain ⟨y121,Ny121⟩:∃ y_:List Int,Aside0 (y_=(x4_2.set (x7_2:Int).toNat (rd x4_2 x8_2))):=⟨_,⟨rfl⟩⟩
     replace H:(nat_Text.l3 k2 (y121.set (x8_2:Int).toNat (rd x4_2 x7_2)) (wrap64 (x7_2+1)) (wrap64 (x8_2 - 1)))=some r:=zY Ny121 H
     obtain ⟨y122,Ny122⟩:∃ y_:List Int,Aside0 (y_=(y121.set (x8_2:Int).toNat (rd x4_2 x7_2))):=⟨_,⟨rfl⟩⟩
     replace H:(nat_Text.l3 k2 y122 (wrap64 (x7_2+1)) (wrap64 (x8_2 - 1)))=some r:=zY Ny122 H
     have H':=Aside0.mk H
     clear H
     try go_wp2
     have n0_:=Aside0.mk (Kd.R_drew HO_4.out)
     have n1_:=Aside0.mk (below_drew1 HB.out)
     clear HO_4
     clear HB
     have HO_4:=n0_
     have HB:=n1_
     clear n0_ n1_
     have p119:0≤(x8_2:Int):=zD
     have q119:x8_2 < (x4_2.length:Int):=zD
     obtain ⟨ad119,e119,hx119_0⟩:=Kd.at_int (Kd.R_reads' HO_4.out).2.2 x8_2 p119 q119
     cases e119
     replace p119:=eq_true p119
     replace q119:=eq_true q119
     have p120:0≤(x7_2:Int):=zD
     have q120:x7_2 < (x4_2.length:Int):=zD
     obtain ⟨ad120,e120,hx120_0⟩:=Kd.at_int (Kd.R_reads' HO_4.out).2.2 x7_2 p120 q120
     obtain rfl:ad119=ad120:=(by injection e120)
     replace p120:=eq_true p120
     replace q120:=eq_true q120
     have p34:0≤(x7_2:Int):=zD
     have q34:(x7_2:Int) < ((x4_2.length:Int):Int):=zD
     obtain ⟨go34,co34,eo34,gb34,gl34,cl34,HG34⟩:=Kd.R_form HO_4.out (by omega)
     (first | cases eo34 | (injection eo34 with ea_ en_ ec_; (first | subst ea_ | (injection ea_ with ea_; subst ea_)); subst ec_; clear en_))
     have GB34:=Aside0.mk gb34
     have GG34:=Aside0.mk HG34
     clear gb34 gl34 HG34
     (first | simp only [add_plain] at hx119_0 | skip)
     (first | simp only [add_plain] at hx120_0 | skip)
     obtain ⟨hx34_0,hf34_0⟩:=Kd.R_celln 0 HO_4.out (x7_2:Int) p34 q34
     replace p34:=eq_true p34
     replace q34:=eq_true q34
     have HP37:=Kd.R_putn HO_4.out (x7_2:Int) (rd x4_2 x8_2)
     rw [← Ny121.out] at HP37
     have HQ37:=Aside0.mk HP37
     clear HP37
     have p35:0≤(x8_2:Int):=zD
     have q35:(x8_2:Int) < ((x4_2.length:Int):Int):=zD
     obtain ⟨hx35_0,hf35_0⟩:=Kd.R_celln 0 HQ37.out (x8_2:Int) p35 q35
     replace p35:=eq_true p35
     replace q35:=eq_true q35
     have HP38:=Kd.R_putn HQ37.out (x8_2:Int) (rd x4_2 x7_2)
     rw [← Ny122.out] at HP38
     have HQ38:=Aside0.mk HP38
     clear HP38
     refine start_ (n:=16) (S:=fun w'=>w'.cell? ⟨go34,(x8_2).toNat,none⟩=some (.int .u8 (rd x4_2 x8_2))∧w'.cell? ⟨go34,(x7_2).toNat,none⟩=some (.int .u8 (rd x4_2 x7_2))) (ds:=[13,15]) #[false,false,false,false,false,false,false,false,false,false,false,false,false,false,false,false] (by kernel_rfl) rfl rfl ⟨hx119_0,hx120_0⟩ (fun hHeld=>?_); refine with_tabW nat_Text.tab18 nat_Text.bits18 (fun HT_ HW_=>?_)
     generalize wr.drew=w36 at HO_4 HB GG34 HQ37 HQ38 hf34_0 hf35_0 hx119_0 hx120_0 hx34_0 hx35_0 hHeld ⊢
     refine zU 0 73 #[true,false,false,false,false,false,false,false,false,false,false,false,false,false,false,false] ?_
     refine zU 1 74 #[true,true,false,false,false,false,false,false,false,false,false,false,false,false,false,false] ?_
     refine zU 2 75 #[true,true,true,false,false,false,false,false,false,false,false,false,false,false,false,false] ?_
     refine zU 3 76 #[true,true,true,true,false,false,false,false,false,false,false,false,false,false,false,false] ?_
     refine zU 4 77 #[true,true,true,true,true,false,false,false,false,false,false,false,false,false,false,false] ?_
     refine zU 5 78 #[true,true,true,true,true,true,false,false,false,false,false,false,false,false,false,false] ?_
     refine zU 6 79 #[true,true,true,true,true,true,true,false,false,false,false,false,false,false,false,false] ?_
     refine zU 8 81 #[true,true,true,true,true,true,true,false,true,false,false,false,false,false,false,false] ?_
     refine zU 9 82 #[true,true,true,true,true,true,true,false,true,true,false,false,false,false,false,false] ?_
     refine zU 10 83 #[true,true,true,true,true,true,true,false,true,true,true,false,false,false,false,false] ?_
     refine take_ (i:=7) (N:=some 80) (v:=?_) (a':=?_) #[true,true,true,true,true,true,true,true,true,true,true,false,false,false,false,false] rfl rfl (take_ofW HT_.out HW_.out (by kernel_rfl)) (fun _ _ _ h=>h) (Or.inl ⟨by rfl,?_⟩) hHeld ?_ ?_
     rotate_left
     ·rintro w' ⟨s0,s1⟩
      go_simp
      with_reducible rfl
     rotate_left
     ·simp only [Act.put,List.setIfInBounds_toArray,List.set_cons_zero,List.set_cons_succ,i64_w,i32_w]
      rfl
     refine take_ (i:=11) (N:=some 84) (v:=?_) (a':=?_) #[true,true,true,true,true,true,true,true,true,true,true,true,false,false,false,false] rfl rfl (take_ofW HT_.out HW_.out (by kernel_rfl)) (fun _ _ _ h=>h) (Or.inl ⟨by rfl,?_⟩) hHeld ?_ ?_
     rotate_left
     ·rintro w' ⟨s0,s1⟩
      go_simp
      with_reducible rfl
     rotate_left
     ·simp only [Act.put,List.setIfInBounds_toArray,List.set_cons_zero,List.set_cons_succ,i64_w,i32_w]
      rfl
     refine zU 12 85 #[true,true,true,true,true,true,true,true,true,true,true,true,true,false,false,false] ?_
     refine last_ (i:=13) (N:=none) #[true,true,true,true,true,true,true,true,true,true,true,true,true,true,false,false] rfl rfl (one_of HT_.out (by kernel_rfl)) (by decide) (fun K hK=>?_)
     refine skip_ (w1:=?_) (by rfl) rfl ?_ ?_
     rotate_left
     ·go_simp
      rfl
     refine hK.out _ _ ?_
     clear hK K
     refine zU 14 86 #[true,true,true,true,true,true,true,true,true,true,true,true,true,true,true,false] ?_
     refine last_ (i:=15) (N:=none) #[true,true,true,true,true,true,true,true,true,true,true,true,true,true,true,true] rfl rfl (one_of HT_.out (by kernel_rfl)) (by decide) (fun K hK=>?_)
     refine skip_ (w1:=?_) (by rfl) rfl ?_ ?_
     rotate_left
     ·go_simp
      rfl
     refine hK.out _ _ ?_
     clear hK K
     refine done_ (done_of HT_.out (by kernel_rfl)) ?_
     try go_wp2
     (try simp only [← hl4_2])
     go_roundg k2
     case measure=>have:=HK1.out; have:=HK2.out; omega
     case rel=>exact ⟨(y122),(wrap64 (x7_2+1)),(wrap64 (x8_2 - 1)),zS,zS,H',⟨by have:=HK1.out; have:=HK2.out; omega⟩,⟨by (try simp only [hl4_2]); (with_reducible repeat (first | apply Kd.R_alloc | apply Kd.R_drewN | apply Kd.R_drew)); exact HQ38.out⟩,⟨by repeat (first | (with_reducible first | exact HB.out | apply below_alloc | apply pw_below_drewN | apply below_drew1 | refine below_set ?_ GB34.out | refine below_set ?_ GB34.out) | exact HB.out)⟩⟩
end Go.Proofs.YtjefpjajkbldpaaDoor.X
