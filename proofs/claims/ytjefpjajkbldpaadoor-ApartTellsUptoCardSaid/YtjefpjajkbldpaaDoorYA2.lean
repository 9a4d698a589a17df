import Derived.Test.YtjefpjajkbldpaaDoorYA0
import Derived.Test.YtjefpjajkbldpaaDoorYZ
namespace Go.Proofs.YtjefpjajkbldpaaDoor.A
open Go.RowKit Go.Proofs.YtjefpjajkbldpaaDoor.Z Go.Proofs.YtjefpjajkbldpaaDoorW.PrintWords Go.Proofs.YtjefpjajkbldpaaDoorW.PrintLast Go.Proofs.YtjefpjajkbldpaaDoorW.PrintMore
attribute [local go_sem] max2_int min2_int max_two min_two max_three min_three max_four min_four
set_option linter.unusedVariables false
set_option linter.unusedSimpArgs false
set_option maxHeartbeats 8000000
set_option maxRecDepth 100000
def nat_left.l0:Nat→Int→List Int→List Int→Int→Int→Option (List Int)
 | 0,_,_,_,_,_=>none
 | k+1,x1,x5,x13,x14,x15=>if x15 < x14 then (if 0≤x15 then (if x15 < (x13.length:Int) then (if 0≤x1 then (if x15 < (x5.length:Int) then (if 0≤(wrap64 (x15+1)) then (if (wrap64 (x15+1)) < (x5.length:Int) then (nat_left.l0 k x1 ((x5.set (x15:Int).toNat (Go.bits .or .u32 (rd x5 x15) ((shl .u64 (IntKind.u64.wrap (rd x13 x15)) x1)%4294967296))).set ((wrap64 (x15+1)):Int).toNat (((shl .u64 (IntKind.u64.wrap (rd x13 x15)) x1)/4294967296)%4294967296)) x13 x14 (wrap64 (x15+1))) else (none)) else (none)) else (none)) else (none)) else (none)) else (none)) else (some x5)
def nat_left.f (k:Nat) (l0:List Int) (a1:Int):Option (List Int):=if 0≤(wrap64 ((l0.length:Int)+1)) then (if (wrap64 ((l0.length:Int)+1):Int).toNat≤70368744177664 then (nat_left.l0 k a1 (List.replicate (wrap64 ((l0.length:Int)+1):Int).toNat 0) l0 (l0.length:Int) 0) else (none)) else (none)
theorem nat_left.mono_l:∀ k,(∀ y0 y1 y2 y3 y4,LeO (nat_left.l0 k y0 y1 y2 y3 y4) (nat_left.l0 (k+1) y0 y1 y2 y3 y4))
 | 0=>fun _ _ _ _ _ r h=>by simp [nat_left.l0] at h
 | k+1=>by
  have ih0:=nat_left.mono_l k
  intro y0 y1 y2 y3 y4
  unfold nat_left.l0
  exact zM
theorem nat_left.mono:∀ a0 a1 k,LeO (nat_left.f k a0 a1) (nat_left.f (k+1) a0 a1):=by
 intro a0 a1 k
 have ih0:=nat_left.mono_l k
 unfold nat_left.f
 exact zM
theorem nat_left.calls (k:Nat) (A0:Option Addr) (c0:Nat) (l0:List Int) (a1:Int) (r:List Int) (w:World) (hr0:Kd.C (Kd.int .u32) w A0 l0.length l0) (hc0:l0.length≤c0) (h:nat_left.f k l0 a1=some r) :
 Calls Tryd.prog 78 #[.slice A0 l0.length c0,.int .i64 a1] w fun e w'=>∃ v0_:Value,e = .returned (v0_)∧Kd.R (Kd.int .u32) 74 w' w.heap.size (fun _=>True) v0_ r∧Below w.heap.size w w':=by
 have HR0:=Aside0.mk hr0
 have HC0:=Aside0.mk hc0
 clear hr0 hc0
 have HB:=Aside0.mk (Below.refl w.heap.size w)
 unfold nat_left.f at h
 have H:=h
 clear h
 generalize hji3:(wrap64 ((l0.length:Int)+1))=ji3 at H
 have hji3w:(IntKind.i64.wrap ((l0.length:Int)+1))=ji3:=(i64_w _).trans hji3
 obtain ⟨c4b0,c4b1,H⟩:=zE H
 obtain ⟨c5b0,c5b1,H⟩:=zE H
 obtain ⟨y116,Ny116⟩:∃ y_:List Int,Aside0 (y_=(List.replicate (ji3:Int).toNat 0)):=⟨_,⟨rfl⟩⟩
 replace H:(nat_left.l0 k a1 y116 l0 (l0.length:Int) 0)=some r:=zY Ny116 H
 have H':=Aside0.mk H
 clear H
 go_enter Tryd.func78,Tryd.ntmps78
 go_wp2_with (first | ((with_reducible refine gate_dst (N:=12) rfl ?_); refine Kd.R_make (Kd.int .u32) _ 74 rfl (N:=12) rfl 72 _ _ rfl ji3 rfl rfl Tryd.underlying72 (.int .u32 0) 4 info74 rfl (by decide) (by omega) 0 (ok:=fun _=>True) (okp:=fun _=>True) rfl zI trivial zD (Nat.le_trans (Nat.mul_le_mul_right _ (zD:ji3.toNat≤70368744177664)) (by omega)) (Below.refl _ _) (Nat.le_refl _) ?_; intro v117 w6 ho7 hb hg_ hnew_; clear hg_ hnew_; (first | rw [← Ny116.out] at ho7 | (simp only [Int.reduceToNat] at ho7; rw [← Ny116.out] at ho7)); have HO118:=Aside0.mk (Kd.R_lower ho7 (below_size zB)); replace HB:=zP hb; clear hb ho7))
 go_loopg [15] k (fun kq v15 w'=>∃ (x5_1:List Int) (x15_1:Int),v15 = .int .i64 x15_1∧Aside0 (nat_left.l0 kq a1 x5_1 l0 (l0.length:Int) x15_1=some r)∧Aside0 (kq≤k)∧Aside0 (Kd.R (Kd.int .u32) 74 w' w.heap.size (fun _=>True) v117 x5_1)∧Aside0 (Below w.heap.size w w'))
 case atStart=>exact ⟨(y116),(0),zS,H',⟨Nat.le_refl _⟩,⟨zO HO118⟩,⟨zB⟩⟩
 case round =>
  clear H'
  try clear p2
  try clear c4
  try clear c4b0
  try clear c4b1
  try clear c5
  try clear c5b0
  try clear c5b1
  try clear p6
  try clear c7
  obtain ⟨x5_1,x15_1,rfl,HA,HK1,HO_5,HB⟩:=hrel
  cases gk with
  | zero=>exact absurd HA.out (by simp [nat_left.l0])
  | succ k1 =>
   have H:=HA.out
   clear HA
   simp only [nat_left.l0] at H
   by_cases c8:x15_1 < (l0.length:Int)
   rotate_left
   ·rw [if_neg c8] at H
    have c8b0:decide (x15_1 < (l0.length:Int))=false:=decide_eq_false c8
    clear c8
    obtain rfl:=Option.some.inj H
    go_wp2
    go_ret
    exact ⟨_,zQ hji3,zO HO_5,zB⟩
   rw [if_pos c8] at H
   have c8b0:decide (x15_1 < (l0.length:Int))=true:=decide_eq_true c8
   clear c8
   obtain ⟨c9b0,H⟩:=zF H
   obtain ⟨c10b0,H⟩:=zF H
   obtain ⟨c11b0,c11b1,H⟩:=zE H
   generalize hji12:(shl .u64 (IntKind.u64.wrap (rd l0 x15_1)) a1)=ji12 at H
   have hji12_:(IntKind.u64.wrap ((IntKind.u64.wrap (rd l0 x15_1))*2^min a1.toNat 64))=ji12:=hji12
   have hji12z:a1≤64→(IntKind.u64.wrap ((IntKind.u64.wrap (rd l0 x15_1))*2^a1.toNat))=ji12:=shl_small hji12
   obtain ⟨c13b0,H⟩:=zF H
   obtain ⟨y121,Ny121⟩:∃ y_:List Int,Aside0 (y_=(x5_1.set (x15_1:Int).toNat (Go.bits .or .u32 (rd x5_1 x15_1) ((ji12)%4294967296)))):=⟨_,⟨rfl⟩⟩
   replace H:(if 0≤(wrap64 (x15_1+1)) then (if (wrap64 (x15_1+1)) < (x5_1.length:Int) then (nat_left.l0 k1 a1 (y121.set ((wrap64 (x15_1+1)):Int).toNat (((ji12)/4294967296)%4294967296)) l0 (l0.length:Int) (wrap64 (x15_1+1))) else (none)) else (none))=some r:=zY Ny121 H
   generalize hji15:(wrap64 (x15_1+1))=ji15 at H
   have hji15w:(IntKind.i64.wrap (x15_1+1))=ji15:=(i64_w _).trans hji15
   obtain ⟨c16b0,H⟩:=zF H
   obtain ⟨c17b0,H⟩:=zF H
   obtain ⟨y122,Ny122⟩:∃ y_:List Int,Aside0 (y_=(y121.set ((ji15):Int).toNat (((ji12)/4294967296)%4294967296))):=⟨_,⟨rfl⟩⟩
   replace H:(nat_left.l0 k1 a1 y122 l0 (l0.length:Int) ji15)=some r:=zY Ny122 H
   have H':=Aside0.mk H
   clear H
   have p119:0≤(x15_1:Int):=zD
   have q119:x15_1 < (l0.length:Int):=zD
   obtain ⟨ad119,e119,hx119_0⟩:=Kd.at_int HR0.out x15_1 p119 q119
   cases e119
   replace hx119_0:=(HB.out.cell (World.block_lt_of_cell? w _ hx119_0)).trans hx119_0
   replace p119:=eq_true p119
   replace q119:=eq_true q119
   obtain ⟨Ao19,co19,eo19⟩:=Kd.R_slice HO_5.out
   subst eo19
   have p120:0≤(x15_1:Int):=zD
   have q120:x15_1 < (x5_1.length:Int):=zD
   obtain ⟨ad120,e120,hx120_0⟩:=Kd.at_int (Kd.R_reads' HO_5.out).2.2 x15_1 p120 q120
   cases e120
   replace p120:=eq_true p120
   replace q120:=eq_true q120
   have p14:0≤(x15_1:Int):=zD
   have q14:(x15_1:Int) < ((x5_1.length:Int):Int):=zD
   obtain ⟨go14,co14,eo14,gb14,gl14,cl14,HG14⟩:=Kd.R_form HO_5.out (by omega)
   (first | cases eo14 | (injection eo14 with ea_ en_ ec_; (first | subst ea_ | (injection ea_ with ea_; subst ea_)); subst ec_; clear en_))
   have GB14:=Aside0.mk gb14
   have GG14:=Aside0.mk HG14
   clear gb14 gl14 HG14
   (first | simp only [add_plain] at hx120_0 | skip)
   obtain ⟨hx14_0,hf14_0⟩:=Kd.R_celln 0 HO_5.out (x15_1:Int) p14 q14
   replace p14:=eq_true p14
   replace q14:=eq_true q14
   have HP20:=Kd.R_putg HO_5.out (x15_1:Int) (Go.bits .or .u32 (rd x5_1 x15_1) ((ji12)%4294967296))
   go_wp2_with (first | ((with_reducible refine gate_store (t:=74) (p:=31) rfl ?_); refine store_event (t:=74) (p:=31) (v:=?vo_w21) (w1:=(wr.setCell ⟨go14,(x15_1:Int).toNat,none⟩ (.int .u32 (Go.bits .or .u32 (rd x5_1 x15_1) ((ji12)%4294967296))))) ?hg ?ho ?hn ?hr ?_; (case ho=>rfl); (case hg=>rfl); (case hn=>rfl); (case hr=>first | (go_simp; done) | (go_simp; rfl)); intro w21 hw; have hg:wr.grownBy w21 (some go14):=(by rw [hw]; exact HP20.2); have hp_:Kd.R (Kd.int .u32) 74 w21 w.heap.size (fun _=>True) (.slice (some ⟨go14,0,none⟩) x5_1.length co19) y121:=(by rw [hw,Ny121.out]; exact HP20.1); clear HP20; replace HO_5:=Aside0.mk (hp_); replace HB:=Aside0.mk ((by rw [hw]; exact below_set (HB.out) GB14.out:Below w.heap.size w w21)); clear hg hw hp_; have p18:0≤((ji15):Int):=zD; have q18:((ji15):Int) < ((x5_1.length:Int):Int):=zD; obtain ⟨hx18_0,hf18_0⟩:=Kd.R_celln 0 HO_5.out ((ji15):Int) p18 q18; replace p18:=eq_true p18; replace q18:=eq_true q18; obtain ⟨hy22_,hz22_⟩:=Kd.R_celln 0 HO_5.out ((ji15):Int) zD zD; have HP22:=Kd.R_putg HO_5.out ((ji15):Int) (((ji12)/4294967296)%4294967296)) | ((with_reducible refine gate_store (t:=74) (p:=38) rfl ?_); refine store_event (t:=74) (p:=38) (v:=?vo_w23) (w1:=(w21.setCell ⟨go14,((ji15):Int).toNat,none⟩ (.int .u32 (((ji12)/4294967296)%4294967296)))) ?hg ?ho ?hn ?hr ?_; (case ho=>rfl); (case hg=>rfl); (case hn=>rfl); (case hr=>first | (go_simp; done) | (go_simp; rfl)); intro w23 hw; have hg:w21.grownBy w23 (some go14):=(by rw [hw]; exact HP22.2); have hp_:Kd.R (Kd.int .u32) 74 w23 w.heap.size (fun _=>True) (.slice (some ⟨go14,0,none⟩) x5_1.length co19) y122:=(by rw [hw,Ny122.out]; exact HP22.1); clear HP22; replace HO_5:=Aside0.mk (hp_); replace HB:=Aside0.mk ((by rw [hw]; exact below_set (HB.out) GB14.out:Below w.heap.size w w23)); clear hg hw hp_))
   go_roundg k1
   case measure=>have:=HK1.out; omega
   case rel=>exact ⟨(y122),(ji15),(by first | rfl | (simp; done) | (simp only [← hji15]<;>(first | rfl | simp)) | (simp [*]; done)),H',⟨by have:=HK1.out; omega⟩,⟨zO HO_5⟩,⟨zB⟩⟩
end Go.Proofs.YtjefpjajkbldpaaDoor.A
