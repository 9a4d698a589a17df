import Derived.Test.YtmkgijiniopalaaDoorYA2
import Derived.Handy
namespace Go.Proofs.YtmkgijiniopalaaDoor.H
open Go.RowKit Go.Proofs.YtmkgijiniopalaaDoor.A Go.Proofs.YtmkgijiniopalaaDoorW.PrintWords Go.Proofs.YtmkgijiniopalaaDoorW.PrintLast Go.Proofs.YtmkgijiniopalaaDoorW.PrintMore
attribute [local go_sem] max2_int min2_int max_two min_two max_three min_three max_four min_four
set_option linter.unusedVariables false
set_option linter.unusedSimpArgs false
def nat_less.l0:Nat→List Int→List Int→Int→Int→Int→Option (List Int)
 | 0,_,_,_,_,_=>none
 | k + 1, x, y, b, n, i => if i < n then (if 0 ≤ i then (if i < (x.length : Int) then (if i < (y.length : Int) then
     nat_less.l0 k (x.set i.toNat ((IntKind.u64.wrap (IntKind.u64.wrap (IntKind.u64.wrap (rd x i) - b) - IntKind.u64.wrap (rd y i)))%4294967296)) y ((IntKind.u64.wrap (IntKind.u64.wrap (IntKind.u64.wrap (rd x i) - b) - IntKind.u64.wrap (rd y i)))/9223372036854775808) n (wrap64 (i+1))
     else nat_less.l0 k (x.set i.toNat ((IntKind.u64.wrap (IntKind.u64.wrap (rd x i) - b))%4294967296)) y ((IntKind.u64.wrap (IntKind.u64.wrap (rd x i) - b))/9223372036854775808) n (wrap64 (i+1))) else none) else none) else some x
def nat_less.f (k:Nat) (l0:List Int) (l1:List Int):Option (List Int):=nat_less.l0 k l0 l1 0 (l0.length:Int) 0
theorem nat_less.mono_l:∀ k,(∀ y0 y1 y2 y3 y4,LeO (nat_less.l0 k y0 y1 y2 y3 y4) (nat_less.l0 (k+1) y0 y1 y2 y3 y4))
 | 0=>fun _ _ _ _ _ r h=>by simp [nat_less.l0] at h
 | k+1=>by
   have ih0:=nat_less.mono_l k
   intro y0 y1 y2 y3 y4
   unfold nat_less.l0
   repeat' first
    | (with_reducible exact ih0 _ _ _ _ _)
    | (with_reducible exact LeO.refl _)
    | (with_reducible exact LeO.none _)
    | (with_reducible refine LeO.ite ?_ ?_)
theorem nat_less.mono:∀ a0 a1 k,LeO (nat_less.f k a0 a1) (nat_less.f (k+1) a0 a1):=fun a0 a1 k=>nat_less.mono_l k _ _ _ _ _
set_option maxHeartbeats 8000000 in
set_option maxRecDepth 100000 in
theorem nat_less.calls (k:Nat) (P0_:Nat→Prop) (u9000_:Value) (l0:List Int) (A1:Option Addr) (c1:Nat) (l1:List Int) (r:List Int) (w0 w:World) (hB:Below w0.heap.size w0 w) (ho0:Kd.R (Kd.int .u32) 89 w w0.heap.size P0_ u9000_ l0) (hr1:∀ W_,Kept w W_ (fun k_=>P0_ k_)→Kd.C (Kd.int .u32) W_ A1 l1.length l1) (hc1:l1.length≤c1) (h:nat_less.f k l0 l1=some r) :
 Calls Tryd.prog 80 #[u9000_,.slice A1 l1.length c1] w fun e w'=>e = .returned (.tuple #[])∧Kd.R (Kd.int .u32) 89 w' w0.heap.size (fun k_=>(P0_ k_∨w.heap.size≤k_)) u9000_ r∧Below w0.heap.size w0 w' ∧ Kept w w' (fun k_=>P0_ k_):=by
 have HO0:=Aside0.mk (show Kd.R (Kd.int .u32) 89 w w0.heap.size (fun k_=>(P0_ k_∨w.heap.size≤k_)) u9000_ l0 from Kd.R_mono ho0 (fun k_ hk=>(.inl hk)))
 have HR1:=Aside0.mk hr1
 have HC1:=Aside0.mk hc1
 clear hr1 hc1 ho0
 have HK:=Aside0.mk (Kept.refl w (fun k_=>P0_ k_))
 have HB:=Aside0.mk hB
 clear hB
 have H:(nat_less.l0 k l0 l1 0 (l0.length:Int) 0)=some r:=h
 clear h
 have H':=Aside0.mk H
 clear H
 obtain ⟨Ao8,co8,eo8⟩:=Kd.R_slice HO0.out
 subst eo8
 go_enter Tryd.func80,Tryd.ntmps80
 go_wp2
 go_loopg [4,10] k (fun kq v4 v10 w'=>∃ (x0_1:List Int) (x4_1:Int) (x10_1:Int),v4 = .int .u64 x4_1∧v10 = .int .i64 x10_1∧Aside0 (nat_less.l0 kq x0_1 l1 x4_1 (l0.length:Int) x10_1=some r)∧Aside0 (kq≤k)∧Aside0 (Kd.R (Kd.int .u32) 89 w' w0.heap.size (fun k_=>(P0_ k_∨w.heap.size≤k_)) (.slice Ao8 l0.length co8) x0_1)∧Aside0 (Kept w w' (fun k_=>P0_ k_))∧Aside0 (Below w0.heap.size w0 w'))
 case atStart=>exact ⟨l0,0,0,rfl,rfl,H',⟨Nat.le_refl _⟩,HO0,HK,HB⟩
 case round =>
  clear H' HO0 HK HB
  obtain ⟨x0_1,x4_1,x9_1,rfl,rfl,HA,HK1,HO_0,HK,HB⟩:=hrel
  have hlen:=(Kd.R_reads' HO_0.out).1.symm
  cases gk with
  | zero=>exact absurd HA.out (by simp [nat_less.l0])
  | succ k1 =>
    have H:=HA.out
    clear HA
    simp only [nat_less.l0] at H
    by_cases c3:x9_1 < (l0.length:Int)
    rotate_left
    ·rw [if_neg c3] at H
     have c3b0:decide (x9_1 < (l0.length:Int))=false:=decide_eq_false c3
     clear c3
     obtain rfl:=Option.some.inj H
     clear hlen H
     go_wp2
     first | go_end0 | ((try simp only [Exit.inBlock,Exit.then]); refine bodyPost_ret (results_none rfl _ _ _) rfl ?_)
     exact ⟨rfl,HO_0.out,HB.out,HK.out⟩
    rw [if_pos c3] at H
    by_cases c4:0≤x9_1
    rotate_left
    ·rw [if_neg c4] at H
     exact absurd H (by simp)
    rw [if_pos c4,if_pos (by rw [hlen]; exact c3)] at H
    have c3b0:decide (x9_1 < (l0.length:Int))=true:=decide_eq_true c3
    have c4b0:decide (0≤x9_1)=true:=decide_eq_true c4
    have q7:(x9_1:Int) < ((x0_1.length:Int):Int):=by rw [hlen]; exact c3
    have q7':(x9_1:Int) < ((l0.length:Int):Int):=c3
    have p7:=c4
    obtain ⟨go7,co7,eo7,gb7,gl7,cl7,HG7⟩:=Kd.R_form HO_0.out (by omega)
    injection eo7 with ea_ en_ ec_
    subst ea_
    subst ec_
    clear en_
    have GB7:=Aside0.mk gb7
    clear gb7 gl7 HG7
    have HO_1:Aside0 (Kd.R (Kd.int .u32) 89 wr w0.heap.size (fun k_=>(P0_ k_∨w.heap.size≤k_)) (.slice (some ⟨go7,0,none⟩) x0_1.length co8) x0_1):=⟨by rw [hlen]; exact HO_0.out⟩
    obtain ⟨hx7_0,hf7_0⟩:=Kd.R_celln 0 HO_1.out (x9_1:Int) p7 q7
    have HL:=Aside0.mk hlen
    clear hlen c3 c4
    by_cases c5:x9_1 < (l1.length:Int)
    ·rw [if_pos c5] at H
     have c5b0:decide (x9_1 < (l1.length:Int))=true:=decide_eq_true c5
     obtain ⟨ad128,e128,hx128_0⟩:=Kd.at_int (Kd.C_kept_now HR1.out HK.out) x9_1 p7 c5
     cases e128
     have q5:=eq_true c5
     clear c5
     replace p7:=eq_true p7
     replace q7:=eq_true q7
     replace q7':=eq_true q7'
     have H':=Aside0.mk H
     clear H
     have HP9:=Aside0.mk (Kd.R_putg HO_1.out (x9_1:Int) ((IntKind.u64.wrap (IntKind.u64.wrap (IntKind.u64.wrap (rd x0_1 x9_1) - x4_1) - IntKind.u64.wrap (rd l1 x9_1)))%4294967296))
     go_wp2
     go_roundg k1
     case measure=>have:=HK1.out; omega
     case rel=>exact ⟨_,_,_,rfl,rfl,H',⟨by have:=HK1.out; omega⟩,⟨by have hp_:=HP9.out.1; rw [HL.out] at hp_; exact hp_⟩,⟨Kept.of_grown (S:=(fun k_=>P0_ k_)) HP9.out.2 HK.out (fun k_ e_=>(HO_0.out.1 k_ e_))⟩,⟨below_set HB.out GB7.out⟩⟩
    rw [if_neg c5] at H
    have c5b0:decide (x9_1 < (l1.length:Int))=false:=decide_eq_false c5
    clear c5
    replace p7:=eq_true p7
    replace q7:=eq_true q7
    replace q7':=eq_true q7'
    have H':=Aside0.mk H
    clear H
    have HP9:=Aside0.mk (Kd.R_putg HO_1.out (x9_1:Int) ((IntKind.u64.wrap (IntKind.u64.wrap (rd x0_1 x9_1) - x4_1))%4294967296))
    go_wp2
    go_roundg k1
    case measure=>have:=HK1.out; omega
    case rel=>exact ⟨_,_,_,rfl,rfl,H',⟨by have:=HK1.out; omega⟩,⟨by have hp_:=HP9.out.1; rw [HL.out] at hp_; exact hp_⟩,⟨Kept.of_grown (S:=(fun k_=>P0_ k_)) HP9.out.2 HK.out (fun k_ e_=>(HO_0.out.1 k_ e_))⟩,⟨below_set HB.out GB7.out⟩⟩
end Go.Proofs.YtmkgijiniopalaaDoor.H
