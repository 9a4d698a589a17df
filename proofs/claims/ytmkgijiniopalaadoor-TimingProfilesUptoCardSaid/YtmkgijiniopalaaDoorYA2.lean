import Derived.Test.YtmkgijiniopalaaDoorProg
import Derived.Below
import Derived.Deep.Draws
import Derived.Deep.AppendLies
import Derived.Maps.AppendAt
import Derived.OwnWalk
import Derived.Laws.BytesArg
import Derived.Laws.MakeOwn
import Derived.Laws.OwnMore
import Derived.Deep.OwnRows
import Derived.Tactics
import Derived.Lib.ConvBytes
import Derived.Laws.Slices
import Derived.WalkKit
import Derived.KernelRfl
import Derived.RowKit3
import Derived.Deep.LoopGhost
import Derived.Deep.QuietTactic
import Derived.BigQuiet
import Derived.WideLaws
import Derived.Deep.DeepCutAuto
import Derived.Deep.CutBlock
import Derived.Deep.RegionHeld3
import Derived.Laws.Rows
import Derived.Lib.AppendStr
import Derived.ArgAppend
import Derived.Laws.IdiomCopy
import Derived.OrdersHeld
import Derived.Laws.BitsLemmas
import Derived.RowKit
import Derived.Test.YtmkgijiniopalaaDoorYWWords
set_option maxRecDepth 100000
set_option linter.unusedSimpArgs false
set_option linter.unusedVariables false
section
namespace Go.Proofs.YtmkgijiniopalaaDoor.A
open Go.RowKit Go.Proofs.YtmkgijiniopalaaDoorW.PrintWords Go.Proofs.YtmkgijiniopalaaDoorW.PrintLast Go.Proofs.YtmkgijiniopalaaDoorW.PrintMore
attribute [local go_sem] max2_int min2_int max_two min_two max_three min_three max_four min_four
def errW:Option Int→Value
 | none=>.nilIface
 | some c=>.iface 0 (.int .i64 c)
theorem errW_none:errW none = .nilIface:=rfl
theorem errW_some (c:Int):errW (some c) = .iface 0 (.int .i64 c):=rfl
theorem info5:(Tryd.prog.info? 5).map (fun i=>(i.zero,i.size,i.bytes))=some (some (.int .u8 0),1,1):=by kernel_rfl
theorem info89:(Tryd.prog.info? 89).map (fun i=>(i.zero,i.size,i.bytes))=some (some (.int .u32 0),1,4):=by kernel_rfl
end Go.Proofs.YtmkgijiniopalaaDoor.A
end
section
namespace Go.Proofs.YtmkgijiniopalaaDoor.Z
open Go.RowKit Go.Proofs.YtmkgijiniopalaaDoorW.PrintWords Go.Proofs.YtmkgijiniopalaaDoorW.PrintLast Go.Proofs.YtmkgijiniopalaaDoorW.PrintMore
theorem zB {p:Prop} (h:p:=by repeat (first | (with_reducible first | exact HB.out | apply below_alloc | apply pw_below_drewN | apply below_drew1) | exact HB.out)):p:=h
theorem zO {p q:Prop} (a:Aside0 p) (h:p→q:=by (intro h_; (with_reducible repeat (first | apply Kd.R_alloc | apply Kd.R_drewN | apply Kd.R_drew)); exact h_)):q:=h a.out
theorem zD {p:Prop} [Decidable p] (h:decide p=true:=by first | (with_reducible assumption) | assumption):p:=of_decide_eq_true h
theorem zR {p:Prop} (h:p:=by first | rfl | (simp [errW_none,errW_some]<;>rfl) | (simp [*,errW_none,errW_some]<;>rfl)):p:=h
theorem zQ {α:Type} {a b:α} {p:Prop} (e:a=b) (h:a=b→p:=by (intro h_; first | rfl | (simp [errW_none,errW_some]<;>rfl) | (simp only [← h_]; first | rfl | (simp [errW_none,errW_some]<;>rfl)) | (simp [*,errW_none,errW_some]<;>rfl))):p:=h e
theorem zS {p:Prop} (h:p:=by first | rfl | (simp; done) | (simp [*]; done)):p:=h
theorem zM {p:Prop} (h:p:=by repeat' first
 | (with_reducible apply_assumption)
 | (with_reducible exact LeO.refl _)
 | (with_reducible exact LeO.none _)
 | (with_reducible refine LeO.ite ?_ ?_)
 | (with_reducible refine LeO.bind ?_ (fun _=>?_))
 | apply_assumption
 | exact LeO.none _
 | refine LeO.ite ?_ ?_
 | refine LeO.bind ?_ (fun _=>?_)):p:=h
theorem zI {α:Type} {p:α→Prop}:∀ x,p x→p x:=fun _ h=>h
theorem zC {p q:Prop} (a:Aside0 p) (h:p→q:=by (intro h_; repeat (first | exact (Kd.R_reads' h_).2.2 | (with_reducible refine Kd.C_alloc ?_ _) | (with_reducible refine Kd.C_drewN ?_ _) | (with_reducible refine Kd.C_drew ?_)))):q:=h a.out
theorem zP {w W w2:World} (k:Below W.heap.size W w2) (h:Below w.heap.size w W:=by repeat (first | (with_reducible first | exact HB.out | apply below_alloc | apply pw_below_drewN | apply below_drew1) | exact HB.out)):Aside0 (Below w.heap.size w w2):=⟨below_step h k⟩
theorem zH {α β:Type} {o:Option α} {f:α→Option β} {r:β} (h:o.bind f=some r):∃ t,Aside0 (o=some t)∧f t=some r:=by
 obtain ⟨t,h1,h2⟩:=Option.bind_eq_some_iff.mp h
 exact ⟨t,⟨h1⟩,h2⟩
theorem zE {p:Prop} [Decidable p] {α:Type} {x:Option α} {r:α} (h:(if p then x else none)=some r):(p=True)∧decide p=true∧x=some r:=by
 by_cases c:p
 ·rw [if_pos c] at h; exact ⟨eq_true c,decide_eq_true c,h⟩
 rw [if_neg c] at h; exact absurd h (by simp)
theorem zF {p:Prop} [Decidable p] {α:Type} {x:Option α} {r:α} (h:(if p then x else none)=some r):decide p=true∧x=some r:=(zE h).2
theorem zY {α:Type} {x y:α} {p q:Prop} (n:Aside0 (y=x)) (h:p) (g:y=x→p→q:=by (intro hy_ h_; first | (rw [hy_]; with_reducible exact h_) | (have H2_:=(Option.bind_some _ _).symm.trans h_; rw [hy_]; with_reducible exact H2_) | (have H2_:=(Option.bind_some _ _).symm.trans h_; with_reducible exact H2_) | with_reducible exact h_ | (rw [hy_]; exact h_) | exact h_)):q:=g n.out h
section
variable {P:Program} {ops:Array Oper} {rest:List Oper} {o:Oper} {a:Act} {Q:Exit→Act→World→Prop} {w:World}
theorem zG (f:FuncId) {xs:Array Operand} {ts:Array TypeId} (h:wpList P ops Q (o::rest) a w) (_ho:o.op = .call { callee:=.value (.func f),args:=xs,argTypes:=ts }:=by exact rfl):wpList P ops Q (o::rest) a w:=h
theorem zL (N:Tmp) {f:FuncId} {fn:Func} (hf:P.funcs[f]? = some fn) (args:Array Value) {xs:Array Operand} {ts:Array TypeId}
 (h:Calls P f args w fun e w'=>∃ v,e = .returned v∧wpList P ops Q rest (a.put (some N) v) w')
 (hd:o.dst=some N:=by exact rfl) (hg:o.guard=none:=by exact rfl) (hname:(fn.name == "runtime.NumGoroutine")=false:=by kernel_rfl) (hb:fn.body.isSome=true:=by exact rfl)
 (hop:o.op = .call { callee:=.value (.func f),args:=xs,argTypes:=ts }:=by exact rfl)
 (hargs:xs.map a.eval=args:=by (try simp only [List.map_toArray,List.map_cons,List.map_nil]); first | done | rfl | (simp only [List.length_drop,List.length_take]; rfl)):wpList P ops Q (o::rest) a w :=
 goesL_ (some N) hd hg hf hname hb args hop hargs h
end
section
variable {P:Program} {ops:Array Oper} {Q:Exit→Act→World→Prop} {md:Region.Mode} {S:World→Prop} {ds:List Nat}
theorem zU {oi:Oper} {v:Value} {fuel:Nat} {l:Array Bool} {a a':Act} {w:World} (i N:Nat) (l':Array Bool) (h:wpAnyLast P md ops Q S ds fuel l' a' w) (hi:ops[i]? = some oi:=by exact rfl) (hN:oi.dst=some N:=by exact rfl)
 (hc:anyB md ops l l' i=true:=by exact any_of HT_.out (by kernel_rfl)) (hQ:∀ c a w,Q (.panic c) (a.put oi.dst v) w→Q (.panic c) a w:=by exact fun _ _ _ h=>h)
 (hy:Yields P ops oi v a:=by exact Or.inl ⟨by rfl,by (intro w'; go_simp; with_reducible rfl)⟩) (ha:a.put (some N) v=a':=by (simp only [Act.put,List.setIfInBounds_toArray,List.set_cons_zero,List.set_cons_succ,i64_w,i32_w]; rfl)) :
 wpAnyLast P md ops Q S ds (fuel+1) l a w:=pure_ l' hi hN hc hQ hy ha h
theorem zV {oi:Oper} {fuel:Nat} {l:Array Bool} {a a':Act} {w:World} (i N:Nat) (l':Array Bool) (h:wpAnyLast P md ops Q S ds fuel l' a' w) (hi:ops[i]? = some oi:=by exact rfl) (hN:oi.dst=some N:=by exact rfl)
 (hc:anyB md ops l l' i=true:=by exact any_of HT_.out (by kernel_rfl)) (hQ:∀ c a w,Q (.panic c) (a.put oi.dst undef) w→Q (.panic c) a w:=by exact fun _ _ _ h=>h)
 (hy:Yields P ops oi undef a:=by exact Or.inr ⟨by rfl,rfl⟩) (ha:a.put (some N) undef=a':=by (simp only [Act.put,List.setIfInBounds_toArray,List.set_cons_zero,List.set_cons_succ,i64_w,i32_w]; rfl)) :
 wpAnyLast P md ops Q S ds (fuel+1) l a w:=pure_ l' hi hN hc hQ hy ha h
end
end Go.Proofs.YtmkgijiniopalaaDoor.Z
end
section
namespace Go.Proofs.YtmkgijiniopalaaDoor.A
open Go.RowKit Go.Proofs.YtmkgijiniopalaaDoor.Z Go.Proofs.YtmkgijiniopalaaDoorW.PrintWords Go.Proofs.YtmkgijiniopalaaDoorW.PrintLast Go.Proofs.YtmkgijiniopalaaDoorW.PrintMore
attribute [local go_sem] max2_int min2_int max_two min_two max_three min_three max_four min_four
set_option maxHeartbeats 8000000
def nat_trim.l0:Nat→ByteArray→Option (ByteArray)
 | 0,_=>none
 | k+1,x0=>if (x0.size:Int) > 0 then (if 0 < (x0.size:Int) then (if (bt x0 0)=0 then (if 1≤(x0.size:Int) then (nat_trim.l0 k (x0.extract 1 x0.size)) else (none)) else (some x0)) else (none)) else (some x0)
def nat_trim.f (k:Nat) (a0:ByteArray):Option (ByteArray):=nat_trim.l0 k a0
theorem nat_trim.mono_l:∀ k,(∀ y0,LeO (nat_trim.l0 k y0) (nat_trim.l0 (k+1) y0))
 | 0=>fun _ r h=>by simp [nat_trim.l0] at h
 | k+1=>by
  have ih0:=nat_trim.mono_l k
  intro y0
  unfold nat_trim.l0
  exact zM
theorem nat_trim.mono:∀ a0 k,LeO (nat_trim.f k a0) (nat_trim.f (k+1) a0):=by
 intro a0 k
 have ih0:=nat_trim.mono_l k
 unfold nat_trim.f
 exact zM
theorem nat_trim.calls (k:Nat) (a0:ByteArray) (r:ByteArray) (w:World) (h:nat_trim.f k a0=some r) :
 Calls Tryd.prog 72 #[.string a0] w fun e w'=>e = .returned (.string r)∧Drawn0 w w':=by
 unfold nat_trim.f at h
 have H:=h
 clear h
 have H':=Aside0.mk H
 clear H
 go_enter Tryd.func72,Tryd.ntmps72
 go_wp2
 go_loopg [0] k (fun kq v0 w'=>∃ (x0_1:ByteArray),v0 = .string x0_1∧Aside0 (nat_trim.l0 kq x0_1=some r)∧Aside0 (kq≤k)∧Drawn0 w w')
 case atStart=>exact ⟨(a0),zS,H',⟨Nat.le_refl _⟩,by repeat (first | exact Drawn0.refl _ | apply Drawn0.step)⟩
 case round =>
  clear H'
  obtain ⟨x0_1,rfl,HA,HK1,⟨m1,rfl⟩⟩:=hrel
  cases gk with
  | zero=>exact absurd HA.out (by simp [nat_trim.l0])
  | succ k1 =>
   have H:=HA.out
   clear HA
   simp only [nat_trim.l0] at H
   by_cases c2:(x0_1.size:Int) > 0
   rotate_left
   ·rw [if_neg c2] at H
    have c2b0:decide (0 < (x0_1.size:Int))=false:=decide_eq_false c2
    have c2b1:decide (0 < x0_1.size)=false:=decide_eq_false (by omega)
    clear c2
    obtain rfl:=Option.some.inj H
    go_wp2
    go_ret
    exact ⟨zS,by repeat (first | exact Drawn0.refl _ | apply Drawn0.step)⟩
   rw [if_pos c2] at H
   have c2b0:decide (0 < (x0_1.size:Int))=true:=decide_eq_true c2
   have c2b1:decide (0 < x0_1.size)=true:=decide_eq_true (by omega)
   clear c2
   by_cases c3:0 < (x0_1.size:Int)
   rotate_left
   ·rw [if_neg c3] at H
    exact absurd H (by simp)
   rw [if_pos c3] at H
   have c3b0:decide (0 < (x0_1.size:Int))=true:=decide_eq_true c3
   have c3b1:decide (0 < x0_1.size)=true:=decide_eq_true (by omega)
   clear c3
   by_cases c5:(bt x0_1 0)=0
   ·rw [if_pos c5] at H
    have c5b0:((bt x0_1 0)==0)=true:=beq_iff_eq.mpr c5
    have c5b1:((bt x0_1 0) != 0)=false:=bne_eq_false_iff_eq.mpr c5
    clear c5
    obtain ⟨c6b0,c6b1,H⟩:=zE H
    have H':=Aside0.mk H
    clear H
    have p4:0≤(0:Int):=(by omega)
    have q4:0 < x0_1.size:=(by have:(0:Int) < (x0_1.size:Int):=zD; omega)
    have hx4:∀ h:0 < x0_1.size,((x0_1[0]'h).toNat:Int)=bt x0_1 0:=bt_at x0_1 0
    clear p4
    have qi4:(0 < (x0_1.size:Int))=True:=eq_true zD
    replace q4:=eq_true q4
    go_wp2
    go_roundg k1
    case measure=>have:=HK1.out; omega
    case rel=>exact ⟨(x0_1.extract 1 x0_1.size),zS,H',⟨by have:=HK1.out; omega⟩,by repeat (first | exact Drawn0.refl _ | apply Drawn0.step)⟩
   rw [if_neg c5] at H
   have c5b0:((bt x0_1 0)==0)=false:=beq_eq_false_iff_ne.mpr c5
   have c5b1:((bt x0_1 0) != 0)=true:=bne_iff_ne.mpr c5
   obtain rfl:=Option.some.inj H
   have p4:0≤(0:Int):=(by omega)
   have q4:0 < x0_1.size:=(by have:(0:Int) < (x0_1.size:Int):=zD; omega)
   have hx4:∀ h:0 < x0_1.size,((x0_1[0]'h).toNat:Int)=bt x0_1 0:=bt_at x0_1 0
   clear p4
   have qi4:(0 < (x0_1.size:Int))=True:=eq_true zD
   replace q4:=eq_true q4
   go_wp2
   go_ret
   exact ⟨zS,by repeat (first | exact Drawn0.refl _ | apply Drawn0.step)⟩
def nat_short.l0:Nat→ByteArray→Int→Int→Int→Option (Int)
 | 0,_,_,_,_=>none
 | k+1,x0,x3,x6,x7=>if x7 < x6 then (if 0≤x7 then (if x7 < (x0.size:Int) then (nat_short.l0 k x0 (Go.bits .or .u64 (IntKind.u64.wrap (x3*256)) (IntKind.u64.wrap (bt x0 x7))) x6 (wrap64 (x7+1))) else (none)) else (none)) else (some x3)
def nat_short.f (k:Nat) (a0:ByteArray):Option (Int):=nat_short.l0 k a0 0 (a0.size:Int) 0
theorem nat_short.mono_l:∀ k,(∀ y0 y1 y2 y3,LeO (nat_short.l0 k y0 y1 y2 y3) (nat_short.l0 (k+1) y0 y1 y2 y3))
 | 0=>fun _ _ _ _ r h=>by simp [nat_short.l0] at h
 | k+1=>by
  have ih0:=nat_short.mono_l k
  intro y0 y1 y2 y3
  unfold nat_short.l0
  exact zM
theorem nat_short.mono:∀ a0 k,LeO (nat_short.f k a0) (nat_short.f (k+1) a0):=by
 intro a0 k
 have ih0:=nat_short.mono_l k
 unfold nat_short.f
 exact zM
theorem nat_short.calls (k:Nat) (a0:ByteArray) (r:Int) (w:World) (h:nat_short.f k a0=some r) :
 Calls Tryd.prog 74 #[.string a0] w fun e w'=>e = .returned (.int .u64 r)∧Drawn0 w w':=by
 unfold nat_short.f at h
 have H:=h
 clear h
 have H':=Aside0.mk H
 clear H
 go_enter Tryd.func74,Tryd.ntmps74
 go_wp2
 go_loopg [3,7] k (fun kq v3 v7 w'=>∃ (x3_1:Int) (x7_1:Int),v3 = .int .u64 x3_1∧v7 = .int .i64 x7_1∧Aside0 (nat_short.l0 kq a0 x3_1 (a0.size:Int) x7_1=some r)∧Aside0 (kq≤k)∧Drawn0 w w')
 case atStart=>exact ⟨(0),(0),zS,zS,H',⟨Nat.le_refl _⟩,by repeat (first | exact Drawn0.refl _ | apply Drawn0.step)⟩
 case round =>
  clear H'
  obtain ⟨x3_1,x7_1,rfl,rfl,HA,HK1,⟨m1,rfl⟩⟩:=hrel
  cases gk with
  | zero=>exact absurd HA.out (by simp [nat_short.l0])
  | succ k1 =>
   have H:=HA.out
   clear HA
   simp only [nat_short.l0] at H
   by_cases c2:x7_1 < (a0.size:Int)
   ·rw [if_pos c2] at H
    have c2b0:decide (x7_1 < (a0.size:Int))=true:=decide_eq_true c2
    clear c2
    obtain ⟨c3b0,H⟩:=zF H
    obtain ⟨c4b0,H⟩:=zF H
    have H':=Aside0.mk H
    clear H
    have p5:0≤(x7_1:Int):=zD
    have q5:x7_1 < (a0.size:Int):=zD
    have hx5:=bt_at a0 x7_1
    replace p5:=eq_true p5
    replace q5:=eq_true q5
    go_wp2
    go_roundg k1
    case measure=>have:=HK1.out; omega
    case rel=>exact ⟨(Go.bits .or .u64 (IntKind.u64.wrap (x3_1*256)) (IntKind.u64.wrap (bt a0 x7_1))),(wrap64 (x7_1+1)),zS,zS,H',⟨by have:=HK1.out; omega⟩,by repeat (first | exact Drawn0.refl _ | apply Drawn0.step)⟩
   rw [if_neg c2] at H
   have c2b0:decide (x7_1 < (a0.size:Int))=false:=decide_eq_false c2
   clear c2
   obtain rfl:=Option.some.inj H
   go_wp2
   go_ret
   exact ⟨zS,by repeat (first | exact Drawn0.refl _ | apply Drawn0.step)⟩
def nat_words.l0:Nat→ByteArray→List Int→Int→Int→Option (List Int)
 | 0,_,_,_,_=>none
 | k+1,x0,x3,x14,x15=>if x15 < x14 then (if 0≤(wrap64 (Int.tdiv x15 4)) then (if (wrap64 (Int.tdiv x15 4)) < (x3.length:Int) then (if 0≤(wrap64 ((wrap64 ((x0.size:Int) - 1)) - x15)) then (if (wrap64 ((wrap64 ((x0.size:Int) - 1)) - x15)) < (x0.size:Int) then (if 0≤(wrap64 ((Int.tmod x15 4)*8)) then (nat_words.l0 k x0 (x3.set ((wrap64 (Int.tdiv x15 4)):Int).toNat (Go.bits .or .u32 (rd x3 (wrap64 (Int.tdiv x15 4))) (shl .u32 ((bt x0 (wrap64 ((wrap64 ((x0.size:Int) - 1)) - x15)))%4294967296) (wrap64 ((Int.tmod x15 4)*8))))) x14 (wrap64 (x15+1))) else (none)) else (none)) else (none)) else (none)) else (none)) else (some x3)
def nat_words.f (k:Nat) (a0:ByteArray):Option (List Int):=(nat_trim.f k a0).bind fun t101=>(if 0≤(wrap64 (Int.tdiv (wrap64 ((t101.size:Int)+3)) 4)) then (if (wrap64 (Int.tdiv (wrap64 ((t101.size:Int)+3)) 4):Int).toNat≤70368744177664 then (nat_words.l0 k t101 (List.replicate (wrap64 (Int.tdiv (wrap64 ((t101.size:Int)+3)) 4):Int).toNat 0) (t101.size:Int) 0) else (none)) else (none))
theorem nat_words.mono_l:∀ k,(∀ y0 y1 y2 y3,LeO (nat_words.l0 k y0 y1 y2 y3) (nat_words.l0 (k+1) y0 y1 y2 y3))
 | 0=>fun _ _ _ _ r h=>by simp [nat_words.l0] at h
 | k+1=>by
  have ih0:=nat_words.mono_l k
  intro y0 y1 y2 y3
  unfold nat_words.l0
  have m0:=@nat_trim.mono
  exact zM
theorem nat_words.mono:∀ a0 k,LeO (nat_words.f k a0) (nat_words.f (k+1) a0):=by
 intro a0 k
 have ih0:=nat_words.mono_l k
 unfold nat_words.f
 have m0:=@nat_trim.mono
 exact zM
def nat_words.T7:Bool × List (List Nat × List Nat):=(true,[([],[]),([],[]),([1],[1]),([0,2],[0,2]),([3],[3]),([],[]),([],[]),([5,6],[5,6]),([7],[7]),([],[]),([9],[9]),([10],[10]),([8,11],[8,11]),([4,12],[4,12]),([0,2,0,1,2,3,4,5,6,7,8,9,10,11,12,13],[0,2]),([14,13,0,1,2,3,4,5,6,7,8,9,10,11,12,13],[13,14])])
def nat_words.B7:List Nat:=[0,0,2,7,15,0,0,96,224,0,512,1536,4064,8191,16383,32767]
theorem nat_words.tab7:rtab .any (opsOf Tryd.f75 7)=nat_words.T7:=by kernel_rfl
theorem nat_words.bits7:waitsOk nat_words.T7.2 nat_words.B7=true:=by kernel_rfl
theorem nat_words.calls (k:Nat) (a0:ByteArray) (r:List Int) (w:World) (h:nat_words.f k a0=some r) :
 Calls Tryd.prog 75 #[.string a0] w fun e w'=>∃ v0_:Value,e = .returned (v0_)∧Kd.R (Kd.int .u32) 89 w' w.heap.size (fun _=>True) v0_ r∧Below w.heap.size w w':=by
 have HB:=Aside0.mk (Below.refl w.heap.size w)
 unfold nat_words.f at h
 have H:=h
 clear h
 obtain ⟨t101,A2,H⟩:=zH H
 generalize hji3:(wrap64 (Int.tdiv (wrap64 ((t101.size:Int)+3)) 4))=ji3 at H
 (try rw [hji3] at A2)
 have hji3w:(IntKind.i64.wrap (Int.tdiv (wrap64 ((t101.size:Int)+3)) 4))=ji3:=(i64_w _).trans hji3
 obtain ⟨c4b0,c4b1,H⟩:=zE H
 obtain ⟨c5b0,c5b1,H⟩:=zE H
 obtain ⟨y102,Ny102⟩:∃ y_:List Int,Aside0 (y_=(List.replicate (ji3:Int).toNat 0)):=⟨_,⟨rfl⟩⟩
 replace H:(nat_words.l0 k t101 y102 (t101.size:Int) 0)=some r:=zY Ny102 H
 have H':=Aside0.mk H
 clear H
 go_enter Tryd.func75,Tryd.ntmps75
 go_wp2_with (first | ((with_reducible refine zG 72 ?_); refine zL 7 Tryd.func72 #[.string a0] ?_; (with_reducible refine (nat_trim.calls k a0 t101 _ A2.out).mono ?_); rintro e w' ⟨rfl,⟨nd,rfl⟩⟩; refine ⟨_,rfl,?_⟩) | ((with_reducible refine gate_dst (N:=12) rfl ?_); refine Kd.R_make (Kd.int .u32) _ 89 rfl (N:=12) rfl 47 _ _ rfl ji3 rfl rfl Tryd.underlying47 (.int .u32 0) 4 info89 rfl (by decide) (by omega) 0 (ok:=fun _=>True) (okp:=fun _=>True) rfl zI trivial zD (Nat.le_trans (Nat.mul_le_mul_right _ (zD:ji3.toNat≤70368744177664)) (by omega)) (Below.refl _ _) (Nat.le_refl _) ?_; intro v103 w6 ho7 hb hg_ hnew_; clear hg_ hnew_; (first | rw [← Ny102.out] at ho7 | (simp only [Int.reduceToNat] at ho7; rw [← Ny102.out] at ho7)); have HO104:=Aside0.mk (Kd.R_lower ho7 (below_size zB)); replace HB:=zP hb; clear hb ho7))
 go_loopg [15] k (fun kq v15 w'=>∃ (x3_1:List Int) (x15_1:Int),v15 = .int .i64 x15_1∧Aside0 (nat_words.l0 kq t101 x3_1 (t101.size:Int) x15_1=some r)∧Aside0 (kq≤k)∧Aside0 (Kd.R (Kd.int .u32) 89 w' w.heap.size (fun _=>True) v103 x3_1)∧Aside0 (Below w.heap.size w w'))
 case atStart=>exact ⟨(y102),(0),zS,H',⟨Nat.le_refl _⟩,⟨zO HO104⟩,⟨zB⟩⟩
 case round =>
  clear H'
  try clear p2
  try clear c4
  try clear c4b0
  try clear c4b1
  try clear c5
  try clear c5b0
  try clear c5b1
  try clear p6
  try clear c7
  obtain ⟨x3_1,x15_1,rfl,HA,HK1,HO_3,HB⟩:=hrel
  cases gk with
  | zero=>exact absurd HA.out (by simp [nat_words.l0])
  | succ k1 =>
   have H:=HA.out
   clear HA
   simp only [nat_words.l0] at H
   by_cases c8:x15_1 < (t101.size:Int)
   rotate_left
   ·rw [if_neg c8] at H
    have c8b0:decide (x15_1 < (t101.size:Int))=false:=decide_eq_false c8
    clear c8
    obtain rfl:=Option.some.inj H
    go_wp2
    go_ret
    exact ⟨_,zQ hji3,zO HO_3,zB⟩
   rw [if_pos c8] at H
   have c8b0:decide (x15_1 < (t101.size:Int))=true:=decide_eq_true c8
   clear c8
   generalize hji9:(wrap64 (Int.tdiv x15_1 4))=ji9 at H
   have hji9w:(IntKind.i64.wrap (Int.tdiv x15_1 4))=ji9:=(i64_w _).trans hji9
   obtain ⟨c10b0,H⟩:=zF H
   obtain ⟨c11b0,H⟩:=zF H
   generalize hji12:(wrap64 ((wrap64 ((t101.size:Int) - 1)) - x15_1))=ji12 at H
   have hji12w:(IntKind.i64.wrap ((wrap64 ((t101.size:Int) - 1)) - x15_1))=ji12:=(i64_w _).trans hji12
   obtain ⟨c13b0,H⟩:=zF H
   obtain ⟨c14b0,H⟩:=zF H
   generalize hji16:(wrap64 ((Int.tmod x15_1 4)*8))=ji16 at H
   have hji16w:(IntKind.i64.wrap ((Int.tmod x15_1 4)*8))=ji16:=(i64_w _).trans hji16
   obtain ⟨c17b0,c17b1,H⟩:=zE H
   generalize hji18:(shl .u32 ((bt t101 (ji12))%4294967296) (ji16))=ji18 at H
   have hji18_:(IntKind.u32.wrap (((bt t101 (ji12))%4294967296)*2^min (ji16).toNat 32))=ji18:=hji18
   have hji18z:(ji16)≤32→(IntKind.u32.wrap (((bt t101 (ji12))%4294967296)*2^(ji16).toNat))=ji18:=shl_small hji18
   obtain ⟨y106,Ny106⟩:∃ y_:List Int,Aside0 (y_=(x3_1.set ((ji9):Int).toNat (Go.bits .or .u32 (rd x3_1 (ji9)) (ji18)))):=⟨_,⟨rfl⟩⟩
   replace H:(nat_words.l0 k1 t101 y106 (t101.size:Int) (wrap64 (x15_1+1)))=some r:=zY Ny106 H
   have H':=Aside0.mk H
   clear H
   try go_wp2
   have n0_:=Aside0.mk (Kd.R_drew HO_3.out)
   have n1_:=Aside0.mk (below_drew1 HB.out)
   clear HO_3
   clear HB
   have HO_3:=n0_
   have HB:=n1_
   clear n0_ n1_
   obtain ⟨Ao21,co21,eo21⟩:=Kd.R_slice HO_3.out
   (first | subst eo21 | (injection eo21 with f1_ f2_ f3_; have f4_:=f1_.symm; have f5_:=f3_.symm; clear f1_ f2_ f3_; subst f4_; subst f5_))
   have p105:0≤((ji9):Int):=zD
   have q105:(ji9) < (x3_1.length:Int):=zD
   obtain ⟨ad105,e105,hx105_0⟩:=Kd.at_int (Kd.R_reads' HO_3.out).2.2 (ji9) p105 q105
   cases e105
   replace p105:=eq_true p105
   replace q105:=eq_true q105
   have p15:0≤((ji12):Int):=zD
   have q15:(ji12) < (t101.size:Int):=zD
   have hx15:=bt_at t101 (ji12)
   replace p15:=eq_true p15
   replace q15:=eq_true q15
   have p19:0≤((ji9):Int):=zD
   have q19:((ji9):Int) < ((x3_1.length:Int):Int):=zD
   obtain ⟨go19,co19,eo19,gb19,gl19,cl19,HG19⟩:=Kd.R_form HO_3.out (by omega)
   (first | cases eo19 | (injection eo19 with ea_ en_ ec_; (first | subst ea_ | (injection ea_ with ea_; subst ea_)); subst ec_; clear en_))
   have GB19:=Aside0.mk gb19
   have GG19:=Aside0.mk HG19
   clear gb19 gl19 HG19
   (first | simp only [add_plain] at hx105_0 | skip)
   obtain ⟨hx19_0,hf19_0⟩:=Kd.R_celln 0 HO_3.out ((ji9):Int) p19 q19
   replace p19:=eq_true p19
   replace q19:=eq_true q19
   have HP22:=Kd.R_putn HO_3.out ((ji9):Int) (Go.bits .or .u32 (rd x3_1 (ji9)) (ji18))
   rw [← Ny106.out] at HP22
   have HQ22:=Aside0.mk HP22
   clear HP22
   refine start_ (n:=16) (S:=fun w'=>w'.cell? ⟨go19,((ji9)).toNat,none⟩=some (.int .u32 (rd x3_1 (ji9)))) (ds:=[15]) #[false,false,false,false,false,false,false,false,false,false,false,false,false,false,false,false] (by kernel_rfl) rfl rfl (hx105_0) (fun hHeld=>?_); refine with_tabW nat_words.tab7 nat_words.bits7 (fun HT_ HW_=>?_)
   generalize wr.drew=w20 at HO_3 HB GG19 HQ22 hf19_0 hx105_0 hx19_0 hHeld ⊢
   refine zU 0 23 #[true,false,false,false,false,false,false,false,false,false,false,false,false,false,false,false] ?_
   refine zU 1 24 #[true,true,false,false,false,false,false,false,false,false,false,false,false,false,false,false] ?_
   refine zU 2 25 #[true,true,true,false,false,false,false,false,false,false,false,false,false,false,false,false] ?_
   refine zU 3 26 #[true,true,true,true,false,false,false,false,false,false,false,false,false,false,false,false] ?_
   refine zU 5 28 #[true,true,true,true,false,true,false,false,false,false,false,false,false,false,false,false] ?_
   refine zU 6 29 #[true,true,true,true,false,true,true,false,false,false,false,false,false,false,false,false] ?_
   refine zU 9 32 #[true,true,true,true,false,true,true,false,false,true,false,false,false,false,false,false] ?_
   refine zU 10 33 #[true,true,true,true,false,true,true,false,false,true,true,false,false,false,false,false] ?_
   refine zU 11 34 #[true,true,true,true,false,true,true,false,false,true,true,true,false,false,false,false] ?_
   refine take_ (i:=4) (N:=some 27) (v:=?_) (a':=?_) #[true,true,true,true,true,true,true,false,false,true,true,true,false,false,false,false] rfl rfl (take_ofW HT_.out HW_.out (by kernel_rfl)) (fun _ _ _ h=>h) (Or.inl ⟨by rfl,?_⟩) hHeld ?_ ?_
   rotate_left
   ·intro w' s0
    go_simp
    with_reducible rfl
   rotate_left
   ·simp only [Act.put,List.setIfInBounds_toArray,List.set_cons_zero,List.set_cons_succ,i64_w,i32_w]
    rfl
   refine take_ (i:=7) (N:=some 30) (v:=?_) (a':=?_) #[true,true,true,true,true,true,true,true,false,true,true,true,false,false,false,false] rfl rfl (take_ofW HT_.out HW_.out (by kernel_rfl)) (fun _ _ _ h=>h) (Or.inl ⟨by rfl,?_⟩) hHeld ?_ ?_
   rotate_left
   ·intro w' s0
    go_simp
    with_reducible rfl
   rotate_left
   ·simp only [Act.put,List.setIfInBounds_toArray,List.set_cons_zero,List.set_cons_succ,i64_w,i32_w]
    rfl
   refine zU 8 31 #[true,true,true,true,true,true,true,true,true,true,true,true,false,false,false,false] ?_
   refine zU 12 35 #[true,true,true,true,true,true,true,true,true,true,true,true,true,false,false,false] ?_
   refine zU 13 36 #[true,true,true,true,true,true,true,true,true,true,true,true,true,true,false,false] ?_
   refine zU 14 37 #[true,true,true,true,true,true,true,true,true,true,true,true,true,true,true,false] ?_
   refine last_ (i:=15) (N:=none) #[true,true,true,true,true,true,true,true,true,true,true,true,true,true,true,true] rfl rfl (one_of HT_.out (by kernel_rfl)) (by decide) (fun K hK=>?_)
   refine skip_ (w1:=?_) (by rfl) rfl ?_ ?_
   rotate_left
   ·go_simp
    rfl
   refine hK.out _ _ ?_
   clear hK K
   refine done_ (done_of HT_.out (by kernel_rfl)) ?_
   try go_wp2
   go_roundg k1
   case measure=>have:=HK1.out; omega
   case rel=>exact ⟨(y106),(wrap64 (x15_1+1)),zS,H',⟨by have:=HK1.out; omega⟩,⟨by (with_reducible repeat (first | apply Kd.R_alloc | apply Kd.R_drewN | apply Kd.R_drew)); first | exact HQ22.out | (have hq_:=HQ22.out; rw [← hji18] at hq_; unfold shl at hq_; simp only [IntKind.wrap_u32] at hq_; exact hq_)⟩,⟨by repeat (first | (with_reducible first | exact HB.out | apply below_alloc | apply pw_below_drewN | apply below_drew1 | refine below_set ?_ GB19.out) | exact HB.out)⟩⟩
def nat_text.l0:Nat→List Int→List Int→List Int→Int→Int→Option (ByteArray)
 | 0,_,_,_,_,_=>none
 | k+1,x0,x3,x11,x12,x13=>if x13 < x12 then (if 0≤x13 then (if x13 < (x11.length:Int) then (if 0≤(wrap64 (4*(wrap64 ((wrap64 ((x0.length:Int) - 1)) - x13)))) then (if (wrap64 (4*(wrap64 ((wrap64 ((x0.length:Int) - 1)) - x13)))) < (x3.length:Int) then (if 0≤(wrap64 ((wrap64 (4*(wrap64 ((wrap64 ((x0.length:Int) - 1)) - x13))))+1)) then (if (wrap64 ((wrap64 (4*(wrap64 ((wrap64 ((x0.length:Int) - 1)) - x13))))+1)) < (x3.length:Int) then (if 0≤(wrap64 ((wrap64 (4*(wrap64 ((wrap64 ((x0.length:Int) - 1)) - x13))))+2)) then (if (wrap64 ((wrap64 (4*(wrap64 ((wrap64 ((x0.length:Int) - 1)) - x13))))+2)) < (x3.length:Int) then (if 0≤(wrap64 ((wrap64 (4*(wrap64 ((wrap64 ((x0.length:Int) - 1)) - x13))))+3)) then (if (wrap64 ((wrap64 (4*(wrap64 ((wrap64 ((x0.length:Int) - 1)) - x13))))+3)) < (x3.length:Int) then (nat_text.l0 k x0 ((((x3.set ((wrap64 (4*(wrap64 ((wrap64 ((x0.length:Int) - 1)) - x13)))):Int).toNat (((rd x11 x13)/16777216)%256)).set ((wrap64 ((wrap64 (4*(wrap64 ((wrap64 ((x0.length:Int) - 1)) - x13))))+1)):Int).toNat (((rd x11 x13)/65536)%256)).set ((wrap64 ((wrap64 (4*(wrap64 ((wrap64 ((x0.length:Int) - 1)) - x13))))+2)):Int).toNat (((rd x11 x13)/256)%256)).set ((wrap64 ((wrap64 (4*(wrap64 ((wrap64 ((x0.length:Int) - 1)) - x13))))+3)):Int).toNat ((rd x11 x13)%256)) x11 x12 (wrap64 (x13+1))) else (none)) else (none)) else (none)) else (none)) else (none)) else (none)) else (none)) else (none)) else (none)) else (none)) else ((nat_trim.f k (strOfNums x3)).bind fun t115=>(some t115))
def nat_text.f (k:Nat) (l0:List Int):Option (ByteArray):=if 0≤(wrap64 (4*(l0.length:Int))) then (if (wrap64 (4*(l0.length:Int)):Int).toNat≤281474976710656 then (nat_text.l0 k l0 (List.replicate (wrap64 (4*(l0.length:Int)):Int).toNat 0) l0 (l0.length:Int) 0) else (none)) else (none)
theorem nat_text.mono_l:∀ k,(∀ y0 y1 y2 y3 y4,LeO (nat_text.l0 k y0 y1 y2 y3 y4) (nat_text.l0 (k+1) y0 y1 y2 y3 y4))
 | 0=>fun _ _ _ _ _ r h=>by simp [nat_text.l0] at h
 | k+1=>by
  have ih0:=nat_text.mono_l k
  intro y0 y1 y2 y3 y4
  unfold nat_text.l0
  have m0:=@nat_trim.mono
  exact zM
theorem nat_text.mono:∀ a0 k,LeO (nat_text.f k a0) (nat_text.f (k+1) a0):=by
 intro a0 k
 have ih0:=nat_text.mono_l k
 unfold nat_text.f
 have m0:=@nat_trim.mono
 exact zM
theorem nat_text.calls (k:Nat) (A0:Option Addr) (c0:Nat) (l0:List Int) (r:ByteArray) (w:World) (hr0:Kd.C (Kd.int .u32) w A0 l0.length l0) (hc0:l0.length≤c0) (h:nat_text.f k l0=some r) :
 Calls Tryd.prog 76 #[.slice A0 l0.length c0] w fun e w'=>e = .returned (.string r)∧Below w.heap.size w w':=by
 have HR0:=Aside0.mk hr0
 have HC0:=Aside0.mk hc0
 clear hr0 hc0
 have HB:=Aside0.mk (Below.refl w.heap.size w)
 unfold nat_text.f at h
 have H:=h
 clear h
 generalize hji2:(wrap64 (4*(l0.length:Int)))=ji2 at H
 have hji2w:(IntKind.i64.wrap (4*(l0.length:Int)))=ji2:=(i64_w _).trans hji2
 obtain ⟨c3b0,c3b1,H⟩:=zE H
 obtain ⟨c4b0,c4b1,H⟩:=zE H
 obtain ⟨y107,Ny107⟩:∃ y_:List Int,Aside0 (y_=(List.replicate (ji2:Int).toNat 0)):=⟨_,⟨rfl⟩⟩
 replace H:(nat_text.l0 k l0 y107 l0 (l0.length:Int) 0)=some r:=zY Ny107 H
 have H':=Aside0.mk H
 clear H
 go_enter Tryd.func76,Tryd.ntmps76
 go_wp2_with (first | ((with_reducible refine gate_dst (N:=10) rfl ?_); refine Kd.R_make (Kd.int .u8) _ 5 rfl (N:=10) rfl 92 _ _ rfl ji2 rfl rfl Tryd.underlying92 (.int .u8 0) 1 info5 rfl (by decide) (by omega) 0 (ok:=fun _=>True) (okp:=fun _=>True) rfl zI trivial zD (Nat.le_trans (Nat.mul_le_mul_right _ (zD:ji2.toNat≤281474976710656)) (by omega)) (Below.refl _ _) (Nat.le_refl _) ?_; intro v108 w5 ho6 hb hg_ hnew_; clear hg_ hnew_; (first | rw [← Ny107.out] at ho6 | (simp only [Int.reduceToNat] at ho6; rw [← Ny107.out] at ho6)); have HO109:=Aside0.mk (Kd.R_lower ho6 (below_size zB)); replace HB:=zP hb; clear hb ho6))
 go_loopg [13] k (fun kq v13 w'=>∃ (x3_1:List Int) (x13_1:Int),v13 = .int .i64 x13_1∧Aside0 (nat_text.l0 kq l0 x3_1 l0 (l0.length:Int) x13_1=some r)∧Aside0 (kq≤k)∧Aside0 (Kd.R (Kd.int .u8) 5 w' w.heap.size (fun _=>True) v108 x3_1)∧Aside0 (Below w.heap.size w w'))
 case atStart=>exact ⟨(y107),(0),zS,H',⟨Nat.le_refl _⟩,⟨zO HO109⟩,⟨zB⟩⟩
 case round =>
  clear H'
  try clear p2
  try clear c3
  try clear c3b0
  try clear c3b1
  try clear c4
  try clear c4b0
  try clear c4b1
  try clear p6
  obtain ⟨x3_1,x13_1,rfl,HA,HK1,HO_3,HB⟩:=hrel
  cases gk with
  | zero=>exact absurd HA.out (by simp [nat_text.l0])
  | succ k1 =>
   have H:=HA.out
   clear HA
   simp only [nat_text.l0] at H
   by_cases c7:x13_1 < (l0.length:Int)
   rotate_left
   ·rw [if_neg c7] at H
    have c7b0:decide (x13_1 < (l0.length:Int))=false:=decide_eq_false c7
    clear c7
    obtain ⟨t115,A34,H⟩:=zH H
    obtain rfl:=Option.some.inj H
    have hcv35:=own_string (P:=Tryd.prog) Tryd.underlying92 Tryd.underlying5 Tryd.underlying9 (Kd.own_of_R HO_3.out)
    go_wp2_with (first | ((with_reducible refine zG 72 ?_); refine zL 53 Tryd.func72 #[.string (strOfNums x3_1)] ?_; (with_reducible refine (nat_trim.calls k1 (strOfNums x3_1) t115 _ A34.out).mono ?_); rintro e w' ⟨rfl,⟨nd,rfl⟩⟩; refine ⟨_,rfl,?_⟩))
    go_ret
    exact ⟨zQ hji2,zB⟩
   rw [if_pos c7] at H
   have c7b0:decide (x13_1 < (l0.length:Int))=true:=decide_eq_true c7
   clear c7
   obtain ⟨c8b0,H⟩:=zF H
   obtain ⟨c9b0,H⟩:=zF H
   generalize hji10:(wrap64 (4*(wrap64 ((wrap64 ((l0.length:Int) - 1)) - x13_1))))=ji10 at H
   have hji10w:(IntKind.i64.wrap (4*(wrap64 ((wrap64 ((l0.length:Int) - 1)) - x13_1))))=ji10:=(i64_w _).trans hji10
   obtain ⟨c11b0,H⟩:=zF H
   obtain ⟨c12b0,H⟩:=zF H
   obtain ⟨y111,Ny111⟩:∃ y_:List Int,Aside0 (y_=(x3_1.set ((ji10):Int).toNat (((rd l0 x13_1)/16777216)%256))):=⟨_,⟨rfl⟩⟩
   replace H:(if 0≤(wrap64 ((ji10)+1)) then (if (wrap64 ((ji10)+1)) < (x3_1.length:Int) then (if 0≤(wrap64 ((ji10)+2)) then (if (wrap64 ((ji10)+2)) < (x3_1.length:Int) then (if 0≤(wrap64 ((ji10)+3)) then (if (wrap64 ((ji10)+3)) < (x3_1.length:Int) then (nat_text.l0 k1 l0 (((y111.set ((wrap64 ((ji10)+1)):Int).toNat (((rd l0 x13_1)/65536)%256)).set ((wrap64 ((ji10)+2)):Int).toNat (((rd l0 x13_1)/256)%256)).set ((wrap64 ((ji10)+3)):Int).toNat ((rd l0 x13_1)%256)) l0 (l0.length:Int) (wrap64 (x13_1+1))) else (none)) else (none)) else (none)) else (none)) else (none)) else (none))=some r:=zY Ny111 H
   generalize hji14:(wrap64 ((ji10)+1))=ji14 at H
   have hji14w:(IntKind.i64.wrap ((ji10)+1))=ji14:=(i64_w _).trans hji14
   obtain ⟨c15b0,H⟩:=zF H
   obtain ⟨c16b0,H⟩:=zF H
   obtain ⟨y112,Ny112⟩:∃ y_:List Int,Aside0 (y_=(y111.set ((ji14):Int).toNat (((rd l0 x13_1)/65536)%256))):=⟨_,⟨rfl⟩⟩
   replace H:(if 0≤(wrap64 ((ji10)+2)) then (if (wrap64 ((ji10)+2)) < (x3_1.length:Int) then (if 0≤(wrap64 ((ji10)+3)) then (if (wrap64 ((ji10)+3)) < (x3_1.length:Int) then (nat_text.l0 k1 l0 ((y112.set ((wrap64 ((ji10)+2)):Int).toNat (((rd l0 x13_1)/256)%256)).set ((wrap64 ((ji10)+3)):Int).toNat ((rd l0 x13_1)%256)) l0 (l0.length:Int) (wrap64 (x13_1+1))) else (none)) else (none)) else (none)) else (none))=some r:=zY Ny112 H
   generalize hji18:(wrap64 ((ji10)+2))=ji18 at H
   have hji18w:(IntKind.i64.wrap ((ji10)+2))=ji18:=(i64_w _).trans hji18
   obtain ⟨c19b0,H⟩:=zF H
   obtain ⟨c20b0,H⟩:=zF H
   obtain ⟨y113,Ny113⟩:∃ y_:List Int,Aside0 (y_=(y112.set ((ji18):Int).toNat (((rd l0 x13_1)/256)%256))):=⟨_,⟨rfl⟩⟩
   replace H:(if 0≤(wrap64 ((ji10)+3)) then (if (wrap64 ((ji10)+3)) < (x3_1.length:Int) then (nat_text.l0 k1 l0 (y113.set ((wrap64 ((ji10)+3)):Int).toNat ((rd l0 x13_1)%256)) l0 (l0.length:Int) (wrap64 (x13_1+1))) else (none)) else (none))=some r:=zY Ny113 H
   generalize hji22:(wrap64 ((ji10)+3))=ji22 at H
   have hji22w:(IntKind.i64.wrap ((ji10)+3))=ji22:=(i64_w _).trans hji22
   obtain ⟨c23b0,H⟩:=zF H
   obtain ⟨c24b0,H⟩:=zF H
   obtain ⟨y114,Ny114⟩:∃ y_:List Int,Aside0 (y_=(y113.set ((ji22):Int).toNat ((rd l0 x13_1)%256))):=⟨_,⟨rfl⟩⟩
   replace H:(nat_text.l0 k1 l0 y114 l0 (l0.length:Int) (wrap64 (x13_1+1)))=some r:=zY Ny114 H
   have H':=Aside0.mk H
   clear H
   have p110:0≤(x13_1:Int):=zD
   have q110:x13_1 < (l0.length:Int):=zD
   obtain ⟨ad110,e110,hx110_0⟩:=Kd.at_int HR0.out x13_1 p110 q110
   cases e110
   replace hx110_0:=(HB.out.cell (World.block_lt_of_cell? w _ hx110_0)).trans hx110_0
   replace p110:=eq_true p110
   replace q110:=eq_true q110
   have p13:0≤((ji10):Int):=zD
   have q13:((ji10):Int) < ((x3_1.length:Int):Int):=zD
   obtain ⟨go13,co13,eo13,gb13,gl13,cl13,HG13⟩:=Kd.R_form HO_3.out (by omega)
   (first | cases eo13 | (injection eo13 with ea_ en_ ec_; (first | subst ea_ | (injection ea_ with ea_; subst ea_)); subst ec_; clear en_))
   have GB13:=Aside0.mk gb13
   have GG13:=Aside0.mk HG13
   clear gb13 gl13 HG13
   obtain ⟨hx13_0,hf13_0⟩:=Kd.R_celln 0 HO_3.out ((ji10):Int) p13 q13
   replace p13:=eq_true p13
   replace q13:=eq_true q13
   have HP26:=Kd.R_putg HO_3.out ((ji10):Int) (((rd l0 x13_1)/16777216)%256)
   go_wp2_with (first | ((with_reducible refine gate_store (t:=5) (p:=46) rfl ?_); refine store_event (t:=5) (p:=46) (v:=?vo_w27) (w1:=(wr.setCell ⟨go13,((ji10):Int).toNat,none⟩ (.int .u8 (((rd l0 x13_1)/16777216)%256)))) ?hg ?ho ?hn ?hr ?_; (case ho=>rfl); (case hg=>rfl); (case hn=>rfl); (case hr=>first | (go_simp; done) | (go_simp; rfl)); intro w27 hw; have hg:wr.grownBy w27 (some go13):=(by rw [hw]; exact HP26.2); have hp_:Kd.R (Kd.int .u8) 5 w27 w.heap.size (fun _=>True) (.slice (some ⟨go13,0,none⟩) x3_1.length co13) y111:=(by rw [hw,Ny111.out]; exact HP26.1); clear HP26; replace HO_3:=Aside0.mk (hp_); replace HB:=Aside0.mk ((by rw [hw]; exact below_set (HB.out) GB13.out:Below w.heap.size w w27)); clear hg hw hp_; have p17:0≤((ji14):Int):=zD; have q17:((ji14):Int) < ((x3_1.length:Int):Int):=zD; obtain ⟨hx17_0,hf17_0⟩:=Kd.R_celln 0 HO_3.out ((ji14):Int) p17 q17; replace p17:=eq_true p17; replace q17:=eq_true q17; obtain ⟨hy28_,hz28_⟩:=Kd.R_celln 0 HO_3.out ((ji14):Int) zD zD; have HP28:=Kd.R_putg HO_3.out ((ji14):Int) (((rd l0 x13_1)/65536)%256)) | ((with_reducible refine gate_store (t:=5) (p:=47) rfl ?_); refine store_event (t:=5) (p:=47) (v:=?vo_w29) (w1:=(w27.setCell ⟨go13,((ji14):Int).toNat,none⟩ (.int .u8 (((rd l0 x13_1)/65536)%256)))) ?hg ?ho ?hn ?hr ?_; (case ho=>rfl); (case hg=>rfl); (case hn=>rfl); (case hr=>first | (go_simp; done) | (go_simp; rfl)); intro w29 hw; have hg:w27.grownBy w29 (some go13):=(by rw [hw]; exact HP28.2); have hp_:Kd.R (Kd.int .u8) 5 w29 w.heap.size (fun _=>True) (.slice (some ⟨go13,0,none⟩) x3_1.length co13) y112:=(by rw [hw,Ny112.out]; exact HP28.1); clear HP28; replace HO_3:=Aside0.mk (hp_); replace HB:=Aside0.mk ((by rw [hw]; exact below_set (HB.out) GB13.out:Below w.heap.size w w29)); clear hg hw hp_; have p21:0≤((ji18):Int):=zD; have q21:((ji18):Int) < ((x3_1.length:Int):Int):=zD; obtain ⟨hx21_0,hf21_0⟩:=Kd.R_celln 0 HO_3.out ((ji18):Int) p21 q21; replace p21:=eq_true p21; replace q21:=eq_true q21; obtain ⟨hy30_,hz30_⟩:=Kd.R_celln 0 HO_3.out ((ji18):Int) zD zD; have HP30:=Kd.R_putg HO_3.out ((ji18):Int) (((rd l0 x13_1)/256)%256)) | ((with_reducible refine gate_store (t:=5) (p:=48) rfl ?_); refine store_event (t:=5) (p:=48) (v:=?vo_w31) (w1:=(w29.setCell ⟨go13,((ji18):Int).toNat,none⟩ (.int .u8 (((rd l0 x13_1)/256)%256)))) ?hg ?ho ?hn ?hr ?_; (case ho=>rfl); (case hg=>rfl); (case hn=>rfl); (case hr=>first | (go_simp; done) | (go_simp; rfl)); intro w31 hw; have hg:w29.grownBy w31 (some go13):=(by rw [hw]; exact HP30.2); have hp_:Kd.R (Kd.int .u8) 5 w31 w.heap.size (fun _=>True) (.slice (some ⟨go13,0,none⟩) x3_1.length co13) y113:=(by rw [hw,Ny113.out]; exact HP30.1); clear HP30; replace HO_3:=Aside0.mk (hp_); replace HB:=Aside0.mk ((by rw [hw]; exact below_set (HB.out) GB13.out:Below w.heap.size w w31)); clear hg hw hp_; have p25:0≤((ji22):Int):=zD; have q25:((ji22):Int) < ((x3_1.length:Int):Int):=zD; obtain ⟨hx25_0,hf25_0⟩:=Kd.R_celln 0 HO_3.out ((ji22):Int) p25 q25; replace p25:=eq_true p25; replace q25:=eq_true q25; obtain ⟨hy32_,hz32_⟩:=Kd.R_celln 0 HO_3.out ((ji22):Int) zD zD; have HP32:=Kd.R_putg HO_3.out ((ji22):Int) ((rd l0 x13_1)%256)) | ((with_reducible refine gate_store (t:=5) (p:=49) rfl ?_); refine store_event (t:=5) (p:=49) (v:=?vo_w33) (w1:=(w31.setCell ⟨go13,((ji22):Int).toNat,none⟩ (.int .u8 ((rd l0 x13_1)%256)))) ?hg ?ho ?hn ?hr ?_; (case ho=>rfl); (case hg=>rfl); (case hn=>rfl); (case hr=>first | (go_simp; done) | (go_simp; rfl)); intro w33 hw; have hg:w31.grownBy w33 (some go13):=(by rw [hw]; exact HP32.2); have hp_:Kd.R (Kd.int .u8) 5 w33 w.heap.size (fun _=>True) (.slice (some ⟨go13,0,none⟩) x3_1.length co13) y114:=(by rw [hw,Ny114.out]; exact HP32.1); clear HP32; replace HO_3:=Aside0.mk (hp_); replace HB:=Aside0.mk ((by rw [hw]; exact below_set (HB.out) GB13.out:Below w.heap.size w w33)); clear hg hw hp_))
   go_roundg k1
   case measure=>have:=HK1.out; omega
   case rel=>exact ⟨(y114),(wrap64 (x13_1+1)),zS,H',⟨by have:=HK1.out; omega⟩,⟨zO HO_3⟩,⟨zB⟩⟩
end Go.Proofs.YtmkgijiniopalaaDoor.A
end
section
namespace Go.Proofs.YtmkgijiniopalaaDoor.A
open Go.RowKit Go.Proofs.YtmkgijiniopalaaDoor.Z Go.Proofs.YtmkgijiniopalaaDoorW.PrintWords Go.Proofs.YtmkgijiniopalaaDoorW.PrintLast Go.Proofs.YtmkgijiniopalaaDoorW.PrintMore
attribute [local go_sem] max2_int min2_int max_two min_two max_three min_three max_four min_four
set_option maxHeartbeats 8000000
def nat_left.l0:Nat→Int→List Int→List Int→Int→Int→Option (List Int)
 | 0,_,_,_,_,_=>none
 | k+1,x1,x5,x13,x14,x15=>if x15 < x14 then (if 0≤x15 then (if x15 < (x13.length:Int) then (if 0≤x1 then (if x15 < (x5.length:Int) then (if 0≤(wrap64 (x15+1)) then (if (wrap64 (x15+1)) < (x5.length:Int) then (nat_left.l0 k x1 ((x5.set (x15:Int).toNat (Go.bits .or .u32 (rd x5 x15) ((shl .u64 (IntKind.u64.wrap (rd x13 x15)) x1)%4294967296))).set ((wrap64 (x15+1)):Int).toNat (((shl .u64 (IntKind.u64.wrap (rd x13 x15)) x1)/4294967296)%4294967296)) x13 x14 (wrap64 (x15+1))) else (none)) else (none)) else (none)) else (none)) else (none)) else (none)) else (some x5)
def nat_left.f (k:Nat) (l0:List Int) (a1:Int):Option (List Int):=if 0≤(wrap64 ((l0.length:Int)+1)) then (if (wrap64 ((l0.length:Int)+1):Int).toNat≤70368744177664 then (nat_left.l0 k a1 (List.replicate (wrap64 ((l0.length:Int)+1):Int).toNat 0) l0 (l0.length:Int) 0) else (none)) else (none)
theorem nat_left.mono_l:∀ k,(∀ y0 y1 y2 y3 y4,LeO (nat_left.l0 k y0 y1 y2 y3 y4) (nat_left.l0 (k+1) y0 y1 y2 y3 y4))
 | 0=>fun _ _ _ _ _ r h=>by simp [nat_left.l0] at h
 | k+1=>by
  have ih0:=nat_left.mono_l k
  intro y0 y1 y2 y3 y4
  unfold nat_left.l0
  exact zM
theorem nat_left.mono:∀ a0 a1 k,LeO (nat_left.f k a0 a1) (nat_left.f (k+1) a0 a1):=by
 intro a0 a1 k
 have ih0:=nat_left.mono_l k
 unfold nat_left.f
 exact zM
theorem nat_left.calls (k:Nat) (A0:Option Addr) (c0:Nat) (l0:List Int) (a1:Int) (r:List Int) (w:World) (hr0:Kd.C (Kd.int .u32) w A0 l0.length l0) (hc0:l0.length≤c0) (h:nat_left.f k l0 a1=some r) :
 Calls Tryd.prog 93 #[.slice A0 l0.length c0,.int .i64 a1] w fun e w'=>∃ v0_:Value,e = .returned (v0_)∧Kd.R (Kd.int .u32) 89 w' w.heap.size (fun _=>True) v0_ r∧Below w.heap.size w w':=by
 have HR0:=Aside0.mk hr0
 have HC0:=Aside0.mk hc0
 clear hr0 hc0
 have HB:=Aside0.mk (Below.refl w.heap.size w)
 unfold nat_left.f at h
 have H:=h
 clear h
 generalize hji3:(wrap64 ((l0.length:Int)+1))=ji3 at H
 have hji3w:(IntKind.i64.wrap ((l0.length:Int)+1))=ji3:=(i64_w _).trans hji3
 obtain ⟨c4b0,c4b1,H⟩:=zE H
 obtain ⟨c5b0,c5b1,H⟩:=zE H
 obtain ⟨y116,Ny116⟩:∃ y_:List Int,Aside0 (y_=(List.replicate (ji3:Int).toNat 0)):=⟨_,⟨rfl⟩⟩
 replace H:(nat_left.l0 k a1 y116 l0 (l0.length:Int) 0)=some r:=zY Ny116 H
 have H':=Aside0.mk H
 clear H
 go_enter Tryd.func93,Tryd.ntmps93
 go_wp2_with (first | ((with_reducible refine gate_dst (N:=12) rfl ?_); refine Kd.R_make (Kd.int .u32) _ 89 rfl (N:=12) rfl 47 _ _ rfl ji3 rfl rfl Tryd.underlying47 (.int .u32 0) 4 info89 rfl (by decide) (by omega) 0 (ok:=fun _=>True) (okp:=fun _=>True) rfl zI trivial zD (Nat.le_trans (Nat.mul_le_mul_right _ (zD:ji3.toNat≤70368744177664)) (by omega)) (Below.refl _ _) (Nat.le_refl _) ?_; intro v117 w6 ho7 hb hg_ hnew_; clear hg_ hnew_; (first | rw [← Ny116.out] at ho7 | (simp only [Int.reduceToNat] at ho7; rw [← Ny116.out] at ho7)); have HO118:=Aside0.mk (Kd.R_lower ho7 (below_size zB)); replace HB:=zP hb; clear hb ho7))
 go_loopg [15] k (fun kq v15 w'=>∃ (x5_1:List Int) (x15_1:Int),v15 = .int .i64 x15_1∧Aside0 (nat_left.l0 kq a1 x5_1 l0 (l0.length:Int) x15_1=some r)∧Aside0 (kq≤k)∧Aside0 (Kd.R (Kd.int .u32) 89 w' w.heap.size (fun _=>True) v117 x5_1)∧Aside0 (Below w.heap.size w w'))
 case atStart=>exact ⟨(y116),(0),zS,H',⟨Nat.le_refl _⟩,⟨zO HO118⟩,⟨zB⟩⟩
 case round =>
  clear H'
  try clear p2
  try clear c4
  try clear c4b0
  try clear c4b1
  try clear c5
  try clear c5b0
  try clear c5b1
  try clear p6
  obtain ⟨x5_1,x15_1,rfl,HA,HK1,HO_5,HB⟩:=hrel
  cases gk with
  | zero=>exact absurd HA.out (by simp [nat_left.l0])
  | succ k1 =>
   have H:=HA.out
   clear HA
   simp only [nat_left.l0] at H
   by_cases c8:x15_1 < (l0.length:Int)
   rotate_left
   ·rw [if_neg c8] at H
    have c8b0:decide (x15_1 < (l0.length:Int))=false:=decide_eq_false c8
    clear c8
    obtain rfl:=Option.some.inj H
    go_wp2
    go_ret
    exact ⟨_,zQ hji3,zO HO_5,zB⟩
   rw [if_pos c8] at H
   have c8b0:decide (x15_1 < (l0.length:Int))=true:=decide_eq_true c8
   clear c8
   obtain ⟨c9b0,H⟩:=zF H
   obtain ⟨c10b0,H⟩:=zF H
   obtain ⟨c11b0,c11b1,H⟩:=zE H
   generalize hji12:(shl .u64 (IntKind.u64.wrap (rd l0 x15_1)) a1)=ji12 at H
   have hji12_:(IntKind.u64.wrap ((IntKind.u64.wrap (rd l0 x15_1))*2^min a1.toNat 64))=ji12:=hji12
   have hji12z:a1≤64→(IntKind.u64.wrap ((IntKind.u64.wrap (rd l0 x15_1))*2^a1.toNat))=ji12:=shl_small hji12
   obtain ⟨c13b0,H⟩:=zF H
   obtain ⟨y121,Ny121⟩:∃ y_:List Int,Aside0 (y_=(x5_1.set (x15_1:Int).toNat (Go.bits .or .u32 (rd x5_1 x15_1) ((ji12)%4294967296)))):=⟨_,⟨rfl⟩⟩
   replace H:(if 0≤(wrap64 (x15_1+1)) then (if (wrap64 (x15_1+1)) < (x5_1.length:Int) then (nat_left.l0 k1 a1 (y121.set ((wrap64 (x15_1+1)):Int).toNat (((ji12)/4294967296)%4294967296)) l0 (l0.length:Int) (wrap64 (x15_1+1))) else (none)) else (none))=some r:=zY Ny121 H
   generalize hji15:(wrap64 (x15_1+1))=ji15 at H
   have hji15w:(IntKind.i64.wrap (x15_1+1))=ji15:=(i64_w _).trans hji15
   obtain ⟨c16b0,H⟩:=zF H
   obtain ⟨c17b0,H⟩:=zF H
   obtain ⟨y122,Ny122⟩:∃ y_:List Int,Aside0 (y_=(y121.set ((ji15):Int).toNat (((ji12)/4294967296)%4294967296))):=⟨_,⟨rfl⟩⟩
   replace H:(nat_left.l0 k1 a1 y122 l0 (l0.length:Int) ji15)=some r:=zY Ny122 H
   have H':=Aside0.mk H
   clear H
   have p119:0≤(x15_1:Int):=zD
   have q119:x15_1 < (l0.length:Int):=zD
   obtain ⟨ad119,e119,hx119_0⟩:=Kd.at_int HR0.out x15_1 p119 q119
   cases e119
   replace hx119_0:=(HB.out.cell (World.block_lt_of_cell? w _ hx119_0)).trans hx119_0
   replace p119:=eq_true p119
   replace q119:=eq_true q119
   obtain ⟨Ao19,co19,eo19⟩:=Kd.R_slice HO_5.out
   subst eo19
   have p120:0≤(x15_1:Int):=zD
   have q120:x15_1 < (x5_1.length:Int):=zD
   obtain ⟨ad120,e120,hx120_0⟩:=Kd.at_int (Kd.R_reads' HO_5.out).2.2 x15_1 p120 q120
   cases e120
   replace p120:=eq_true p120
   replace q120:=eq_true q120
   have p14:0≤(x15_1:Int):=zD
   have q14:(x15_1:Int) < ((x5_1.length:Int):Int):=zD
   obtain ⟨go14,co14,eo14,gb14,gl14,cl14,HG14⟩:=Kd.R_form HO_5.out (by omega)
   (first | cases eo14 | (injection eo14 with ea_ en_ ec_; (first | subst ea_ | (injection ea_ with ea_; subst ea_)); subst ec_; clear en_))
   have GB14:=Aside0.mk gb14
   have GG14:=Aside0.mk HG14
   clear gb14 gl14 HG14
   (first | simp only [add_plain] at hx120_0 | skip)
   obtain ⟨hx14_0,hf14_0⟩:=Kd.R_celln 0 HO_5.out (x15_1:Int) p14 q14
   replace p14:=eq_true p14
   replace q14:=eq_true q14
   have HP20:=Kd.R_putg HO_5.out (x15_1:Int) (Go.bits .or .u32 (rd x5_1 x15_1) ((ji12)%4294967296))
   go_wp2_with (first | ((with_reducible refine gate_store (t:=89) (p:=31) rfl ?_); refine store_event (t:=89) (p:=31) (v:=?vo_w21) (w1:=(wr.setCell ⟨go14,(x15_1:Int).toNat,none⟩ (.int .u32 (Go.bits .or .u32 (rd x5_1 x15_1) ((ji12)%4294967296))))) ?hg ?ho ?hn ?hr ?_; (case ho=>rfl); (case hg=>rfl); (case hn=>rfl); (case hr=>first | (go_simp; done) | (go_simp; rfl)); intro w21 hw; have hg:wr.grownBy w21 (some go14):=(by rw [hw]; exact HP20.2); have hp_:Kd.R (Kd.int .u32) 89 w21 w.heap.size (fun _=>True) (.slice (some ⟨go14,0,none⟩) x5_1.length co19) y121:=(by rw [hw,Ny121.out]; exact HP20.1); clear HP20; replace HO_5:=Aside0.mk (hp_); replace HB:=Aside0.mk ((by rw [hw]; exact below_set (HB.out) GB14.out:Below w.heap.size w w21)); clear hg hw hp_; have p18:0≤((ji15):Int):=zD; have q18:((ji15):Int) < ((x5_1.length:Int):Int):=zD; obtain ⟨hx18_0,hf18_0⟩:=Kd.R_celln 0 HO_5.out ((ji15):Int) p18 q18; replace p18:=eq_true p18; replace q18:=eq_true q18; obtain ⟨hy22_,hz22_⟩:=Kd.R_celln 0 HO_5.out ((ji15):Int) zD zD; have HP22:=Kd.R_putg HO_5.out ((ji15):Int) (((ji12)/4294967296)%4294967296)) | ((with_reducible refine gate_store (t:=89) (p:=38) rfl ?_); refine store_event (t:=89) (p:=38) (v:=?vo_w23) (w1:=(w21.setCell ⟨go14,((ji15):Int).toNat,none⟩ (.int .u32 (((ji12)/4294967296)%4294967296)))) ?hg ?ho ?hn ?hr ?_; (case ho=>rfl); (case hg=>rfl); (case hn=>rfl); (case hr=>first | (go_simp; done) | (go_simp; rfl)); intro w23 hw; have hg:w21.grownBy w23 (some go14):=(by rw [hw]; exact HP22.2); have hp_:Kd.R (Kd.int .u32) 89 w23 w.heap.size (fun _=>True) (.slice (some ⟨go14,0,none⟩) x5_1.length co19) y122:=(by rw [hw,Ny122.out]; exact HP22.1); clear HP22; replace HO_5:=Aside0.mk (hp_); replace HB:=Aside0.mk ((by rw [hw]; exact below_set (HB.out) GB14.out:Below w.heap.size w w23)); clear hg hw hp_))
   go_roundg k1
   case measure=>have:=HK1.out; omega
   case rel=>exact ⟨(y122),(ji15),(by first | rfl | (simp; done) | (simp only [← hji15]<;>(first | rfl | simp)) | (simp [*]; done)),H',⟨by have:=HK1.out; omega⟩,⟨zO HO_5⟩,⟨zB⟩⟩
end Go.Proofs.YtmkgijiniopalaaDoor.A
end
