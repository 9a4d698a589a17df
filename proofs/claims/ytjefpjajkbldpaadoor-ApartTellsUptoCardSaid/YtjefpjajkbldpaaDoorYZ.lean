import Derived.Test.YtjefpjajkbldpaaDoorYA0
namespace Go.Proofs.YtjefpjajkbldpaaDoor.Z
open Go.RowKit Go.Proofs.YtjefpjajkbldpaaDoorW.PrintWords Go.Proofs.YtjefpjajkbldpaaDoorW.PrintLast Go.Proofs.YtjefpjajkbldpaaDoorW.PrintMore
set_option linter.unusedVariables false
theorem zB {p:Prop} (h:p:=by repeat (first | (with_reducible first | exact HB.out | apply below_alloc | apply pw_below_drewN | apply below_drew1) | exact HB.out)):p:=h
theorem zO {p q:Prop} (a:Aside0 p) (h:p→q:=by (intro h_; (with_reducible repeat (first | apply Kd.R_alloc | apply Kd.R_drewN | apply Kd.R_drew)); exact h_)):q:=h a.out
theorem zD {p:Prop} [Decidable p] (h:decide p=true:=by first | (with_reducible assumption) | assumption):p:=of_decide_eq_true h
theorem zR {p:Prop} (h:p:=by first | rfl | (simp [errW_none,errW_some]<;>rfl) | (simp [*,errW_none,errW_some]<;>rfl)):p:=h
theorem zQ {α:Type} {a b:α} {p:Prop} (e:a=b) (h:a=b→p:=by (intro h_; first | rfl | (simp [errW_none,errW_some]<;>rfl) | (simp only [← h_]; first | rfl | (simp [errW_none,errW_some]<;>rfl)) | (simp [*,errW_none,errW_some]<;>rfl))):p:=h e
theorem zS {p:Prop} (h:p:=by first | rfl | (simp; done) | (simp [*]; done)):p:=h
theorem zM {p:Prop} (h:p:=by repeat' first
 | (with_reducible apply_assumption)
 | (with_reducible exact LeO.refl _)
 | (with_reducible exact LeO.none _)
 | (with_reducible refine LeO.ite ?_ ?_)
 | (with_reducible refine LeO.bind ?_ (fun _=>?_))
 | apply_assumption
 | exact LeO.none _
 | refine LeO.ite ?_ ?_
 | refine LeO.bind ?_ (fun _=>?_)):p:=h
theorem zI {α:Type} {p:α→Prop}:∀ x,p x→p x:=fun _ h=>h
theorem zC {p q:Prop} (a:Aside0 p) (h:p→q:=by (intro h_; repeat (first | exact (Kd.R_reads' h_).2.2 | (with_reducible refine Kd.C_alloc ?_ _) | (with_reducible refine Kd.C_drewN ?_ _) | (with_reducible refine Kd.C_drew ?_)))):q:=h a.out
theorem zP {w W w2:World} (k:Below W.heap.size W w2) (h:Below w.heap.size w W:=by repeat (first | (with_reducible first | exact HB.out | apply below_alloc | apply pw_below_drewN | apply below_drew1) | exact HB.out)):Aside0 (Below w.heap.size w w2):=⟨below_step h k⟩
theorem zH {α β:Type} {o:Option α} {f:α→Option β} {r:β} (h:o.bind f=some r):∃ t,Aside0 (o=some t)∧f t=some r:=by
 obtain ⟨t,h1,h2⟩:=Option.bind_eq_some_iff.mp h
 exact ⟨t,⟨h1⟩,h2⟩
theorem zE {p:Prop} [Decidable p] {α:Type} {x:Option α} {r:α} (h:(if p then x else none)=some r):(p=True)∧decide p=true∧x=some r:=by
 by_cases c:p
 ·rw [if_pos c] at h; exact ⟨eq_true c,decide_eq_true c,h⟩
 rw [if_neg c] at h; exact absurd h (by simp)
theorem zF {p:Prop} [Decidable p] {α:Type} {x:Option α} {r:α} (h:(if p then x else none)=some r):decide p=true∧x=some r:=(zE h).2
theorem zY {α:Type} {x y:α} {p q:Prop} (n:Aside0 (y=x)) (h:p) (g:y=x→p→q:=by (intro hy_ h_; first | (rw [hy_]; with_reducible exact h_) | (have H2_:=(Option.bind_some _ _).symm.trans h_; rw [hy_]; with_reducible exact H2_) | (have H2_:=(Option.bind_some _ _).symm.trans h_; with_reducible exact H2_) | with_reducible exact h_ | (rw [hy_]; exact h_) | exact h_)):q:=g n.out h
section
variable {P:Program} {ops:Array Oper} {rest:List Oper} {o:Oper} {a:Act} {Q:Exit→Act→World→Prop} {w:World}
theorem zG (f:FuncId) {xs:Array Operand} {ts:Array TypeId} (h:wpList P ops Q (o::rest) a w) (_ho:o.op = .call { callee:=.value (.func f),args:=xs,argTypes:=ts }:=by exact rfl):wpList P ops Q (o::rest) a w:=h
theorem zL (N:Tmp) {f:FuncId} {fn:Func} (hf:P.funcs[f]? = some fn) (args:Array Value) {xs:Array Operand} {ts:Array TypeId}
 (h:Calls P f args w fun e w'=>∃ v,e = .returned v∧wpList P ops Q rest (a.put (some N) v) w')
 (hd:o.dst=some N:=by exact rfl) (hg:o.guard=none:=by exact rfl) (hname:(fn.name == "runtime.NumGoroutine")=false:=by kernel_rfl) (hb:fn.body.isSome=true:=by exact rfl)
 (hop:o.op = .call { callee:=.value (.func f),args:=xs,argTypes:=ts }:=by exact rfl)
 (hargs:xs.map a.eval=args:=by (try simp only [List.map_toArray,List.map_cons,List.map_nil]); first | done | rfl | (simp only [List.length_drop,List.length_take]; rfl)):wpList P ops Q (o::rest) a w :=
 goesL_ (some N) hd hg hf hname hb args hop hargs h
end
section
variable {P:Program} {ops:Array Oper} {Q:Exit→Act→World→Prop} {md:Region.Mode} {S:World→Prop} {ds:List Nat}
theorem zU {oi:Oper} {v:Value} {fuel:Nat} {l:Array Bool} {a a':Act} {w:World} (i N:Nat) (l':Array Bool) (h:wpAnyLast P md ops Q S ds fuel l' a' w) (hi:ops[i]? = some oi:=by exact rfl) (hN:oi.dst=some N:=by exact rfl)
 (hc:anyB md ops l l' i=true:=by exact any_of HT_.out (by kernel_rfl)) (hQ:∀ c a w,Q (.panic c) (a.put oi.dst v) w→Q (.panic c) a w:=by exact fun _ _ _ h=>h)
 (hy:Yields P ops oi v a:=by exact Or.inl ⟨by rfl,by (intro w'; go_simp; with_reducible rfl)⟩) (ha:a.put (some N) v=a':=by (simp only [Act.put,List.setIfInBounds_toArray,List.set_cons_zero,List.set_cons_succ,i64_w,i32_w]; rfl)) :
 wpAnyLast P md ops Q S ds (fuel+1) l a w:=pure_ l' hi hN hc hQ hy ha h
theorem zV {oi:Oper} {fuel:Nat} {l:Array Bool} {a a':Act} {w:World} (i N:Nat) (l':Array Bool) (h:wpAnyLast P md ops Q S ds fuel l' a' w) (hi:ops[i]? = some oi:=by exact rfl) (hN:oi.dst=some N:=by exact rfl)
 (hc:anyB md ops l l' i=true:=by exact any_of HT_.out (by kernel_rfl)) (hQ:∀ c a w,Q (.panic c) (a.put oi.dst undef) w→Q (.panic c) a w:=by exact fun _ _ _ h=>h)
 (hy:Yields P ops oi undef a:=by exact Or.inr ⟨by rfl,rfl⟩) (ha:a.put (some N) undef=a':=by (simp only [Act.put,List.setIfInBounds_toArray,List.set_cons_zero,List.set_cons_succ,i64_w,i32_w]; rfl)) :
 wpAnyLast P md ops Q S ds (fuel+1) l a w:=pure_ l' hi hN hc hQ hy ha h
end
end Go.Proofs.YtjefpjajkbldpaaDoor.Z
