import Derived.Test.YtjefpjajkbldpaaDoorYU2
import Derived.Deep.LoopGhost
import Derived.LoopN
namespace Go.Proofs.YtjefpjajkbldpaaDoor.U
open Go.RowKit
set_option linter.unusedSimpArgs false
set_option linter.unusedVariables false
def seqOps (P:Program) (sc:Script) (rid:Nat) (ops:Array Oper):List Oper→Nat→St→Option (St × List Ob)
 | [],_,s=>some (s,[])
 | o::r,i,s=>match want? ops s o with
   | some true=>match eff P s o (look rid i sc) with
     | some (e,o1)=>match seqOps P sc rid ops r (i+1) (stepSt s o.dst e) with
       | some (s',o2)=>some (s',o1++o2)
       | none=>none
     | none=>none
   | some false=>seqOps P sc rid ops r (i+1) (s.put o.dst (.c undef))
   | none=>none
def news (l:List Oper):Nat:=(l.filter fun o=>match o.op with
 | .alloc _=>true
 | .box ..=>true
 | .makeSlice ..=>true
 | .buildSlice ..=>true
 | .call c=>match c.callee with
   | .builtin .append=>true
   | _=>false
 | _=>false).length
inductive Ex where
 | normal
 | exit (id:Nat)
 | ret
def Ex.up:Ex→Exit
 | .normal=>.normal
 | .exit id=>.exit id
 | .ret=>.ret
def TSpec (P:Program) (c:Code) (s:St) (e:Ex) (s':St):Prop:=∀ (C:Cx) (w0:World) (β:Env) (a:Act) (w:World),Ok C β w0 s a w→c.wp P (fun x a' w'=>x=e.up ∧ ∃ β',Ok C β' w0 s' a' w') a w
def TSpecN (P:Program) (n:Nat) (c:Code) (s:St) (e:Ex) (s':St):Prop:=∀ (C:Cx) (w0:World) (β:Env) (a:Act) (w:World),C.n0≤n→Ok C β w0 s a w→c.wp P (fun x a' w'=>x=e.up ∧ ∃ β',Ok C β' w0 s' a' w') a w
theorem TSpec.N {P:Program} {n:Nat} {c:Code} {s s':St} {e:Ex} (h:TSpec P c s e s'):TSpecN P n c s e s':=fun C w0 β a w _ hok=>h C w0 β a w hok
section
variable {P:Program}
def Less:List V→List V→Prop
 | [],[]=>True
 | v::r,v' :: r'=>(v' = .any∨v=v')∧Less r r'
 | _,_=>False
theorem less_get:∀ {t t':List V},Less t t' → t.length=t'.length ∧ ∀ (i:Nat) (v:V),t'[i]? = some v→v=V.any∨t[i]? = some v
 | [],[],_=>⟨rfl,fun i v h=>by simp at h⟩
 | v::r,v' :: r',h=>by
   obtain ⟨h1,h2⟩:=less_get h.2
   refine ⟨by simp [h1],fun i x hx=>?_⟩
   cases i with
   | zero =>
     simp only [List.getElem?_cons_zero,Option.some.injEq] at hx ⊢
     subst hx
     exact h.1
   | succ i=>simpa using h2 i x (by simpa using hx)
 | [],_::_,h=>h.elim
 | _::_,[],h=>h.elim
theorem Ok.less {C:Cx} {β:Env} {w0 w:World} {s:St} {a:Act} {t':List V} {m':Rows} {k:Nat} (h:Ok C β w0 s a w) (hl:Less s.t t') (hm:s.m.take k=m') (hk:k≤s.m.length) (hc:C.n0≤k)
 (ht:t'.all (fun v=>v.there m')=true) (hr:m'.all (fun r=>match r with | some r=>r.cells.all (fun v=>v.there m') | none=>true)=true):Ok C β w0 ⟨t',m'⟩ a w:=by
 obtain ⟨hlen,hget⟩:=less_get hl
 have hrow:∀ i r,row? m' i=some r→row? s.m i=some r:=by
  intro i r hi
  subst hm
  unfold row? at hi ⊢
  rw [List.getElem?_take] at hi
  split at hi
  ·exact hi
  cases hi
 have hthere:∀ v:V,v.there m' = true→v.lv m':=by
  intro v hv id hid
  unfold V.there at hv
  rw [hid] at hv
  exact Option.isSome_iff_exists.1 hv
 have hml:m'.length=k:=by rw [← hm,List.length_take]; omega
 refine ⟨⟨by rw [h.tmps.size]; exact hlen,fun i v hi hk=>?_⟩,h.defers,⟨fun id r hr'=>h.mem.blk id r (hrow id r hr'),fun i j ri rj hi hj=>h.mem.inj i j ri rj (hrow i ri hi) (hrow j rj hj),fun id r hr' v hv=>⟨?_,(h.mem.lv id r (hrow id r hr') v hv).2⟩⟩,
  fun id r hr'=>h.dirty id r (hrow id r hr'),h.frame,fun v hv=>hthere v (List.all_eq_true.1 ht v hv),⟨h.pin.1,(by rw [hml]; exact hc),fun i r hi ho=>by
   have h1:=h.pin.2.2 i r hi ho
   have h2:i < C.n0:=row_lt hi
   subst hm
   unfold row? at h1 ⊢
   rw [List.getElem?_take,if_pos (by omega)]
   exact h1⟩,h.laid⟩
 ·rcases hget i v hi with rfl | hh
  ·cases hk
  exact h.tmps.get i v hh hk
 refine hthere v ?_
 unfold row? at hr'
 rw [Option.bind_eq_some_iff] at hr'
 obtain ⟨x,hx,hx2⟩:=hr'
 have:=List.all_eq_true.1 hr x (List.mem_of_getElem? hx)
 cases x with
 | none=>cases hx2
 | some r2 =>
   cases hx2
   exact List.all_eq_true.1 this v hv
theorem TSpec.less {c:Code} {s s1:St} {e:Ex} {t':List V} {m':Rows} {k:Nat} (h:TSpec P c s e s1) (hl:Less s1.t t') (hm:s1.m.take k=m') (hk:k≤s1.m.length) (hc:s.m.length≤k)
 (ht:t'.all (fun v=>v.there m')=true) (hr:m'.all (fun r=>match r with | some r=>r.cells.all (fun v=>v.there m') | none=>true)=true):TSpec P c s e ⟨t',m'⟩ :=
 fun C w0 β a w hok=>wp_mono (h C w0 β a w hok) fun x a' w' hh=>by
  obtain ⟨rfl,β',hok'⟩:=hh
  exact ⟨rfl,β',hok'.less hl hm hk (Nat.le_trans hok.pin.2.1 hc) ht hr⟩
def dim:List Bool→List V→List V
 | _,[]=>[]
 | true::b,v::r=>v::dim b r
 | false::b,_::r=>.any::dim b r
 | [],_::r=>.any::dim [] r
theorem less_dim:∀ (b:List Bool) (t:List V),Less t (dim b t)
 | [],[]=>trivial
 | true::_,[]=>trivial
 | false::_,[]=>trivial
 | true::b,_::r=>⟨.inr rfl,less_dim b r⟩
 | false::b,_::r=>⟨.inl rfl,less_dim b r⟩
 | [],_::r=>⟨.inl rfl,less_dim [] r⟩
theorem TSpec.dim {c:Code} {s s1 s':St} {e:Ex} (b:List Bool) (k:Nat) (h:TSpec P c s e s1) (hs:(⟨dim b s1.t,s1.m.take k⟩:St)=s') (hk:decide (k≤s1.m.length)=true) (hc:decide (s.m.length≤k)=true)
 (ht:s'.t.all (fun v=>v.there s'.m)=true) (hr:Flat s'.m):TSpec P c s e s':=by
 have hf:s'.m.all (fun r=>match r with | some r=>r.cells.all (fun v=>v.there s'.m) | none=>true)=true:=by
  have key:∀ l:Rows,Flat l→l.all (fun r=>match r with | some r=>r.cells.all (fun v=>v.there s'.m) | none=>true)=true:=by
   intro l
   induction l with
   | nil=>intro _; rfl
   | cons x t ih =>
     intro hf
     rw [List.all_cons,Bool.and_eq_true]
     cases x with
     | none=>exact ⟨rfl,ih hf⟩
     | some r =>
       refine ⟨List.all_eq_true.2 fun v hv=>?_,ih hf.2⟩
       have:=hf.1 v hv
       cases v with
       | c v=>rfl
       | _=>cases this
  exact key _ hr
 subst hs
 exact h.less (less_dim b s1.t) rfl (of_decide_eq_true hk) (of_decide_eq_true hc) ht hf
theorem Ok.from {C:Cx} {w0:World} {β:Env} {a:Act} {w:World} {s s1:St} (b:List Bool) (hok:Ok C β w0 s a w) (hs:(⟨U.dim b s.t,s.m⟩:St)=s1) (ht:s1.t.all (fun v=>v.there s1.m)=true) (hr:Flat s1.m):Ok C β w0 s1 a w:=by
 have hf:s1.m.all (fun r=>match r with | some r=>r.cells.all (fun v=>v.there s1.m) | none=>true)=true:=by
  have key:∀ l:Rows,Flat l→l.all (fun r=>match r with | some r=>r.cells.all (fun v=>v.there s1.m) | none=>true)=true:=by
   intro l
   induction l with
   | nil=>intro _; rfl
   | cons x t ih =>
     intro hf
     rw [List.all_cons,Bool.and_eq_true]
     cases x with
     | none=>exact ⟨rfl,ih hf⟩
     | some r =>
       refine ⟨List.all_eq_true.2 fun v hv=>?_,ih hf.2⟩
       have:=hf.1 v hv
       cases v with
       | c v=>rfl
       | _=>cases this
  exact key _ hr
 subst hs
 exact hok.less (k:=s.m.length) (less_dim b s.t) (List.take_length ..) (Nat.le_refl _) hok.pin.2.1 ht hf
theorem TSpec.from {c:Code} {s s1 s':St} {e:Ex} (b:List Bool) (h:TSpec P c s1 e s') (hs:(⟨U.dim b s.t,s.m⟩:St)=s1) (ht:s1.t.all (fun v=>v.there s1.m)=true) (hr:Flat s1.m):TSpec P c s e s' :=
 fun C w0 β a w hok=>h C w0 β a w (hok.from b hs ht hr)
end
abbrev Blocks:=List (Nat × Ex × St)
def lookB (id:Nat):Blocks→Option (Ex × St)
 | []=>none
 | (r,e,s)::l=>if r==id then some (e,s) else lookB id l
def iter (f:Nat→St→Option (Ex × St × List Ob)):Nat→Nat→St→Option (Ex × St × List Ob)
 | 0,_,_=>none
 | n+1,k,s=>match f k s with
   | some (.normal,s',o1)=>match iter f n (k+1) s' with
     | some (e,s'',o2)=>some (e,s'',o1++o2)
     | none=>none
   | r=>r
def evoR (P:Program) (sc:Script) (rid:Nat) (ops:Array Oper):Bool→St→Option (Ex × St × List Ob)
 | false,s=>match seqOps P sc rid ops ops.toList 0 s with
   | some (s',o)=>some (.normal,s',o)
   | none=>none
 | true,s =>
   if P.follows .mixedOrders=true∧edgesOk ops.toList=true then
    match dOps P sc rid ops ops.toList 0 s.m.length ⟨s.t,s.m++List.replicate (news ops.toList) none⟩ with
    | some (s',fs,o)=>if okFs (bits ops.toList) s.m.length (s.m.length+news ops.toList) fs=true then some (.normal,s',o) else none
    | none=>none
   else none
def evo (P:Program) (sc:Script) (sb:Blocks) (N:Nat):Code→Nat→St→Option (Ex × St × List Ob)
 | .skip,_,s=>some (.normal,s,[])
 | .region id ops dr,off,s=>match lookB (900000000+(id+off)) sb with
   | some (e,s')=>some (e,s',[.prop (TSpec P (.region id ops dr) s e s')])
   | none=>evoR P sc (id+off) ops dr s
 | .seq a b,off,s=>match evo P sc sb N a off s with
   | some (.normal,s',o1)=>match evo P sc sb N b off s' with
     | some (e,s'',o2)=>some (e,s'',o1++o2)
     | none=>none
   | some (e,s',o1)=>some (e,s',o1)
   | none=>none
 | .cond c x y,off,s=>match s.at c with
   | .c (.bool true)=>evo P sc sb N x off s
   | .c (.bool false)=>evo P sc sb N y off s
   | _=>none
 | .block id c,off,s=>match lookB (id+off) sb with
   | some (e,s')=>match look (id+off) 99999 sc with
     | some (.mask b)=>match (dim b s.t).all (fun v=>v.there s.m) with
       | true=>some (e,s',[.prop (Flat s.m),.prop (TSpec P (.block id c) ⟨dim b s.t,s.m⟩ e s')])
       | false=>none
     | some (.maskN b)=>match (dim b s.t).all (fun v=>v.there s.m) with
       | true=>some (e,s',[.prop (Flat s.m),.prop (TSpecN P N (.block id c) ⟨dim b s.t,s.m⟩ e s')])
       | false=>none
     | _=>some (e,s',[.prop (TSpec P (.block id c) s e s')])
   | none=>match evo P sc sb N c off s with
     | some (.exit i,s',o)=>if i=id then some (.normal,s',o) else some (.exit i,s',o)
     | r=>r
 | .loop c,off,s=>iter (fun k s=>evo P sc sb N c ((off+k+1)*1000) s) 300 0 s
 | .exit id,_,s=>some (.exit id,s,[])
 | .label _,_,s=>some (.normal,s,[])
 | .ret,_,s=>some (.ret,s,[])
 | _,_,_=>none
def ev (P:Program) (sc:Script) (sb:Blocks) (c:Code) (s:St):Option (Ex × St × List Ob):=evo P sc sb s.m.length c 0 s
section
variable {P:Program} {C:Cx} {β:Env} {s:St} {o:Oper} {w w0:World} {a:Act} {Q:Exit→Act→World→Prop}
theorem seq_ok {sc:Script} {rid:Nat} {ops:Array Oper}:∀ (l:List Oper) (i:Nat) (β:Env) (s s':St) (obs:List Ob) (a:Act) (w:World),(∀ j o,l[j]? = some o→ops[i+j]? = some o) →
 seqOps P sc rid ops l i s=some (s',obs)→Holds P obs→Ok C β w0 s a w→(∀ β' a' w',Ok C β' w0 s' a' w' → Q .normal a' w')→wpOps P ops Q (List.range' i l.length) a w
 | [],i,β,s,s',obs,a,w,_,h,_,hok,hk=>by
   simp only [seqOps,Option.some.injEq,Prod.mk.injEq] at h
   obtain ⟨rfl,rfl⟩:=h
   exact hk β a w hok
 | o::r,i,β,s,s',obs,a,w,hl,h,hh,hok,hk=>by
   have hio:ops[i]? = some o:=hl 0 o rfl
   have hl':∀ j o',r[j]? = some o' → ops[i+1+j]? = some o':=fun j o' hj=>by
    have:=hl (j+1) o' (by simpa using hj)
    rwa [show i+(j+1)=i+1+j by omega] at this
   simp only [List.length_cons,List.range'_succ,wpOps,hio]
   simp only [seqOps] at h
   split at h
   ·rename_i hw
    rw [want_sound hok hw]
    split at h
    ·rename_i e o1 he
     split at h
     ·rename_i s1 o2 hr
      simp only [Option.some.injEq,Prod.mk.injEq] at h
      obtain ⟨rfl,rfl⟩:=h
      obtain ⟨h1,h2⟩:=holds_append hh
      exact .inl (step_ok hok he h1 fun β' a' w' hok'=>seq_ok r (i+1) β' _ _ _ a' w' hl' hr h2 hok' hk)
     cases h
    cases h
   ·rename_i hw
    rw [want_sound hok hw]
    simp only [Bool.false_eq_true,if_false]
    refine seq_ok r (i+1) β _ _ _ _ w hl' h hh ?_ hk
    refine ⟨hok.tmps.put (v:=.c undef) _ fun _=>rfl,(put_defers _).trans hok.defers,?_,?_,hok.frame,?_,(by rw [put_m]; exact hok.pin),hok.laid⟩
    ·rw [put_m]; exact hok.mem
    ·rw [put_m]; exact hok.dirty
    rw [put_m]
    intro u hu
    rcases put_mem hu with hu | rfl
    ·exact hok.ltt u hu
    exact lv_c _ _
   cases h
theorem draw_ok {ops:Array Oper} {sc:Script} {rid rid' k:Nat} {s':St} {fs:List Ft} {obs:List Ob} (hm:P.follows .mixedOrders=true) (hE:edgesOk ops.toList=true)
 (hd:dOps P sc rid' ops ops.toList 0 s.m.length ⟨s.t,s.m++List.replicate k none⟩=some (s',fs,obs)) (hF:okFs (bits ops.toList) s.m.length (s.m.length+k) fs=true) (hh:Holds P obs)
 (hok:Ok C β w0 s a w) (hk:∀ β' a' w',Ok C β' w0 s' a' w' → Q .normal a' w'):(Code.region rid ops true).wp P Q a w:=by
 refine wp_region_any hm ?_
 have hp:∀ j,pL (Array.replicate ops.size false) j=false:=by
  intro j
  simp only [pL,Array.getD_eq_getD_getElem?]
  cases hj:(Array.replicate ops.size false)[j]? with
  | none=>rfl
  | some b =>
    obtain ⟨_,h⟩:=Array.getElem?_eq_some_iff.1 hj
    rw [← h]
    simp
 have hlen:(s.m++List.replicate k (none:Option Row)).length=s.m.length+k:=by simp
 have hpre:∀ id,s.m.length≤id→row? (s.m++List.replicate k none) id=none:=by
  intro id hid
  unfold row?
  rw [List.getElem?_append_right hid]
  cases hj:(List.replicate k (none:Option Row))[id - s.m.length]? with
  | none=>rfl
  | some x =>
    have:=List.mem_of_getElem? hj
    rw [List.eq_of_mem_replicate this]
    rfl
 have hold:∀ id r,row? (s.m++List.replicate k none) id=some r→row? s.m id=some r:=by
  intro id r hr
  by_cases hid:id < s.m.length
  ·unfold row? at hr ⊢
   rwa [List.getElem?_append_left hid] at hr
  rw [hpre id (by omega)] at hr; cases hr
 have hnew:∀ id r,row? s.m id=some r→row? (s.m++List.replicate k none) id=some r:=by
  intro id r hr
  have hl:=row_lt hr
  unfold row? at hr ⊢
  rwa [List.getElem?_append_left hl]
 have hlv:∀ v:V,v.lv s.m→v.lv (s.m++List.replicate k none):=fun v hv id hid=>by
  obtain ⟨r,hr⟩:=hv id hid
  exact ⟨r,hnew id r hr⟩
 refine draw_key (m0:=s.m.length) (s0:=⟨s.t,s.m++List.replicate k none⟩) (w0:=w0) (C:=C) hd hh hE (by simp only [hlen]; exact hF) hpre hok.pin.2.1 hk ops.size _ β a _ (by simp) ?_ ?_ ?_
 ·rw [List.filter_eq_self.2 (fun j _=>by simp [hp j])]
  simp
 ·intro i o _ hpi
  rw [hp i] at hpi
  cases hpi
 have hf:foldE (pL (Array.replicate ops.size false)) 0 fs ⟨s.t,s.m++List.replicate k none⟩=⟨s.t,s.m++List.replicate k none⟩:=fold_none _ _ _ fun j _=>hp j
 rw [hf]
 refine ⟨hok.tmps,hok.defers,⟨fun id r hr=>hok.mem.blk id r (hold id r hr),fun i j ri rj hi hj=>hok.mem.inj i j ri rj (hold i ri hi) (hold j rj hj),fun id r hr v hv=>⟨hlv v (hok.mem.lv id r (hold id r hr) v hv).1,(hok.mem.lv id r (hold id r hr) v hv).2⟩⟩,
  fun id r hr=>hok.dirty id r (hold id r hr),⟨hok.frame.os,hok.frame.tape,hok.frame.output,hok.frame.size,hok.frame.block⟩,fun v hv=>hlv v (hok.ltt v hv),⟨hok.pin.1,(by have:=hok.pin.2.1; rw [hlen]; omega),fun i r hi ho=>hnew i r (hok.pin.2.2 i r hi ho)⟩,hok.laid⟩
theorem evo_ok {sc:Script} {sb:Blocks} {N:Nat} (hN:C.n0≤N):∀ (c:Code) (off:Nat) (β:Env) (s s':St) (e:Ex) (obs:List Ob) (a:Act) (w:World) (Q:Exit→Act→World→Prop),
 evo P sc sb N c off s=some (e,s',obs)→Holds P obs→Ok C β w0 s a w→(∀ β' a' w',Ok C β' w0 s' a' w' → Q e.up a' w')→c.wp P Q a w:=by
 intro c
 induction c with
 | skip =>
   intro off β s s' e obs a w Q h _ hok hk
   simp only [evo,Option.some.injEq,Prod.mk.injEq] at h
   obtain ⟨rfl,rfl,rfl⟩:=h
   exact wp_skip (hk β a w hok)
 | region id ops draw =>
   intro off β s s' e obs a w Q h hh hok hk
   simp only [evo] at h
   split at h
   ·simp only [Option.some.injEq,Prod.mk.injEq] at h
    obtain ⟨rfl,rfl,rfl⟩:=h
    refine wp_mono (hh.1 C w0 β a w hok) fun x a' w' hx=>?_
    obtain ⟨rfl,β',hok'⟩:=hx
    exact hk β' a' w' hok'
   cases draw with
   | false =>
     simp only [evoR] at h
     split at h
     ·rename_i s1 o1 hs
      simp only [Option.some.injEq,Prod.mk.injEq] at h
      obtain ⟨rfl,rfl,rfl⟩:=h
      refine wp_region ?_
      have:=seq_ok (Q:=Q) ops.toList 0 β s _ _ a w (fun j o hj=>by simpa using hj) hs hh hok hk
      rw [List.range_eq_range']
      simpa using this
     cases h
   | true =>
     simp only [evoR] at h
     split at h
     ·rename_i hme
      split at h
      ·rename_i s1 fs o1 hd
       split at h
       ·rename_i hF
        simp only [Option.some.injEq,Prod.mk.injEq] at h
        obtain ⟨rfl,rfl,rfl⟩:=h
        exact draw_ok hme.1 hme.2 hd hF hh hok hk
       cases h
      cases h
     cases h
 | seq x y ihx ihy =>
   intro off β s s' e obs a w Q h hh hok hk
   simp only [evo] at h
   split at h
   ·rename_i s1 o1 hx
    split at h
    ·rename_i e2 s2 o2 hy
     simp only [Option.some.injEq,Prod.mk.injEq] at h
     obtain ⟨rfl,rfl,rfl⟩:=h
     obtain ⟨h1,h2⟩:=holds_append hh
     exact wp_seq (ihx off β s _ _ _ a w _ hx h1 hok fun β' a' w' hok'=>ihy off β' _ _ _ _ a' w' Q hy h2 hok' hk)
    cases h
   ·rename_i e1 s1 o1 hne hx
    simp only [Option.some.injEq,Prod.mk.injEq] at h
    obtain ⟨rfl,rfl,rfl⟩:=h
    refine wp_seq (ihx off β s _ _ _ a w _ hx hh hok fun β' a' w' hok'=>?_)
    have:=hk β' a' w' hok'
    cases e1 with
    | normal=>exact (hne rfl).elim
    | exit i=>exact this
    | ret=>exact this
   cases h
 | cond c x y ihx ihy =>
   intro off β s s' e obs a w Q h hh hok hk
   simp only [evo] at h
   split at h
   ·rename_i hc
    exact wp_cond_true (by rw [hok.tmps.eval c (by rw [hc]; rfl),hc]; rfl) (ihx off β s _ _ _ a w Q h hh hok hk)
   ·rename_i hc
    exact wp_cond_false (by rw [hok.tmps.eval c (by rw [hc]; rfl),hc]; rfl) (ihy off β s _ _ _ a w Q h hh hok hk)
   cases h
 | block id c ih =>
   intro off β s s' e obs a w Q h hh hok hk
   simp only [evo] at h
   split at h
   ·split at h
    ·split at h
     ·rename_i ht
      simp only [Option.some.injEq,Prod.mk.injEq] at h
      obtain ⟨rfl,rfl,rfl⟩:=h
      refine wp_mono (TSpec.from _ hh.2.1 rfl ht hh.1 C w0 β a w hok) fun x a' w' hx=>?_
      obtain ⟨rfl,β',hok'⟩:=hx
      exact hk β' a' w' hok'
     cases h
    ·split at h
     ·rename_i ht
      simp only [Option.some.injEq,Prod.mk.injEq] at h
      obtain ⟨rfl,rfl,rfl⟩:=h
      refine wp_mono (hh.2.1 C w0 β a w hN (hok.from _ rfl ht hh.1)) fun x a' w' hx=>?_
      obtain ⟨rfl,β',hok'⟩:=hx
      exact hk β' a' w' hok'
     cases h
    simp only [Option.some.injEq,Prod.mk.injEq] at h
    obtain ⟨rfl,rfl,rfl⟩:=h
    refine wp_mono (hh.1 C w0 β a w hok) fun x a' w' hx=>?_
    obtain ⟨rfl,β',hok'⟩:=hx
    exact hk β' a' w' hok'
   split at h
   ·rename_i i s1 o1 hc
    split at h
    ·rename_i hi
     simp only [Option.some.injEq,Prod.mk.injEq] at h
     obtain ⟨rfl,rfl,rfl⟩:=h
     refine wp_block (ih off β s _ _ _ a w _ hc hh hok fun β' a' w' hok'=>?_)
     simp only [Ex.up,Exit.inBlock,hi,if_true]
     exact hk β' a' w' hok'
    rename_i hi
    simp only [Option.some.injEq,Prod.mk.injEq] at h
    obtain ⟨rfl,rfl,rfl⟩:=h
    refine wp_block (ih off β s _ _ _ a w _ hc hh hok fun β' a' w' hok'=>?_)
    simp only [Ex.up,Exit.inBlock,hi,if_false]
    exact hk β' a' w' hok'
   rename_i r hne
   refine wp_block (ih off β s _ _ _ a w _ h hh hok fun β' a' w' hok'=>?_)
   have:=hk β' a' w' hok'
   cases e with
   | normal=>exact this
   | exit i=>exact (hne _ _ _ h).elim
   | ret=>exact this
 | loop c ih =>
   intro off β s s' e obs a w Q h hh hok hk
   simp only [evo] at h
   have key:∀ (n k:Nat) (β:Env) (s:St) (obs:List Ob) (a:Act) (w:World),iter (fun k s=>evo P sc sb N c ((off+k+1)*1000) s) n k s=some (e,s',obs)→Holds P obs→Ok C β w0 s a w→Code.rounds P c Q n a w:=by
    intro n
    induction n with
    | zero=>intro k β s obs a w h; simp [iter] at h
    | succ n ihn =>
      intro k β s obs a w h hh hok
      simp only [iter] at h
      rw [rounds_succ]
      split at h
      ·rename_i s1 o1 hc
       split at h
       ·rename_i e2 s2 o2 hr
        simp only [Option.some.injEq,Prod.mk.injEq] at h
        obtain ⟨rfl,rfl,rfl⟩:=h
        obtain ⟨h1,h2⟩:=holds_append hh
        exact ih _ β s _ _ _ a w _ hc h1 hok fun β' a' w' hok'=>ihn (k+1) β' s1 _ a' w' hr h2 hok'
       cases h
      rename_i hne
      refine ih _ β s _ _ _ a w _ h hh hok fun β' a' w' hok'=>?_
      have:=hk β' a' w' hok'
      cases e with
      | normal=>exact (hne _ _ h).elim
      | exit i=>exact this
      | ret=>exact this
   exact wp_loop_rounds 300 (key 300 0 β s obs a w h hh hok)
 | exit id =>
   intro off β s s' e obs a w Q h _ hok hk
   simp only [evo,Option.some.injEq,Prod.mk.injEq] at h
   obtain ⟨rfl,rfl,rfl⟩:=h
   exact wp_exit (hk β a w hok)
 | label l =>
   intro off β s s' e obs a w Q h _ hok hk
   simp only [evo,Option.some.injEq,Prod.mk.injEq] at h
   obtain ⟨rfl,rfl,rfl⟩:=h
   exact wp_label (hk β a w hok)
 | ret =>
   intro off β s s' e obs a w Q h _ hok hk
   simp only [evo,Option.some.injEq,Prod.mk.injEq] at h
   obtain ⟨rfl,rfl,rfl⟩:=h
   exact wp_ret (hk β a w hok)
 | _=>intro off β s s' e obs a w Q h; simp [evo] at h
theorem ev_ok {sc:Script} {sb:Blocks} (c:Code) (β:Env) (s s':St) (e:Ex) (obs:List Ob) (a:Act) (w:World) (Q:Exit→Act→World→Prop)
 (h:ev P sc sb c s=some (e,s',obs)) (hh:Holds P obs) (hok:Ok C β w0 s a w) (hk:∀ β' a' w',Ok C β' w0 s' a' w' → Q e.up a' w'):c.wp P Q a w :=
 evo_ok hok.pin.2.1 c 0 β s s' e obs a w Q h hh hok hk
end
theorem tspec_of {P:Program} {sc:Script} {sb:Blocks} {c:Code} {s s':St} {e:Ex} {obs:List Ob} (h:ev P sc sb c s=some (e,s',obs)) (hh:Holds P obs):TSpec P c s e s' :=
 fun C w0 β a w hok=>ev_ok (w0:=w0) (C:=C) c β s s' e obs a w _ h hh hok fun β' a' w' hok'=>⟨rfl,β',hok'⟩
theorem tspecN_of {P:Program} {n:Nat} {sc:Script} {sb:Blocks} {c:Code} {s s':St} {e:Ex} {obs:List Ob} (h:evo P sc sb n c 0 s=some (e,s',obs)) (hh:Holds P obs):TSpecN P n c s e s' :=
 fun C w0 β a w hn hok=>evo_ok (w0:=w0) (C:=C) hn c 0 β s s' e obs a w _ h hh hok fun β' a' w' hok'=>⟨rfl,β',hok'⟩
def resV (P:Program) (s:St):ResultVar→Option V
 | .tmp t=>if (s.t.getD t (.c undef)).known then some (s.t.getD t (.c undef)) else none
 | .cell a t=>match s.t.getD a (.c undef) with
   | .p id off=>match row? s.m id with
     | some r=>match agg? P t,size? P t with
       | some true,some n =>
         if ((r.cells.drop off).take n).length=n∧((r.cells.drop off).take n).all V.isC=true then some (.c (.agg (((r.cells.drop off).take n).map V.val).toArray)) else none
       | some false,_=>r.cells[off]?
       | _,_=>none
     | none=>none
   | _=>none
def resL (P:Program) (s:St):List ResultVar→Option (List V)
 | []=>some []
 | x::r=>match resV P s x,resL P s r with
   | some v,some l=>some (v::l)
   | _,_=>none
def shut:List V→Option V
 | [v]=>some v
 | [.sl id off len cap,.c w]=>some (.ts id off len cap w)
 | [.sd id len sz,.c w]=>some (.td id len sz w)
 | l=>if l.all V.isC=true then some (.c (.tuple (l.map V.val).toArray)) else none
def start (fn:Func) (args:List V) (m:Rows):St:=⟨args++List.replicate (fn.ntmps - args.length) (.c undef),m⟩
def reN (n:Nat) (keep:List Nat) (id:Nat):Option Nat:=if id < n then some id else (idx id keep 0).map (n + ·)
def reV (n:Nat) (keep:List Nat):V→Option V
 | .any=>none
 | .c v=>some (.c v)
 | .p id off=>(reN n keep id).map fun k=>.p k off
 | .sl id off len cap=>(reN n keep id).map fun k=>.sl k off len cap
 | .sd id len sz=>(reN n keep id).map fun k=>.sd k len sz
 | .ts id off len cap w=>(reN n keep id).map fun k=>.ts k off len cap w
 | .td id len sz w=>(reN n keep id).map fun k=>.td k len sz w
 | .fn g id off=>(reN n keep id).map fun k=>.fn g k off
def reS (n:Nat) (keep:List Nat) (v:V):V:=(reV n keep v).getD .any
section
variable {C:Cx} {β:Env} {s:St} {w w0:World} {a:Act}
theorem Ok.ren {n:Nat} {keep:List Nat} (hok:Ok C β w0 s a w) (hn:C.n0≤n) (hml:n≤s.m.length) (hge:keep.all (fun i=>decide (n≤i))=true) (hnd:keep.Nodup) (hfl:Flat (s.m.take n++keep.map (row? s.m))) :
 ∃ β2:Env,(∀ i,i < n→β2 i=β i)∧(∀ v v',reV n keep v=some v' → v'.up β2=v.up β)∧Ok C β2 w0 ⟨s.t.map (reS n keep),s.m.take n++keep.map (row? s.m)⟩ a w:=by
 obtain ⟨β2,hb1,hb2⟩:∃ β2:Env,(∀ i,i < n→β2 i=β i)∧(∀ (k id:Nat),keep[k]? = some id→β2 (n+k)=β id):=by
  refine ⟨fun i=>if i < n then β i else match keep[i - n]? with | some id=>β id | none=>⟨0,0,0⟩,fun i hi=>by simp only; rw [if_pos hi],fun k id hk=>?_⟩
  simp only
  rw [if_neg (by omega),show n+k - n=k by omega,hk]
 have htl:(s.m.take n).length=n:=by simp; omega
 have orig:∀ i ri,row? (s.m.take n++keep.map (row? s.m)) i=some ri → ∃ id,row? s.m id=some ri∧β2 i=β id∧((i < n∧id=i)∨(n≤i∧n≤id∧keep[i - n]? = some id)):=by
  intro i ri hri
  by_cases hi:i < n
  ·refine ⟨i,?_,hb1 i hi,.inl ⟨hi,rfl⟩⟩
   unfold row? at hri ⊢
   rw [List.getElem?_append_left (by omega),List.getElem?_take,if_pos hi] at hri
   exact hri
  unfold row? at hri
  rw [List.getElem?_append_right (by omega),htl,List.getElem?_map] at hri
  cases hk:keep[i - n]? with
  | none=>rw [hk] at hri; cases hri
  | some id =>
    rw [hk] at hri
    simp only [Option.map_some,Option.bind_some] at hri
    refine ⟨id,hri,?_,.inr ⟨by omega,of_decide_eq_true (List.all_eq_true.1 hge id (List.mem_of_getElem? hk)),rfl⟩⟩
    have:=hb2 _ id hk
    rwa [show n+(i - n)=i by omega] at this
 have hflat:∀ i ri,row? (s.m.take n++keep.map (row? s.m)) i=some ri→ri.cells.all V.isC=true:=fun i ri hri=>List.all_eq_true.2 (flat_at hfl i ri hri)
 have hre:∀ id k,reN n keep id=some k→β2 k=β id ∧ ∀ r,row? s.m id=some r→row? (s.m.take n++keep.map (row? s.m)) k=some r:=by
  intro id k h
  unfold reN at h
  split at h
  ·rename_i hlt
   cases h
   refine ⟨hb1 _ hlt,fun r hr=>?_⟩
   unfold row? at hr ⊢
   rw [List.getElem?_append_left (by omega),List.getElem?_take,if_pos hlt]
   exact hr
  rw [Option.map_eq_some_iff] at h
  obtain ⟨j,hj,rfl⟩:=h
  obtain ⟨_,hjj⟩:=idx_some hj
  rw [Nat.sub_zero] at hjj
  refine ⟨hb2 j _ hjj,fun r hr=>?_⟩
  rw [row_at,List.getElem?_append_right (by omega),htl,show n+j - n=j by omega,List.getElem?_map,hjj]
  exact hr
 have hup:∀ v v',reV n keep v=some v' → v'.up β2=v.up β∧(v.lv s.m→v'.lv (s.m.take n++keep.map (row? s.m)))∧v.known=true:=by
  intro v v' h
  have one:∀ id k,v.id? = some id→v'.id? = some k→reN n keep id=some k→v.lv s.m→v'.lv (s.m.take n++keep.map (row? s.m)):=fun id k h1 h2 h3 hl i hi=>by
   rw [h2] at hi
   cases hi
   obtain ⟨r,hr⟩:=hl id h1
   exact ⟨r,(hre id k h3).2 r hr⟩
  cases v with
  | any=>cases h
  | c v=>cases h; exact ⟨rfl,fun _=>lv_c _ _,rfl⟩
  | _ =>
    simp only [reV,Option.map_eq_some_iff] at h
    obtain ⟨k,hk,rfl⟩:=h
    exact ⟨by simp only [V.up,(hre _ k hk).1],one _ k rfl rfl hk,rfl⟩
 refine ⟨β2,hb1,fun v v' h=>(hup v v' h).1,⟨by rw [hok.tmps.size,List.length_map],fun i v hi hk=>?_⟩,hok.defers,⟨fun i ri hri=>?_,fun i j ri rj hi hj ho hz hij=>?_,fun i ri hri v hv=>?_⟩,fun i ri hri ho=>?_,hok.frame,fun v hv=>?_,⟨fun i hi=>(hb1 i (by omega)).trans (hok.pin.1 i hi),(by simp only [List.length_append,htl]; omega),fun i r hi ho=>?_⟩,hok.laid⟩
 ·rw [List.getElem?_map,Option.map_eq_some_iff] at hi
  obtain ⟨u,hu,rfl⟩:=hi
  cases hr:reV n keep u with
  | none=>unfold reS at hk; rw [hr] at hk; cases hk
  | some u' =>
    obtain ⟨h1,_,h3⟩:=hup u u' hr
    rw [hok.tmps.get i u hu h3,← h1]
    unfold reS
    rw [hr]
    rfl
 ·obtain ⟨id,hid,hbe,_⟩:=orig i ri hri
  rw [hbe]
  have hb:=hok.mem.blk id ri hid
  refine ⟨hb.1,fun k v hk=>?_,hb.2.2⟩
  have hvc:=List.all_eq_true.1 (hflat i ri hri) v (List.mem_of_getElem? hk)
  rw [hb.2.1 k v hk,val_up hvc,val_up hvc]
 ·obtain ⟨id,hid,hbe,hcase⟩:=orig i ri hi
  obtain ⟨jd,hjd,hbe2,hcase2⟩:=orig j rj hj
  rw [hbe,hbe2] at hij
  have heq:=hok.mem.inj id jd ri rj hid hjd ho hz hij
  rcases hcase with ⟨h1,h2⟩ | ⟨h1,h2,h3⟩<;>rcases hcase2 with ⟨h4,h5⟩ | ⟨h4,h5,h6⟩
  ·omega
  ·omega
  ·omega
  rw [← heq] at h6
  obtain ⟨p1,q1⟩:=List.getElem?_eq_some_iff.1 h3
  obtain ⟨p2,q2⟩:=List.getElem?_eq_some_iff.1 h6
  have:=(List.getElem_inj hnd).1 (q1.trans q2.symm)
  omega
 ·have hvc:=List.all_eq_true.1 (hflat i ri hri) v hv
  refine ⟨fun id hid=>?_,known_of hvc⟩
  cases v with
  | c v=>cases hid
  | _=>simp [V.isC] at hvc
 ·obtain ⟨id,hid,hbe,_⟩:=orig i ri hri
  rw [hbe]
  exact hok.dirty id ri hid ho
 ·obtain ⟨u,hu,rfl⟩:=List.mem_map.1 hv
  cases hr:reV n keep u with
  | none=>unfold reS; rw [hr]; intro id hid; cases hid
  | some u' =>
    have:=(hup u u' hr).2.1 (hok.ltt u hu)
    unfold reS
    rw [hr]
    exact this
 have h1:=hok.pin.2.2 i r hi ho
 have h2:i < C.n0:=row_lt hi
 unfold row? at h1 ⊢
 rw [List.getElem?_append_left (by omega),List.getElem?_take,if_pos (by omega)]
 exact h1
end
def evF (P:Program) (fn:Func) (sc:Script) (sb:Blocks) (keep:List Nat) (args:List V) (m:Rows):Option (V × Rows × List Ob) :=
 match fn.body with
 | some c=>match ev P sc sb c (start fn args m) with
   | some (.exit _,_,_)=>none
   | some (_,s,o)=>match (resL P s fn.results.toList).bind shut with
     | some r=>match reV m.length keep r with
       | some r' =>
         match keeps m s.m&&keep.all (fun i=>decide (m.length≤i))&&decide keep.Nodup&&args.all (fun v=>v.there m) with
         | true=>some (r',s.m.take m.length++keep.map (row? s.m),.prop (Flat (s.m.take m.length++keep.map (row? s.m)))::o)
         | false=>none
       | none=>none
     | none=>none
   | none=>none
 | none=>none
section
variable {P:Program} {C:Cx} {β:Env} {s:St} {w w0:World} {a:Act}
theorem resV_run {x:ResultVar} {v:V} (h:Ok C β w0 s a w) (hr:resV P s x=some v) :
 (match x with
  | .tmp t=>(pure (a.tmps.getD t undef):Sem Value)
  | .cell c t=>do loadVar t (← asAddr (a.tmps.getD c undef))).run P w = .ok (v.up β) w∧v.lv s.m:=by
 cases x with
 | tmp t =>
   simp only [resV] at hr
   split at hr
   ·rename_i hk
    simp only [Option.some.injEq] at hr
    subst hr
    have he:=h.tmps.eval (.tmp t) hk
    simp only [Act.eval,St.at] at he
    exact ⟨by simp only [he]; rfl,at_lv h.ltt (.tmp t)⟩
   cases hr
 | cell c t =>
   simp only [resV] at hr
   split at hr
   ·rename_i id off hu
    have he:=h.tmps.eval (.tmp c) (by simp only [St.at]; rw [hu]; rfl)
    simp only [Act.eval,St.at] at he
    rw [hu] at he
    simp only [he,V.up,asAddr,pure_bind]
    split at hr
    ·rename_i r hm
     have hb:=h.mem.blk id r hm
     have cellof:∀ k v,r.cells[k]? = some v→w.cell? ⟨(β id).1,(β id).2+k,none⟩=some (v.up β):=hb.2.1
     split at hr
     ·rename_i n ha hz
      split at hr
      ·rename_i hq
       simp only [Option.some.injEq] at hr
       subst hr
       refine ⟨?_,lv_c _ _⟩
       have hl:=run_loadCells_list (P:=P) w ⟨(β id).1,(β id).2+off,none⟩ (((r.cells.drop off).take n).map (V.up β)) (fun j v hv=>by
        rw [add_at]
        rw [List.getElem?_map,Option.map_eq_some_iff] at hv
        obtain ⟨u,hu,rfl⟩:=hv
        rw [Nat.add_assoc]
        refine cellof _ _ ?_
        rw [List.getElem?_take] at hu
        split at hu
        ·rw [List.getElem?_drop] at hu; exact hu
        cases hu)
       rw [List.length_map,hq.1] at hl
       have hs:=sub_up (β:=β) hq.2
       simp [loadVar,sval_run ha,size_run hz,hl,hs]
      cases hr
     ·rename_i ha
      have hcell:=cellof _ _ hr
      exact ⟨by simp [loadVar,sval_run ha,hcell,V.up],(h.mem.lv id r hm v (List.mem_of_getElem? hr)).1⟩
     cases hr
    cases hr
   cases hr
theorem resL_run {f:ResultVar→Sem Value} (hf:∀ x v,resV P s x=some v→(f x).run P w = .ok (v.up β) w):∀ {xs:List ResultVar} {l:List V},resL P s xs=some l→(xs.mapM f).run P w = .ok (l.map (V.up β)) w
 | [],l,h=>by
   simp only [resL,Option.some.injEq] at h
   subst h
   rfl
 | x::r,l,h=>by
   simp only [resL] at h
   split at h
   ·rename_i v l' hv hl
    simp only [Option.some.injEq] at h
    subst h
    have ih:=resL_run hf hl
    simp [List.mapM_cons,hf x v hv,ih]
   cases h
theorem res_run {xs:Array ResultVar} (f:ResultVar→Sem Value) (hf:∀ x v,resV P s x=some v→(f x).run P w = .ok (v.up β) w) {l:List V} (hl:resL P s xs.toList=some l) {r:V} (hr:shut l=some r) :
 ((do let vs ← xs.mapM f; pure (if h:vs.size=1 then vs[0] else .tuple vs)):Sem Value).run P w = .ok (r.up β) w:=by
 rw [Array.mapM_eq_mapM_toList]
 have h1:=resL_run (P:=P) (s:=s) (w:=w) hf hl
 simp only [Sem.run_bind,Sem.run_map,h1,Result.andThen_ok]
 unfold shut at hr
 split at hr
 ·rename_i v
  cases hr
  rfl
 ·cases hr
  rfl
 ·cases hr
  rfl
 rename_i hne _ _
 split at hr
 ·rename_i hall
  cases hr
  have hs:=sub_up (β:=β) hall
  rw [hs]
  have hlen:(l.map V.val).toArray.size≠1:=by
   simp only [List.size_toArray,List.length_map]
   intro h1
   obtain ⟨v,hv⟩:=List.length_eq_one_iff.1 h1
   exact hne v hv
  rw [dif_neg hlen]
  rfl
 cases hr
theorem fspec_ok {f:FuncId} {fn:Func} {sc:Script} {sb:Blocks} {keep:List Nat} {args:List V} {m m':Rows} {r:V} {obs:List Ob} (hf:P.funcs[f]? = some fn)
 (h:evF P fn sc sb keep args m=some (r,m',obs)) (hh:Holds P obs):FSpec P f args m r m':=by
 intro w β hlaid hapart hmem
 unfold evF at h
 split at h
 ·rename_i c hb
  split at h
  ·cases h
  ·rename_i e s o hne hev
   split at h
   ·rename_i r0 hres
    split at h
    ·rename_i r1 hre
     split at h
     ·rename_i hc
      simp only [Option.some.injEq,Prod.mk.injEq] at h
      obtain ⟨rfl,rfl,rfl⟩:=h
      simp only [Bool.and_eq_true,decide_eq_true_eq] at hc
      obtain ⟨⟨⟨hks,hge⟩,hnd⟩,hth⟩:=hc
      obtain ⟨hfl,hh⟩:=hh
      rw [Option.bind_eq_some_iff] at hres
      obtain ⟨l,hl,hsh⟩:=hres
      have hsz:(args.map (V.up β)).toArray.size=args.length:=by simp
      refine calls_of_wp hf hb (ev_ok (w0:=w) (C:=⟨fun k=>∃ i ri,row? m i=some ri∧ri.own=true∧k=(β i).1,m,β⟩) c β (start fn args m) s e o _ w _ hev hh ?_ ?_)
      ·refine ⟨⟨by simp [start],fun i v hi hk=>?_⟩,rfl,hmem,fun id r hr ho=>.inr ⟨id,r,hr,ho,rfl⟩,Fr.refl _ _,fun v hv=>?_,⟨fun _ _=>rfl,Nat.le_refl _,fun _ _ h _=>h⟩,hlaid,fun ⟨i,ri,hi,ho,he⟩=>hapart i ri hi ho he.symm⟩
       ·simp only [start] at hi
        rw [hsz]
        by_cases hil:i < args.length
        ·rw [List.getElem?_append_left hil] at hi
         rw [Array.getElem?_append_left (by simpa using hil)]
         simp [hi]
        rw [List.getElem?_append_right (by omega)] at hi
        rw [Array.getElem?_append_right (by simp; omega)]
        have hv:=List.eq_of_mem_replicate (List.mem_of_getElem? hi)
        have hlt:=(List.getElem?_eq_some_iff.1 hi).1
        simp only [List.length_replicate] at hlt
        rw [hv,hsz,Array.getElem?_replicate,if_pos hlt]
        rfl
       simp only [start,List.mem_append] at hv
       rcases hv with hv | hv
       ·have:=List.all_eq_true.1 hth v hv
        intro id hid
        unfold V.there at this
        rw [hid] at this
        exact Option.isSome_iff_exists.1 this
       rw [List.eq_of_mem_replicate hv]
       exact lv_c _ _
      intro β' a' w' hok
      have hresv:=fun x v (hv:resV P s x=some v)=>resV_run (w:=w') hok hv
      have hrun:(results fn a'.tmps).run P w' = .ok (r0.up β') w':=res_run _ (fun x v hv=>by cases x<;>exact (hresv _ v hv).1) hl hsh
      have fin : ∃ β2 : Env, (∀ i, i < m.length → β2 i = β i) ∧ (∀ i ri, m.length ≤ i → row? (s.m.take m.length ++ keep.map (row? s.m)) i = some ri → ri.own = true → w.heap.size ≤ (β2 i).1) ∧
       Ending.returned (r0.up β') = .returned (r1.up β2)∧Mem β2 (s.m.take m.length++keep.map (row? s.m)) w' ∧ Fr (fun k=>∃ i ri,row? m i=some ri∧ri.own=true∧k=(β i).1) w w' ∧ RO m (s.m.take m.length++keep.map (row? s.m)):=by
       have hml:m.length≤s.m.length:=hok.pin.2.1
       obtain ⟨β2,hb1,hup,hok2⟩:=hok.ren (Nat.le_refl _) hml hge hnd hfl
       have hpin:∀ i,i < m.length→β2 i=β i:=fun i hi=>(hb1 i hi).trans (hok.pin.1 i hi)
       refine ⟨β2,hpin,fun i ri hi hri ho=>?_,by rw [hup _ _ hre],hok2.mem,hok2.frame,hok2.pin.2.2⟩
       rcases hok2.dirty i ri hri ho with h1 | ⟨i0,r0',hi0,ho0,heq⟩
       ·exact h1
       exfalso
       obtain ⟨r1',hr1',how1⟩:=keeps_at hks hi0
       have hl0:=row_lt hi0
       rw [← hpin i0 hl0] at heq
       have hr2:row? (s.m.take m.length++keep.map (row? s.m)) i0=some r1':=by
        unfold row? at hr1' ⊢
        rw [List.getElem?_append_left (by simp; omega),List.getElem?_take,if_pos hl0]
        exact hr1'
       have:=hok2.mem.inj i i0 ri r1' hri hr2 ho (.inl (how1.trans ho0)) heq
       omega
      cases e with
      | normal=>exact ⟨hok.defers,_,hrun,fin⟩
      | ret=>exact ⟨hok.defers,_,hrun,fin⟩
      | exit i=>exact (hne _ rfl).elim
     cases h
    cases h
   cases h
  cases h
 cases h
end
theorem cspec_of {P:Program} {f:FuncId} {args:Array Value} {r:Value} {m':Rows} (h:FSpec P f (args.toList.map .c) [] (.c r) m'):CSpec P f args r:=by
 intro w hlaid
 have hm:Mem (fun _=>⟨0,0,0⟩) [] w:=by
  have hn:∀ i,row? [] i=none:=fun i=>by simp [row?]
  exact ⟨fun i r hr=>(by rw [hn] at hr; cases hr),fun i j ri rj hi=>(by rw [hn] at hi; cases hi),fun i r hr=>(by rw [hn] at hr; cases hr)⟩
 have h1:=h w (fun _=>⟨0,0,0⟩) hlaid (fun i ri hi=>by simp [row?] at hi) hm
 have ha:((args.toList.map V.c).map (V.up fun _=>⟨0,0,0⟩)).toArray=args:=by
  rw [List.map_map]
  have:(V.up (fun _=>⟨0,0,0⟩) ∘ V.c)=id:=rfl
  rw [this,List.map_id]
 rw [ha] at h1
 refine h1.mono fun e w' hw=>?_
 obtain ⟨β',_,_,rfl,_,hfr,_⟩:=hw
 refine ⟨rfl,hfr.os,hfr.tape,hfr.output,hfr.size,fun k hk=>hfr.block k hk ?_⟩
 rintro ⟨i,ri,hi,_⟩
 simp [row?] at hi
theorem fn_ok {P:Program} {f:FuncId} {fn:Func} {sc:Script} {sb:Blocks} {args:Array Value} {r:Value} {obs:List Ob} (hf:P.funcs[f]? = some fn)
 (h:evF P fn sc sb [] (args.toList.map .c) []=some (.c r,[],.prop True::obs)) (hh:Holds P obs):CSpec P f args r:=cspec_of (fspec_ok hf h ⟨trivial,hh⟩)
def getB (id:Nat):Code→Option Code
 | .block i c=>if i=id then some c else getB id c
 | .seq a b=>match getB id a with
   | some c=>some c
   | none=>getB id b
 | .cond _ a b=>match getB id a with
   | some c=>some c
   | none=>getB id b
 | .loop c=>getB id c
 | .scope c=>getB id c
 | _=>none
def loopOf (fn:Func) (id:Nat):Code:=match (fn.body.bind (getB id)) with
 | some (.loop c)=>c
 | _=>.skip
theorem zV {p:Prop} (h:p:=by first
 | (with_reducible rfl)
 | (with_reducible assumption)
 | (simp only [V.c.injEq,Value.bool.injEq,Value.int.injEq,V.p.injEq,V.sl.injEq,decide_eq_true_eq,decide_eq_false_iff_not,true_and,and_true,Int.toNat_natCast,Int.toNat_zero,Nat.mul_one,Nat.zero_mul,Nat.add_zero,Nat.sub_zero,ite_self,IntKind.wrap_i64,beq_iff_eq,beq_eq_false_iff_ne,ne_eq]; first | (with_reducible assumption) | omega | (constructor<;>omega) | (refine ⟨?_,?_,?_⟩<;>omega))
 | omega
 | (simp; done)
 | (simp; omega)
 | (simp_all; done)
 | (simp_all; omega)):p:=h
section
variable {P:Program}
theorem loop_spec {α:Type} {body:Code} {id:Nat} {e:Ex} {s':St} (S:α→St) (μ:α→Nat) (I:α→Prop)
 (h:∀ x,I x→(∃ y,I y∧μ y < μ x∧TSpec P body (S x) .normal (S y))∨(e = .normal∧TSpec P body (S x) (.exit id) s')∨(e = .ret∧TSpec P body (S x) .ret s')) (x:α) (hx:I x):TSpec P (.block id (.loop body)) (S x) e s':=by
 intro C w0 β a w hok
 refine wp_block ?_
 refine wp_loop_ghost (fun n a w=>∃ x β,I x∧μ x=n∧Ok C β w0 (S x) a w) (μ x) ⟨x,β,hx,rfl,hok⟩ ?_
 rintro n a1 w1 ⟨y,β1,hy,rfl,hok1⟩
 rcases h y hy with ⟨z,hz,hlt,ht⟩ | ⟨rfl,ht⟩ | ⟨rfl,ht⟩
 ·refine wp_mono (ht C w0 β1 a1 w1 hok1) fun ex a' w' hh=>?_
  obtain ⟨rfl,β',hok'⟩:=hh
  exact ⟨μ z,hlt,z,β',hz,rfl,hok'⟩
 ·refine wp_mono (ht C w0 β1 a1 w1 hok1) fun ex a' w' hh=>?_
  obtain ⟨rfl,β',hok'⟩:=hh
  simp only [Ex.up,Exit.then,Exit.inBlock,if_true]
  exact ⟨trivial,β',hok'⟩
 refine wp_mono (ht C w0 β1 a1 w1 hok1) fun ex a' w' hh=>?_
 obtain ⟨rfl,β',hok'⟩:=hh
 exact ⟨rfl,β',hok'⟩
theorem loop_specN {α:Type} {n:Nat} {body:Code} {id:Nat} {e:Ex} {s':St} (S:α→St) (μ:α→Nat) (I:α→Prop)
 (h:∀ x,I x→(∃ y,I y∧μ y < μ x∧TSpecN P n body (S x) .normal (S y))∨(e = .normal∧TSpecN P n body (S x) (.exit id) s')∨(e = .ret∧TSpecN P n body (S x) .ret s')) (x:α) (hx:I x):TSpecN P n (.block id (.loop body)) (S x) e s':=by
 intro C w0 β a w hn hok
 refine wp_block ?_
 refine wp_loop_ghost (fun n a w=>∃ x β,I x∧μ x=n∧Ok C β w0 (S x) a w) (μ x) ⟨x,β,hx,rfl,hok⟩ ?_
 rintro n a1 w1 ⟨y,β1,hy,rfl,hok1⟩
 rcases h y hy with ⟨z,hz,hlt,ht⟩ | ⟨rfl,ht⟩ | ⟨rfl,ht⟩
 ·refine wp_mono (ht C w0 β1 a1 w1 hn hok1) fun ex a' w' hh=>?_
  obtain ⟨rfl,β',hok'⟩:=hh
  exact ⟨μ z,hlt,z,β',hz,rfl,hok'⟩
 ·refine wp_mono (ht C w0 β1 a1 w1 hn hok1) fun ex a' w' hh=>?_
  obtain ⟨rfl,β',hok'⟩:=hh
  simp only [Ex.up,Exit.then,Exit.inBlock,if_true]
  exact ⟨trivial,β',hok'⟩
 refine wp_mono (ht C w0 β1 a1 w1 hn hok1) fun ex a' w' hh=>?_
 obtain ⟨rfl,β',hok'⟩:=hh
 exact ⟨rfl,β',hok'⟩
end
end Go.Proofs.YtjefpjajkbldpaaDoor.U
