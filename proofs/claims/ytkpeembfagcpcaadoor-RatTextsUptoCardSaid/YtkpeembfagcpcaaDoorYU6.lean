import Derived.Test.YtkpeembfagcpcaaDoorYU3
import Derived.Laws.IdiomStrings
set_option linter.unusedVariables false
section
namespace Go.Proofs.YtkpeembfagcpcaaDoor.U
set_option linter.unusedSimpArgs false
inductive Steps (P:Program) (body:Code) (id:Nat):Nat→St→Ex→St→Prop where
 | stop {s s':St} (h:TSpec P body s (.exit id) s'):Steps P body id 0 s .normal s'
 | ret {s s':St} (h:TSpec P body s .ret s'):Steps P body id 0 s .ret s'
 | step {n:Nat} {s s1 s':St} {e:Ex} (h:TSpec P body s .normal s1) (t:Steps P body id n s1 e s'):Steps P body id (n+1) s e s'
def Rounds (P:Program) (body:Code) (id:Nat) (s:St) (e:Ex) (s':St):Prop:=∃ n,Steps P body id n s e s'
section
variable {P:Program} {body:Code} {id:Nat} {s s1 s':St} {e:Ex}
theorem Rounds.stop (h:TSpec P body s (.exit id) s'):Rounds P body id s .normal s':=⟨0,.stop h⟩
theorem Rounds.ret (h:TSpec P body s .ret s'):Rounds P body id s .ret s':=⟨0,.ret h⟩
theorem Rounds.step (h:TSpec P body s .normal s1) (t:Rounds P body id s1 e s'):Rounds P body id s e s':=let ⟨n,t⟩:=t; ⟨n+1,.step h t⟩
theorem Steps.cases' {n:Nat} (h:Steps P body id n s e s'):(∃ k s1,n=k+1∧TSpec P body s .normal s1∧Steps P body id k s1 e s')∨(e = .normal∧TSpec P body s (.exit id) s')∨(e = .ret∧TSpec P body s .ret s'):=by
 cases h with
 | stop h=>exact .inr (.inl ⟨rfl,h⟩)
 | ret h=>exact .inr (.inr ⟨rfl,h⟩)
 | step h t=>exact .inl ⟨_,_,rfl,h,t⟩
theorem Rounds.spec (h:Rounds P body id s e s'):TSpec P (.block id (.loop body)) s e s':=by
 obtain ⟨n,h⟩:=h
 refine loop_spec (α:=Nat × St) (fun x=>x.2) (fun x=>x.1) (fun x=>Steps P body id x.1 x.2 e s') (fun x hx=>?_) (n,s) h
 rcases hx.cases' with ⟨k,s1,hn,h1,h2⟩ | h | h
 ·exact .inl ⟨(k,s1),h2,by simp [hn],h1⟩
 ·exact .inr (.inl h)
 exact .inr (.inr h)
inductive StepsN (P:Program) (m:Nat) (body:Code) (id:Nat):Nat→St→Ex→St→Prop where
 | stop {s s':St} (h:TSpecN P m body s (.exit id) s'):StepsN P m body id 0 s .normal s'
 | ret {s s':St} (h:TSpecN P m body s .ret s'):StepsN P m body id 0 s .ret s'
 | step {n:Nat} {s s1 s':St} {e:Ex} (h:TSpecN P m body s .normal s1) (t:StepsN P m body id n s1 e s'):StepsN P m body id (n+1) s e s'
def RoundsN (P:Program) (m:Nat) (body:Code) (id:Nat) (s:St) (e:Ex) (s':St):Prop:=∃ n,StepsN P m body id n s e s'
variable {m:Nat}
theorem RoundsN.stop (h:TSpecN P m body s (.exit id) s'):RoundsN P m body id s .normal s':=⟨0,.stop h⟩
theorem RoundsN.ret (h:TSpecN P m body s .ret s'):RoundsN P m body id s .ret s':=⟨0,.ret h⟩
theorem RoundsN.step (h:TSpecN P m body s .normal s1) (t:RoundsN P m body id s1 e s'):RoundsN P m body id s e s':=let ⟨n,t⟩:=t; ⟨n+1,.step h t⟩
theorem StepsN.cases' {n:Nat} (h:StepsN P m body id n s e s'):(∃ k s1,n=k+1∧TSpecN P m body s .normal s1∧StepsN P m body id k s1 e s')∨(e = .normal∧TSpecN P m body s (.exit id) s')∨(e = .ret∧TSpecN P m body s .ret s'):=by
 cases h with
 | stop h=>exact .inr (.inl ⟨rfl,h⟩)
 | ret h=>exact .inr (.inr ⟨rfl,h⟩)
 | step h t=>exact .inl ⟨_,_,rfl,h,t⟩
theorem RoundsN.spec (h:RoundsN P m body id s e s'):TSpecN P m (.block id (.loop body)) s e s':=by
 obtain ⟨n,h⟩:=h
 refine loop_specN (α:=Nat × St) (fun x=>x.2) (fun x=>x.1) (fun x=>StepsN P m body id x.1 x.2 e s') (fun x hx=>?_) (n,s) h
 rcases hx.cases' with ⟨k,s1,hn,h1,h2⟩ | h | h
 ·exact .inl ⟨(k,s1),h2,by simp [hn],h1⟩
 ·exact .inr (.inl h)
 exact .inr (.inr h)
end
end Go.Proofs.YtkpeembfagcpcaaDoor.U
end
section
namespace Go.Proofs.YtkpeembfagcpcaaDoor.U
theorem tspec_dim {P:Program} {sc:Script} {sb:Blocks} {c:Code} {s s':St} {e:Ex} {obs:List Ob} (b:List Bool) (k:Nat)
 (h:(match ev P sc sb c s with
  | some (e1,s1,o1)=>some (e1,(⟨dim b s1.t,s1.m.take k⟩:St),o1,decide (k≤s1.m.length)&&decide (s.m.length≤k)&&(dim b s1.t).all (fun v=>v.there (s1.m.take k)))
  | none=>none)=some (e,s',obs,true)) (hh:Holds P obs) (hr:Flat s'.m):TSpec P c s e s':=by
 split at h
 ·rename_i e1 s1 o1 he
  simp only [Option.some.injEq,Prod.mk.injEq,Bool.and_eq_true] at h
  obtain ⟨rfl,rfl,rfl,⟨hk,hc⟩,ht⟩:=h
  exact TSpec.dim b k (tspec_of he hh) rfl hk hc ht hr
 cases h
theorem tspecN_ren {P:Program} {sc:Script} {sb:Blocks} {c:Code} {s s':St} {e:Ex} {obs:List Ob} (b:List Bool) (n:Nat) (keep:List Nat)
 (h:(match evo P sc sb n c 0 s with
  | some (e1,s1,o1)=>some (e1,(⟨dim b (s1.t.map (reS n keep)),s1.m.take n++keep.map (row? s1.m)⟩:St),o1,decide (n≤s1.m.length)&&keep.all (fun i=>decide (n≤i))&&decide keep.Nodup)
  | none=>none)=some (e,s',obs,true)) (hh:Holds P obs) (hr:Flat s'.m):TSpecN P n c s e s':=by
 split at h
 ·rename_i e1 s1 o1 he
  simp only [Option.some.injEq,Prod.mk.injEq,Bool.and_eq_true,decide_eq_true_eq] at h
  obtain ⟨rfl,rfl,rfl,⟨hk,hge⟩,hnd⟩:=h
  intro C w0 β a w hn hok
  refine wp_mono (tspecN_of he hh C w0 β a w hn hok) fun x a' w' hx=>?_
  obtain ⟨rfl,β',hok'⟩:=hx
  obtain ⟨β2,_,_,hok2⟩:=hok'.ren hn hk hge hnd hr
  refine ⟨rfl,β2,hok2.from b rfl (List.all_eq_true.2 fun v hv=>?_) hr⟩
  have hl:v.lv (s1.m.take n++keep.map (row? s1.m)):=by
   obtain ⟨i,hi⟩:=List.getElem?_of_mem hv
   rcases (less_get (less_dim b (s1.t.map (reS n keep)))).2 i v hi with rfl | h1
   ·intro id hid; cases hid
   exact hok2.ltt v (List.mem_of_getElem? h1)
  unfold V.there
  split
  ·rename_i id hid
   obtain ⟨r,hr'⟩:=hl id hid
   rw [hr']
   rfl
  rfl
 cases h
theorem flk {r:Row} {t:Rows} (h:r.cells.all V.isC=true) (ht:Flat t):Flat (some r::t):=⟨fun v hv=>List.all_eq_true.1 h v hv,ht⟩
theorem flap {a b:List V} (ha:a.all V.isC=true) (hb:b.all V.isC=true):(a++b).all V.isC=true:=by rw [List.all_append,ha,hb]; rfl
end Go.Proofs.YtkpeembfagcpcaaDoor.U
end
section
namespace Go.Proofs.YtkpeembfagcpcaaDoor.U
open Go.RowKit
structure Soft (m m':Rows):Prop where
 len:m'.length=m.length
 cells:∀ i,(row? m' i).map Row.cells=(row? m i).map Row.cells
 own:∀ i r,row? m' i=some r→r.own=true→row? m i=some r
 ro:RO m m'
theorem Soft.live {m m':Rows} (h:Soft m m') {i:Nat} (hl:live m i):live m' i:=by
 obtain ⟨r,hr⟩:=hl
 have:=h.cells i
 rw [hr] at this
 cases hx:row? m' i with
 | none=>rw [hx] at this; cases this
 | some r'=>exact ⟨r',hx⟩
theorem Soft.back {m m':Rows} (h:Soft m m') {i:Nat} {r':Row} (hr:row? m' i=some r'):∃ r,row? m i=some r∧r.cells=r'.cells:=by
 have:=h.cells i
 rw [hr] at this
 cases hx:row? m i with
 | none=>rw [hx] at this; cases this
 | some r=>rw [hx] at this; exact ⟨r,rfl,by simpa using this.symm⟩
theorem Ok.soft {C:Cx} {β:Env} {w0 w:World} {s:St} {a:Act} {m':Rows} (h:Ok C β w0 s a w) (hs:Soft s.m m'):Ok C β w0 ⟨s.t,m'⟩ a w:=by
 have hlv:∀ v:V,v.lv s.m→v.lv m':=fun v hv id hid=>hs.live (hv id hid)
 refine ⟨h.tmps,h.defers,⟨fun id r hr=>?_,fun i j ri rj hi hj ho hz hij=>?_,fun id r hr v hv=>?_⟩,fun id r hr ho=>h.dirty id r (hs.own id r hr ho) ho,h.frame,fun v hv=>hlv v (h.ltt v hv),⟨h.pin.1,?_,h.pin.2.2.trans hs.ro⟩,h.laid⟩
 ·obtain ⟨r0,h0,hc⟩:=hs.back hr
  have hb:=h.mem.blk id r0 h0
  refine ⟨hb.1,fun k v hk=>hb.2.1 k v (by rw [hc]; exact hk),fun ho=>?_⟩
  have e:=hs.own id r hr ho
  rw [h0] at e
  cases e
  exact hb.2.2 ho
 ·have e:=hs.own i ri hi ho
  obtain ⟨r0,h0,hc⟩:=hs.back hj
  refine h.mem.inj i j ri r0 e h0 ho ?_ hij
  rcases hz with hz | hz
  ·have e2:=hs.own j rj hj hz
   rw [h0] at e2
   cases e2
   exact .inl hz
  exact .inr (by rw [hc]; exact hz)
 ·obtain ⟨r0,h0,hc⟩:=hs.back hr
  have:=h.mem.lv id r0 h0 v (by rw [hc]; exact hv)
  exact ⟨hlv v this.1,this.2⟩
 have:=h.pin.2.1
 show C.n0≤m'.length
 rw [hs.len]
 exact this
theorem TSpecN.soft {P:Program} {n:Nat} {c:Code} {s:St} {e:Ex} {t:List V} {m m':Rows} (h:TSpecN P n c s e ⟨t,m⟩) (hs:Soft m m'):TSpecN P n c s e ⟨t,m'⟩:=fun C w0 β a w hn hok =>
 wp_mono (h C w0 β a w hn hok) fun _ _ _ hx=>let ⟨e,β',hk⟩:=hx; ⟨e,β',hk.soft hs⟩
theorem soft1 (l:List V):Soft [some ⟨true,l⟩] [some ⟨false,l⟩]:=by
 refine ⟨rfl,fun i=>?_,fun i r hr ho=>?_,fun i r hr ho=>?_⟩
 ·cases i<;>rfl
 ·cases i with
  | zero=>cases hr; cases ho
  | succ i=>cases hr
 cases i with
 | zero=>cases hr; cases ho
 | succ i=>cases hr
def u8c (n:Nat):V:=.c (.int .u8 (n:Int))
def byc (l:List Nat):List V:=l.map u8c
def bl (s:ByteArray):List Nat:=s.data.toList.map UInt8.toNat
section
variable {P:Program} {C:Cx} {β:Env} {s:St} {o:Oper} {w w0:World} {a:Act} {K:Act→World→Prop} {Q:Exit→Act→World→Prop}
theorem conv_ok {t u el:TypeId} {x:Operand} {str:ByteArray} (hop:o.op = .convert t u x) (hx:s.at x = .c (.string str)) (ht:P.underlying t=some .string) (hu:P.underlying u=some (.slice el)) (he:P.underlying el=some (.int .u8))
 (h:Ok C β w0 s a w) (hk:∀ β' a' w',Ok C β' w0 ⟨(s.put o.dst (.sd s.m.length str.size 1)).t,s.m++[some ⟨false,byc (bl str)⟩]⟩ a' w' → K a' w'):o.wp P a w K Q:=by
 have hev:a.eval x = .string str:=by have:=h.tmps.eval x (by rw [hx]; rfl); rwa [hx] at this
 unfold Oper.wp
 have hr : (execOp a.eval o).run P w = .ok (.value (.slice (some ⟨w.heap.size, 0, none⟩) str.size (grownCap w str.size 0 el)))
  (w.drew.alloc (.cells (bytesRow str (grownCap w str.size 0 el)) el ((bytesRow str (grownCap w str.size 0 el)).size,(bytesRow str (grownCap w str.size 0 el)).size+1))):=by
  simp only [execOp,hop,hev]
  have:=run_bytes_of_string w t u el str ht hu he
  simp [this]
 rw [hr]
 show K (a.put o.dst _) _
 generalize hcap:grownCap w str.size 0 el=cap
 have hbel:Below w.heap.size w (w.drew.alloc (.cells (bytesRow str cap) el ((bytesRow str cap).size,(bytesRow str cap).size+1))):=(Below.refl _ _).drew.alloc (Nat.le_refl _) _
 obtain ⟨β',hβ,hself⟩:∃ β':Env,(∀ i,i < s.m.length→β' i=β i)∧β' s.m.length=⟨w.heap.size,0,cap⟩ :=
  ⟨fun i=>if i=s.m.length then ⟨w.heap.size,0,cap⟩ else β i,fun i hi=>by simp only; rw [if_neg (Nat.ne_of_lt hi)],by simp⟩
 have hup:(V.sd s.m.length str.size 1).up β' = .slice (some ⟨w.heap.size,0,none⟩) str.size cap:=by simp [V.up,hself]
 rw [← hup]
 have lvc:∀ v:V,v∈byc (bl str) → ∀ m:Rows,v.lv m:=fun v hv m id hid=>by
  simp only [byc,List.mem_map] at hv
  obtain ⟨n,_,rfl⟩:=hv
  cases hid
 refine hk β' _ _ ⟨?_,(put_defers _).trans h.defers,?_,?_,?_,?_,⟨fun i hi=>(hβ i (Nat.lt_of_lt_of_le hi h.pin.2.1)).trans (h.pin.1 i hi),(by have:=h.pin.2.1; simp only [List.length_append,List.length_singleton]; omega),fun i r hi ho=>row_append_old (h.pin.2.2 i r hi ho)⟩,h.laid⟩
 ·exact (h.tmps.congr h.ltt hβ).put _ fun _=>rfl
 ·refine ⟨fun id r hr=>?_,fun i j ri rj hi hj ho hz hij=>?_,fun id r hr v hv=>?_⟩
  ·rcases row_append hr with hr | ⟨hid',hr2⟩
   ·rw [hβ id (row_lt hr)]
    exact ((h.mem.blk id r hr).keep hbel.size (hbel.block _ (h.mem.blk id r hr).1)).congr (fun v hv=>(h.mem.lv id r hr v hv).1) hβ
   subst hid'
   cases hr2
   rw [hself]
   refine ⟨by simp,fun k v hk=>?_,fun hh=>by cases hh⟩
   have hh:(w.drew.alloc (.cells (bytesRow str cap) el ((bytesRow str cap).size,(bytesRow str cap).size+1))).heap[w.heap.size]? = some (.cells (bytesRow str cap) el ((bytesRow str cap).size,(bytesRow str cap).size+1)):=Array.getElem?_push_size
   have h0:0+k=k:=Nat.zero_add k
   simp only [World.cell?,hh,Option.isSome_none,Bool.false_eq_true,if_false,h0]
   simp only [byc,bl,List.map_map,List.getElem?_map] at hk
   cases hg:str.data.toList[k]? with
   | none=>rw [hg] at hk; cases hk
   | some b =>
     rw [hg] at hk
     cases hk
     have hlt:k < str.data.size:=by
      have:=(List.getElem?_eq_some_iff.1 hg).1
      simpa using this
     rw [bytesRow_at str cap k hlt]
     have:str.data[k]=b:=by
      have:=(List.getElem?_eq_some_iff.1 hg).2
      simpa using this
     rw [this]
     rfl
  ·have blt:∀ i r,row? s.m i=some r→(β i).1 < w.heap.size:=fun i r hr=>(h.mem.blk i r hr).1
   rcases row_append hi with h1 | ⟨h1,h1'⟩
   ·rcases row_append hj with h2 | ⟨h2,_⟩
    ·rw [hβ i (row_lt h1),hβ j (row_lt h2)] at hij
     exact h.mem.inj i j ri rj h1 h2 ho hz hij
    rw [hβ i (row_lt h1),h2,hself] at hij
    dsimp only at hij
    have:=blt i ri h1
    omega
   cases h1'
   cases ho
  rcases row_append hr with hr | ⟨hid',hr2⟩
  ·exact ⟨lv_append (h.mem.lv id r hr v hv).1,(h.mem.lv id r hr v hv).2⟩
  cases hr2
  refine ⟨lvc v hv _,?_⟩
  simp only [byc,List.mem_map] at hv
  obtain ⟨n,_,rfl⟩:=hv
  rfl
 ·intro id r hr ho
  rcases row_append hr with h1 | ⟨_,h2⟩
  ·rw [hβ id (row_lt h1)]
   exact h.dirty id r h1 ho
  cases h2
  cases ho
 ·exact h.frame.trans (Fr.of_below (D:=fun _=>False) hbel) (fun _ _ h=>h.elim)
 intro u hu
 rcases put_mem hu with hu | rfl
 ·exact lv_append (h.ltt u hu)
 intro id hid
 cases hid
 exact ⟨_,row_append_new⟩
theorem seq_then {sc:Script} {rid:Nat} {ops:Array Oper} {rest:List Nat}:∀ (l:List Oper) (i:Nat) (β:Env) (s s':St) (obs:List Ob) (a:Act) (w:World),(∀ j o,l[j]? = some o→ops[i+j]? = some o) →
 seqOps P sc rid ops l i s=some (s',obs)→Holds P obs→Ok C β w0 s a w→(∀ β' a' w',Ok C β' w0 s' a' w' → wpOps P ops Q rest a' w')→wpOps P ops Q (List.range' i l.length++rest) a w
 | [],i,β,s,s',obs,a,w,_,h,_,hok,hk=>by
   simp only [seqOps,Option.some.injEq,Prod.mk.injEq] at h
   obtain ⟨rfl,rfl⟩:=h
   exact hk β a w hok
 | o::r,i,β,s,s',obs,a,w,hl,h,hh,hok,hk=>by
   have hio:ops[i]? = some o:=hl 0 o rfl
   have hl':∀ j o',r[j]? = some o' → ops[i+1+j]? = some o':=fun j o' hj=>by
    have:=hl (j+1) o' (by simpa using hj)
    rwa [show i+(j+1)=i+1+j by omega] at this
   simp only [List.length_cons,List.range'_succ,List.cons_append,wpOps,hio]
   simp only [seqOps] at h
   split at h
   ·rename_i hw
    rw [want_sound hok hw]
    split at h
    ·rename_i e o1 he
     split at h
     ·rename_i s1 o2 hr
      simp only [Option.some.injEq,Prod.mk.injEq] at h
      obtain ⟨rfl,rfl⟩:=h
      obtain ⟨h1,h2⟩:=holds_append hh
      exact .inl (step_ok hok he h1 fun β' a' w' hok'=>seq_then r (i+1) β' _ _ _ a' w' hl' hr h2 hok' hk)
     cases h
    cases h
   ·rename_i hw
    rw [want_sound hok hw]
    simp only [Bool.false_eq_true,if_false]
    refine seq_then r (i+1) β _ _ _ _ w hl' h hh ?_ hk
    refine ⟨hok.tmps.put (v:=.c undef) _ fun _=>rfl,(put_defers _).trans hok.defers,?_,?_,hok.frame,?_,(by rw [put_m]; exact hok.pin),hok.laid⟩
    ·rw [put_m]; exact hok.mem
    ·rw [put_m]; exact hok.dirty
    rw [put_m]
    intro u hu
    rcases put_mem hu with hu | rfl
    ·exact hok.ltt u hu
    exact lv_c _ _
   cases h
theorem region_bytes {sc:Script} {rid n:Nat} {ops:Array Oper} {s1 s':St} {o1 o2:List Ob} {t u el:TypeId} {x:Operand} {str:ByteArray} (hn:ops[n]? = some o) (hop:o.op = .convert t u x) (hg:o.guard=none)
 (h1:seqOps P sc rid ops (ops.toList.take n) 0 s=some (s1,o1)) (hx:s1.at x = .c (.string str)) (ht:P.underlying t=some .string) (hu:P.underlying u=some (.slice el)) (he:P.underlying el=some (.int .u8))
 (h2:seqOps P sc rid ops (ops.toList.drop (n+1)) (n+1) ⟨(s1.put o.dst (.sd s1.m.length str.size 1)).t,s1.m++[some ⟨false,byc (bl str)⟩]⟩=some (s',o2)) (ho1:Holds P o1) (ho2:Holds P o2) :
 TSpec P (.region rid ops false) s .normal s':=by
 intro C w0 β a w hok
 have hlt:n < ops.size:=(Array.getElem?_eq_some_iff.1 hn).1
 have e:List.range ops.size=List.range' 0 (ops.toList.take n).length++n::(List.range' (n+1) (ops.toList.drop (n+1)).length++[]):=by
  obtain ⟨k,hk⟩:∃ k,ops.size=n+(k+1):=⟨ops.size - (n+1),by omega⟩
  have l1:(ops.toList.take n).length=n:=by rw [List.length_take,Array.length_toList]; omega
  have l2:(ops.toList.drop (n+1)).length=k:=by rw [List.length_drop,Array.length_toList]; omega
  have h:=List.range'_append (s:=0) (m:=n) (n:=k+1) (step:=1)
  rw [List.range_eq_range',List.append_nil,l1,l2,hk,← h,List.range'_succ]
  simp
 refine wp_region ?_
 rw [e]
 refine seq_then _ 0 β s s1 o1 a w (fun j o hj=>?_) h1 ho1 hok fun β1 a1 w1 hok1=>?_
 ·rw [List.getElem?_take] at hj
  split at hj
  ·simpa using hj
  cases hj
 simp only [wpOps,hn]
 have hw:want? ops s1 o=some true:=by unfold want?; rw [hg]
 rw [want_sound hok1 hw]
 refine .inl (conv_ok hop hx ht hu he hok1 fun β2 a2 w2 hok2=>?_)
 refine seq_then _ (n+1) β2 _ s' o2 a2 w2 (fun j o hj=>?_) h2 ho2 hok2 fun β3 a3 w3 hok3=>⟨rfl,β3,hok3⟩
 rw [List.getElem?_drop] at hj
 simpa using hj
end
def getR (id:Nat):Code→Option (Array Oper)
 | .region i ops _=>if i=id then some ops else none
 | .block _ c=>getR id c
 | .loop c=>getR id c
 | .seq a b=>match getR id a with
   | some c=>some c
   | none=>getR id b
 | .cond _ a b=>match getR id a with
   | some c=>some c
   | none=>getR id b
 | _=>none
def regOf (fn:Func) (id:Nat):Array Oper:=match fn.body.bind (getR id) with
 | some o=>o
 | none=>#[]
def opOf (fn:Func) (id i:Nat):Oper:=match (regOf fn id)[i]? with
 | some o=>o
 | none=>⟨none,.move (.tmp 0),0, "",#[],none⟩
end Go.Proofs.YtkpeembfagcpcaaDoor.U
end
