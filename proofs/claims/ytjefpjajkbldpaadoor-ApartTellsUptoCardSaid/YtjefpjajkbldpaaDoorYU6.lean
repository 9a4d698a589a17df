import Derived.Test.YtjefpjajkbldpaaDoorYU3
import Derived.Laws.IdiomStrings
set_option linter.unusedVariables false
section
namespace Go.Proofs.YtjefpjajkbldpaaDoor.U
set_option linter.unusedSimpArgs false
inductive Steps (P:Program) (body:Code) (id:Nat):Nat→St→Ex→St→Prop where
 | stop {s s':St} (h:TSpec P body s (.exit id) s'):Steps P body id 0 s .normal s'
 | ret {s s':St} (h:TSpec P body s .ret s'):Steps P body id 0 s .ret s'
 | step {n:Nat} {s s1 s':St} {e:Ex} (h:TSpec P body s .normal s1) (t:Steps P body id n s1 e s'):Steps P body id (n+1) s e s'
def Rounds (P:Program) (body:Code) (id:Nat) (s:St) (e:Ex) (s':St):Prop:=∃ n,Steps P body id n s e s'
section
variable {P:Program} {body:Code} {id:Nat} {s s1 s':St} {e:Ex}
theorem Rounds.stop (h:TSpec P body s (.exit id) s'):Rounds P body id s .normal s':=⟨0,.stop h⟩
theorem Rounds.ret (h:TSpec P body s .ret s'):Rounds P body id s .ret s':=⟨0,.ret h⟩
theorem Rounds.step (h:TSpec P body s .normal s1) (t:Rounds P body id s1 e s'):Rounds P body id s e s':=let ⟨n,t⟩:=t; ⟨n+1,.step h t⟩
theorem Steps.cases' {n:Nat} (h:Steps P body id n s e s'):(∃ k s1,n=k+1∧TSpec P body s .normal s1∧Steps P body id k s1 e s')∨(e = .normal∧TSpec P body s (.exit id) s')∨(e = .ret∧TSpec P body s .ret s'):=by
 cases h with
 | stop h=>exact .inr (.inl ⟨rfl,h⟩)
 | ret h=>exact .inr (.inr ⟨rfl,h⟩)
 | step h t=>exact .inl ⟨_,_,rfl,h,t⟩
theorem Rounds.spec (h:Rounds P body id s e s'):TSpec P (.block id (.loop body)) s e s':=by
 obtain ⟨n,h⟩:=h
 refine loop_spec (α:=Nat × St) (fun x=>x.2) (fun x=>x.1) (fun x=>Steps P body id x.1 x.2 e s') (fun x hx=>?_) (n,s) h
 rcases hx.cases' with ⟨k,s1,hn,h1,h2⟩ | h | h
 ·exact .inl ⟨(k,s1),h2,by simp [hn],h1⟩
 ·exact .inr (.inl h)
 exact .inr (.inr h)
inductive StepsN (P:Program) (m:Nat) (body:Code) (id:Nat):Nat→St→Ex→St→Prop where
 | stop {s s':St} (h:TSpecN P m body s (.exit id) s'):StepsN P m body id 0 s .normal s'
 | ret {s s':St} (h:TSpecN P m body s .ret s'):StepsN P m body id 0 s .ret s'
 | step {n:Nat} {s s1 s':St} {e:Ex} (h:TSpecN P m body s .normal s1) (t:StepsN P m body id n s1 e s'):StepsN P m body id (n+1) s e s'
def RoundsN (P:Program) (m:Nat) (body:Code) (id:Nat) (s:St) (e:Ex) (s':St):Prop:=∃ n,StepsN P m body id n s e s'
variable {m:Nat}
theorem RoundsN.stop (h:TSpecN P m body s (.exit id) s'):RoundsN P m body id s .normal s':=⟨0,.stop h⟩
theorem RoundsN.ret (h:TSpecN P m body s .ret s'):RoundsN P m body id s .ret s':=⟨0,.ret h⟩
theorem RoundsN.step (h:TSpecN P m body s .normal s1) (t:RoundsN P m body id s1 e s'):RoundsN P m body id s e s':=let ⟨n,t⟩:=t; ⟨n+1,.step h t⟩
theorem StepsN.cases' {n:Nat} (h:StepsN P m body id n s e s'):(∃ k s1,n=k+1∧TSpecN P m body s .normal s1∧StepsN P m body id k s1 e s')∨(e = .normal∧TSpecN P m body s (.exit id) s')∨(e = .ret∧TSpecN P m body s .ret s'):=by
 cases h with
 | stop h=>exact .inr (.inl ⟨rfl,h⟩)
 | ret h=>exact .inr (.inr ⟨rfl,h⟩)
 | step h t=>exact .inl ⟨_,_,rfl,h,t⟩
theorem RoundsN.spec (h:RoundsN P m body id s e s'):TSpecN P m (.block id (.loop body)) s e s':=by
 obtain ⟨n,h⟩:=h
 refine loop_specN (α:=Nat × St) (fun x=>x.2) (fun x=>x.1) (fun x=>StepsN P m body id x.1 x.2 e s') (fun x hx=>?_) (n,s) h
 rcases hx.cases' with ⟨k,s1,hn,h1,h2⟩ | h | h
 ·exact .inl ⟨(k,s1),h2,by simp [hn],h1⟩
 ·exact .inr (.inl h)
 exact .inr (.inr h)
end
end Go.Proofs.YtjefpjajkbldpaaDoor.U
end
section
namespace Go.Proofs.YtjefpjajkbldpaaDoor.U
theorem tspec_dim {P:Program} {sc:Script} {sb:Blocks} {c:Code} {s s':St} {e:Ex} {obs:List Ob} (b:List Bool) (k:Nat)
 (h:(match ev P sc sb c s with
  | some (e1,s1,o1)=>some (e1,(⟨dim b s1.t,s1.m.take k⟩:St),o1,decide (k≤s1.m.length)&&decide (s.m.length≤k)&&(dim b s1.t).all (fun v=>v.there (s1.m.take k)))
  | none=>none)=some (e,s',obs,true)) (hh:Holds P obs) (hr:Flat s'.m):TSpec P c s e s':=by
 split at h
 ·rename_i e1 s1 o1 he
  simp only [Option.some.injEq,Prod.mk.injEq,Bool.and_eq_true] at h
  obtain ⟨rfl,rfl,rfl,⟨hk,hc⟩,ht⟩:=h
  exact TSpec.dim b k (tspec_of he hh) rfl hk hc ht hr
 cases h
theorem tspecN_ren {P:Program} {sc:Script} {sb:Blocks} {c:Code} {s s':St} {e:Ex} {obs:List Ob} (b:List Bool) (n:Nat) (keep:List Nat)
 (h:(match evo P sc sb n c 0 s with
  | some (e1,s1,o1)=>some (e1,(⟨dim b (s1.t.map (reS n keep)),s1.m.take n++keep.map (row? s1.m)⟩:St),o1,decide (n≤s1.m.length)&&keep.all (fun i=>decide (n≤i))&&decide keep.Nodup)
  | none=>none)=some (e,s',obs,true)) (hh:Holds P obs) (hr:Flat s'.m):TSpecN P n c s e s':=by
 split at h
 ·rename_i e1 s1 o1 he
  simp only [Option.some.injEq,Prod.mk.injEq,Bool.and_eq_true,decide_eq_true_eq] at h
  obtain ⟨rfl,rfl,rfl,⟨hk,hge⟩,hnd⟩:=h
  intro C w0 β a w hn hok
  refine wp_mono (tspecN_of he hh C w0 β a w hn hok) fun x a' w' hx=>?_
  obtain ⟨rfl,β',hok'⟩:=hx
  obtain ⟨β2,_,_,hok2⟩:=hok'.ren hn hk hge hnd hr
  refine ⟨rfl,β2,hok2.from b rfl (List.all_eq_true.2 fun v hv=>?_) hr⟩
  have hl:v.lv (s1.m.take n++keep.map (row? s1.m)):=by
   obtain ⟨i,hi⟩:=List.getElem?_of_mem hv
   rcases (less_get (less_dim b (s1.t.map (reS n keep)))).2 i v hi with rfl | h1
   ·intro id hid; cases hid
   exact hok2.ltt v (List.mem_of_getElem? h1)
  unfold V.there
  split
  ·rename_i id hid
   obtain ⟨r,hr'⟩:=hl id hid
   rw [hr']
   rfl
  rfl
 cases h
abbrev nv (l:List (List Value)):List V:=l.flatten.map V.c
theorem flk {r:Row} {t:Rows} (h:r.cells.all V.isC=true) (ht:Flat t):Flat (some r::t):=⟨fun v hv=>List.all_eq_true.1 h v hv,ht⟩
theorem flnv {l:List (List Value)}:(nv l).all V.isC=true:=by simp [V.isC]
theorem flap {a b:List V} (ha:a.all V.isC=true) (hb:b.all V.isC=true):(a++b).all V.isC=true:=by rw [List.all_append,ha,hb]; rfl
end Go.Proofs.YtjefpjajkbldpaaDoor.U
end
section
namespace Go.Proofs.YtjefpjajkbldpaaDoor.U
open Go.RowKit
structure Soft (m m':Rows):Prop where
 len:m'.length=m.length
 cells:∀ i,(row? m' i).map Row.cells=(row? m i).map Row.cells
 own:∀ i r,row? m' i=some r→r.own=true→row? m i=some r
 ro:RO m m'
theorem Soft.live {m m':Rows} (h:Soft m m') {i:Nat} (hl:live m i):live m' i:=by
 obtain ⟨r,hr⟩:=hl
 have:=h.cells i
 rw [hr] at this
 cases hx:row? m' i with
 | none=>rw [hx] at this; cases this
 | some r'=>exact ⟨r',hx⟩
theorem Soft.back {m m':Rows} (h:Soft m m') {i:Nat} {r':Row} (hr:row? m' i=some r'):∃ r,row? m i=some r∧r.cells=r'.cells:=by
 have:=h.cells i
 rw [hr] at this
 cases hx:row? m i with
 | none=>rw [hx] at this; cases this
 | some r=>rw [hx] at this; exact ⟨r,rfl,by simpa using this.symm⟩
end Go.Proofs.YtjefpjajkbldpaaDoor.U
end
