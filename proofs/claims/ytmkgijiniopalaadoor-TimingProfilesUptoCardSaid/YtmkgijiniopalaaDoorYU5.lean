import Derived.Test.YtmkgijiniopalaaDoorYU4
namespace Go.Proofs.YtmkgijiniopalaaDoor.U
set_option linter.unusedVariables false
theorem tspec_dim {P:Program} {sc:Script} {sb:Blocks} {c:Code} {s s':St} {e:Ex} {obs:List Ob} (b:List Bool) (k:Nat)
 (h:(match ev P sc sb c s with
  | some (e1,s1,o1)=>some (e1,(⟨dim b s1.t,s1.m.take k⟩:St),o1,decide (k≤s1.m.length)&&decide (s.m.length≤k)&&(dim b s1.t).all (fun v=>v.there (s1.m.take k)))
  | none=>none)=some (e,s',obs,true)) (hh:Holds P obs) (hr:Flat s'.m):TSpec P c s e s':=by
 split at h
 ·rename_i e1 s1 o1 he
  simp only [Option.some.injEq,Prod.mk.injEq,Bool.and_eq_true] at h
  obtain ⟨rfl,rfl,rfl,⟨hk,hc⟩,ht⟩:=h
  exact TSpec.dim b k (tspec_of he hh) rfl hk hc ht hr
 cases h
theorem tspecN_ren {P:Program} {sc:Script} {sb:Blocks} {c:Code} {s s':St} {e:Ex} {obs:List Ob} (b:List Bool) (n:Nat) (keep:List Nat)
 (h:(match evo P sc sb n c 0 s with
  | some (e1,s1,o1)=>some (e1,(⟨dim b (s1.t.map (reS n keep)),s1.m.take n++keep.map (row? s1.m)⟩:St),o1,decide (n≤s1.m.length)&&keep.all (fun i=>decide (n≤i))&&decide keep.Nodup)
  | none=>none)=some (e,s',obs,true)) (hh:Holds P obs) (hr:Flat s'.m):TSpecN P n c s e s':=by
 split at h
 ·rename_i e1 s1 o1 he
  simp only [Option.some.injEq,Prod.mk.injEq,Bool.and_eq_true,decide_eq_true_eq] at h
  obtain ⟨rfl,rfl,rfl,⟨hk,hge⟩,hnd⟩:=h
  intro C w0 β a w hn hok
  refine wp_mono (tspecN_of he hh C w0 β a w hn hok) fun x a' w' hx=>?_
  obtain ⟨rfl,β',hok'⟩:=hx
  obtain ⟨β2,_,_,hok2⟩:=hok'.ren hn hk hge hnd hr
  refine ⟨rfl,β2,hok2.from b rfl (List.all_eq_true.2 fun v hv=>?_) hr⟩
  have hl:v.lv (s1.m.take n++keep.map (row? s1.m)):=by
   obtain ⟨i,hi⟩:=List.getElem?_of_mem hv
   rcases (less_get (less_dim b (s1.t.map (reS n keep)))).2 i v hi with rfl | h1
   ·intro id hid; cases hid
   exact hok2.ltt v (List.mem_of_getElem? h1)
  unfold V.there
  split
  ·rename_i id hid
   obtain ⟨r,hr'⟩:=hl id hid
   rw [hr']
   rfl
  rfl
 cases h
abbrev nv (l:List (List Value)):List V:=l.flatten.map V.c
theorem flk {r:Row} {t:Rows} (h:r.cells.all V.isC=true) (ht:Flat t):Flat (some r::t):=⟨fun v hv=>noid_of (List.all_eq_true.1 h v hv),ht⟩
theorem flf {r:Row} {t:Rows} (h:r.cells.all V.fre=true) (ht:Flat t):Flat (some r::t):=⟨fun v hv=>noid_fre (List.all_eq_true.1 h v hv),ht⟩
theorem flap {a b:List V} (ha:a.all V.isC=true) (hb:b.all V.isC=true):(a++b).all V.isC=true:=by rw [List.all_append,ha,hb]; rfl
end Go.Proofs.YtmkgijiniopalaaDoor.U
