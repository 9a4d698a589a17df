import Derived.Test.YtmkgijiniopalaaDoorYU2
import Derived.Deep.LoopGhost
import Derived.LoopN
namespace Go.Proofs.YtmkgijiniopalaaDoor.U
open Go.RowKit
set_option linter.unusedSimpArgs false
set_option linter.unusedVariables false
def D.Le:D→D→Prop
 | .v x,.v y=>x=y
 | .v x,.sl n _ _=>x = .slice none 0 0∧n=0
 | .sl n sz f,.sl n' sz' g=>n=n' ∧ sz=sz' ∧ ∀ i,i < n → ∀ k,k < sz→(f i k).Le (g i k)
 | .sl ..,.v _=>False
def LeL:List D→List D→Prop
 | [],[]=>True
 | d::l,e::r=>d.Le e∧LeL l r
 | _,_=>False
theorem D.Le.refl:∀ d:D,d.Le d
 | .v _=>rfl
 | .sl _ _ f=>⟨rfl,rfl,fun i _ k _=>D.Le.refl (f i k)⟩
theorem LeL.refl:∀ l:List D,LeL l l
 | []=>trivial
 | d::l=>⟨D.Le.refl d,LeL.refl l⟩
theorem D.Rep.le {A:Nat→Prop} {w:World}:∀ {d e:D} {u:Value},d.Rep A w u→d.Le e→e.Rep A w u
 | .v x,.v y,u,h,k=>by rw [show u=x from h,show x=y from k]; rfl
 | .v x,.sl n sz f,u,h,k=>by
   obtain ⟨k1,k2⟩:=k
   subst k2
   rw [show u=x from h,k1]
   exact ⟨none,0,rfl,Nat.le_refl _,fun ad h=>(by cases h),fun i hi=>(by omega)⟩
 | .sl n sz f,.sl n' sz' g,u,h,k=>by
   obtain ⟨rfl,rfl,k3⟩:=k
   obtain ⟨a,cap,hu,hc,hs,hr⟩:=h
   refine ⟨a,cap,hu,hc,hs,fun i hi k hk=>?_⟩
   obtain ⟨b,o,c,h1,h2,h3,h4,h5⟩:=hr i hi k hk
   exact ⟨b,o,c,h1,h2,h3,h4,D.Rep.le h5 (k3 i hi k hk)⟩
 | .sl ..,.v _,_,_,k=>k.elim
theorem RepL.le {A:Nat→Prop} {w:World}:∀ {l m:List D} {us:List Value},RepL A w l us→LeL l m→RepL A w m us
 | [],[],_,h,_=>h
 | d::l,e::m,u::us,h,k=>⟨h.1.le k.1,RepL.le h.2 k.2⟩
 | _::_,_::_,[],h,_=>h.elim
 | [],_::_,_,_,k=>k.elim
 | _::_,[],_,_,k=>k.elim
theorem RepV.le {A:Nat→Prop} {w:World} {b:Bool} {l m:List D} {u:Value} (h:RepV A w b l u) (k:LeL l m):RepV A w b m u:=by
 cases b with
 | true=>exact ⟨h.choose,h.choose_spec.1,h.choose_spec.2.le k⟩
 | false=>exact RepL.le h k
def LeT:List (Bool × List D)→List (Bool × List D)→Prop
 | [],[]=>True
 | (b,l)::r,(c,m)::q=>b=c∧LeL l m∧LeT r q
 | _,_=>False
theorem RepT.le {A:Nat→Prop} {w:World}:∀ {l m:List (Bool × List D)} {us:List Value},RepT A w l us→LeT l m→RepT A w m us
 | [],[],_,h,_=>h
 | (b,l)::r,(c,m)::q,u::us,h,k=>by
   obtain ⟨rfl,k1,k2⟩:=k
   exact ⟨RepV.le h.1 k1,RepT.le h.2 k2⟩
 | (_,_)::_,(_,_)::_,[],h,_=>h.elim
 | [],_::_,_,_,k=>k.elim
 | (_,_)::_,[],_,_,k=>k.elim
def datOf:V→Option (Bool × List D)
 | .c (.tuple _)=>none
 | .c (.agg cs)=>some (true,cs.toList.map .v)
 | .c x=>some (false,[.v x])
 | .dv b l=>some (b,l)
 | _=>none
theorem repL_v {A:Nat→Prop} {w:World}:∀ us:List Value,RepL A w (us.map .v) us
 | []=>trivial
 | _::r=>⟨rfl,repL_v r⟩
theorem datOf_is {β:Env} {A:Nat→Prop} {w:World} {v:V} {u:Value} {p:Bool × List D} (h:datOf v=some p) (hi:v.is β A w u):RepV A w p.1 p.2 u:=by
 unfold datOf at h
 split at h
 ·cases h
 ·cases h; exact ⟨_,hi.1 rfl,repL_v _⟩
 ·cases h; exact ⟨hi.1 rfl,trivial⟩
 ·cases h; exact hi.2
 cases h
def frz (cells:List V) (off n sz:Nat) (f:Nat→Nat→D):Prop:=∀ i,i < n → ∀ k,k < sz → ∃ v,cells[off+(i*sz+k)]? = some v ∧ ∃ d,datOf v=some (false,[d])∧d.Le (f i k)
def conv1 (s:St) (t:Tmp) (v:V):Option (St × List Ob):=match s.t[t]?,v with
 | some _,.any=>some (⟨s.t.set t .any,s.m⟩,[])
 | some (.c (.slice none 0 0)),.gr id 0 sz=>if id=s.m.length then some (⟨s.t.set t (.gr id 0 sz),s.m++[some ⟨false,[]⟩]⟩,[]) else none
 | some (.sl id off len cap),.dv false [.sl n sz f]=>match row? s.m id with
   | some r=>if r.own=true then some (⟨s.t.set t (.dv false [.sl n sz f]),unrow s.m (some id)⟩,[.prop (n=len∧len≤cap∧frz r.cells off len sz f)]) else none
   | none=>none
 | some (.gr id len sz'),.dv false [.sl n sz f]=>match row? s.m id with
   | some r=>some (⟨s.t.set t (.dv false [.sl n sz f]),unrow s.m (some id)⟩,[.prop (n=len∧(r.own=true∨(len=0∧r.cells=[]))∧frz r.cells 0 len sz f)])
   | none=>none
 | some w,.dv b l=>match datOf w with
   | some (b',l')=>if b=b' then some (⟨s.t.set t (.dv b l),s.m⟩,[.prop (LeL l' l)]) else none
   | none=>none
 | some (.tu l'),.tu l=>some (⟨s.t.set t (.tu l),s.m⟩,[.prop (LeT l' l)])
 | _,_=>none
def convS (s:St):List (Tmp × V)→Option (St × List Ob)
 | []=>some (s,[])
 | (t,v)::r=>match conv1 s t v with
   | some (s1,o1)=>match convS s1 r with
     | some (s2,o2)=>some (s2,o1++o2)
     | none=>none
   | none=>none
section
variable {P:Program} {C:Cx} {β:Env} {s:St} {w w0:World} {a:Act}
theorem Ok.tell {kill:Option Nat} {t:Tmp} {n:V} {u:Value} (h:Ok C β w0 s a w) (hk:∀ k,kill=some k → ∃ r,row? s.m k=some r∧(r.own=true∨r.cells=[])) (hu:a.tmps[t]? = some u) (hn:n.is β (alw (C.B w0) β (unrow s.m kill)) w u) (hlv:n.lv s.m) :
 Ok C β w0 ⟨s.t.set t n,unrow s.m kill⟩ a w:=by
 have hrow:∀ i r,row? (unrow s.m kill) i=some r→(kill=some i∧r=⟨false,[]⟩)∨(kill≠some i∧row? s.m i=some r):=fun i r hi=>row_unrow hi
 have hkp:Keep (alw (C.B w0) β s.m) (alw (C.B w0) β (unrow s.m kill)) w w:=⟨Nat.le_refl _,fun b _ hb=>⟨⟨hb.1,fun i r hi ho=>by
  rcases hrow i r hi with ⟨_,rfl⟩ | ⟨_,hi⟩
  ·cases ho
  exact hb.2 i r hi ho⟩,rfl⟩⟩
 have lvn:∀ v:V,v.lv s.m→v.lv (unrow s.m kill):=fun v hv id hid=>by
  obtain ⟨r,hr⟩:=hv id hid
  by_cases hki:kill=some id
  ·subst hki; exact ⟨_,unrow_dead hr⟩
  exact ⟨r,unrow_old hr hki⟩
 have get:∀ i v,(s.t.set t n)[i]? = some v→(i=t∧v=n)∨s.t[i]? = some v:=fun i v hi=>by
  by_cases hit:i=t
  ·subst hit
   by_cases hl:i < s.t.length
   ·rw [List.getElem?_set_self hl] at hi
    cases hi
    exact .inl ⟨rfl,rfl⟩
   rw [List.getElem?_eq_none (by simpa using hl)] at hi
   cases hi
  rw [List.getElem?_set_ne (Ne.symm hit)] at hi
  exact .inr hi
 refine ⟨⟨by rw [h.tmps.size,List.length_set],fun i v hi hk=>?_⟩,h.defers,⟨fun i r hi=>?_,fun i j ri rj hi hj ho hz hij=>?_,fun i r hi v hv=>?_⟩,fun i r hi ho=>?_,h.frame,fun v hv=>?_,⟨h.pin.1,by rw [unrow_len]; exact h.pin.2.1,fun i r hi ho=>?_⟩,h.laid,fun i v hi=>?_⟩
 ·rcases get i v hi with ⟨rfl,rfl⟩ | hi
  ·rw [hu,hn.1 hk]
  exact h.tmps.get i v hi hk
 ·rcases hrow i r hi with ⟨hki,rfl⟩ | ⟨_,hi⟩
  ·obtain ⟨rk,hrk,_⟩:=hk i hki
   exact ⟨(h.mem.blk i rk hrk).1,fun k v hk=>(by simp at hk),fun ho=>(by cases ho)⟩
  exact (h.mem.blk i r hi).keep (Nat.le_refl _) (fun _=>rfl) hkp fun _ _ _ _=>rfl
 ·rcases hrow i ri hi with ⟨_,rfl⟩ | ⟨_,hi⟩
  ·cases ho
  rcases hrow j rj hj with ⟨_,rfl⟩ | ⟨_,hj⟩
  ·rcases hz with hz | hz
   ·cases hz
   exact absurd rfl hz
  exact h.mem.inj i j ri rj hi hj ho hz hij
 ·rcases hrow i r hi with ⟨_,rfl⟩ | ⟨_,hi⟩
  ·cases hv
  exact lvn v (h.mem.lv i r hi v hv)
 ·rcases hrow i r hi with ⟨_,rfl⟩ | ⟨_,hi⟩
  ·cases ho
  exact h.dirty i r hi ho
 ·rcases List.mem_or_eq_of_mem_set hv with hv | rfl
  ·exact lvn v (h.ltt v hv)
  exact lvn _ hlv
 ·have h1:=h.pin.2.2 i r hi ho
  by_cases hki:kill=some i
  ·obtain ⟨rk,hrk,hok⟩:=hk i hki
   rw [h1] at hrk
   cases hrk
   have hc:r.cells=[]:=hok.resolve_left (by rw [ho]; exact Bool.false_ne_true)
   subst hki
   rw [unrow_dead h1]
   obtain ⟨ro,rc⟩:=r
   cases ho
   cases hc
   rfl
  exact unrow_old h1 hki
 rcases get i v hi with ⟨rfl,rfl⟩ | hi
 ·exact ⟨u,hu,hn.2⟩
 obtain ⟨y,hy,hd⟩:=h.dat i v hi
 exact ⟨y,hy,hd.keep hkp fun _ _=>rfl⟩
theorem Ok.dead (h:Ok C β w0 s a w):∃ β':Env,Ok C β' w0 ⟨s.t,s.m++[some ⟨false,[]⟩]⟩ a w:=by
 obtain ⟨β',hβ,hself⟩:∃ β':Env,(∀ i,i < s.m.length→β' i=β i)∧β' s.m.length=⟨tabG,0,0⟩ :=
  ⟨fun i=>if i=s.m.length then ⟨tabG,0,0⟩ else β i,fun i hi=>if_neg (Nat.ne_of_lt hi),by simp⟩
 refine ⟨β',?_⟩
 have hrow:∀ i r,row? (s.m++[some ⟨false,[]⟩]) i=some r→row? s.m i=some r∨(i=s.m.length∧r=⟨false,[]⟩):=fun i r hi=>by
  rcases row_append hi with hi | ⟨h1,h2⟩
  ·exact .inl hi
  cases h2; exact .inr ⟨h1,rfl⟩
 have same:∀ v:V,v.lv s.m → ∀ id,v.id? = some id→β' id=β id:=fun v hv id hid=>by
  obtain ⟨r,hr⟩:=hv id hid
  exact hβ id (row_lt hr)
 have hkp:Keep (alw (C.B w0) β s.m) (alw (C.B w0) β' (s.m++[some ⟨false,[]⟩])) w w:=⟨Nat.le_refl _,fun b _ hb=>⟨⟨hb.1,fun i r hi ho=>by
  rcases hrow i r hi with hi | ⟨_,rfl⟩
  ·rw [hβ i (row_lt hi)]; exact hb.2 i r hi ho
  cases ho⟩,rfl⟩⟩
 refine ⟨h.tmps.congr h.ltt hβ,h.defers,⟨fun i r hi=>?_,fun i j ri rj hi hj ho hz hij=>?_,fun i r hi v hv=>?_⟩,fun i r hi ho=>?_,h.frame,fun v hv=>lv_append (h.ltt v hv),⟨fun i hi=>(hβ i (Nat.lt_of_lt_of_le hi h.pin.2.1)).trans (h.pin.1 i hi),(by have:=h.pin.2.1; simp only [List.length_append,List.length_singleton]; omega),fun i r hi ho=>row_append_old (h.pin.2.2 i r hi ho)⟩,h.laid,fun i v hi=>?_⟩
 ·rcases hrow i r hi with hi | ⟨rfl,rfl⟩
  ·rw [hβ i (row_lt hi)]
   exact (h.mem.blk i r hi).keep (Nat.le_refl _) (fun _=>rfl) hkp fun v hv=>same v (h.mem.lv i r hi v hv)
  refine ⟨?_,fun k v hk=>(by simp at hk),fun ho=>(by cases ho)⟩
  rw [hself]
  exact h.here.lt
 ·rcases hrow i ri hi with hi | ⟨_,rfl⟩
  ·rcases hrow j rj hj with hj | ⟨_,rfl⟩
   ·rw [hβ i (row_lt hi),hβ j (row_lt hj)] at hij
    exact h.mem.inj i j ri rj hi hj ho hz hij
   rcases hz with hz | hz
   ·cases hz
   exact absurd rfl hz
  cases ho
 ·rcases hrow i r hi with hi | ⟨_,rfl⟩
  ·exact lv_append (h.mem.lv i r hi v hv)
  cases hv
 ·rcases hrow i r hi with hi | ⟨_,rfl⟩
  ·rw [hβ i (row_lt hi)]
   exact h.dirty i r hi ho
  cases ho
 obtain ⟨y,hy,hd⟩:=h.dat i v hi
 exact ⟨y,hy,hd.keep hkp (same v (h.ltt v (List.mem_of_getElem? hi)))⟩
theorem frz_rep {A A':Nat→Prop} {x:Loc} {r:Row} {off n sz cap:Nat} {f:Nat→Nat→D} (hb:Blk β A w x r) (hA:A' x.1) (hk:Keep A A' w w) (hf:frz r.cells off n sz f) (hc:n≤cap):(D.sl n sz f).Rep A' w (.slice (some ⟨x.1,x.2+off,none⟩) n cap):=by
 refine ⟨_,cap,rfl,hc,fun ad h=>(by cases h; rfl),fun i hi k hk'=>?_⟩
 obtain ⟨v,hv,d,hd,hle⟩:=hf i hi k hk'
 obtain ⟨u,hu,his⟩:=hb.2.1 _ v hv
 exact ⟨x.1,x.2+off,u,rfl,hA,hb.1,by rw [← hu,Nat.add_assoc],((datOf_is hd his).1.le hle).keep hk⟩
theorem conv1_ok {t:Tmp} {v:V} {s':St} {obs:List Ob} (h:Ok C β w0 s a w) (hc:conv1 s t v=some (s',obs)) (ho:Holds P obs):∃ β',Ok C β' w0 s' a w:=by
 have tmp:∀ x,s.t[t]? = some x → ∃ u,a.tmps[t]? = some u∧x.is β (alw (C.B w0) β s.m) w u:=fun x hx=>by
  obtain ⟨u,hu,hd⟩:=h.dat t x hx
  refine ⟨u,hu,fun hk=>?_,hd⟩
  have:=h.tmps.get t x hx hk
  rw [hu] at this
  exact Option.some.inj this
 have self:∀ m:Rows,unrow m none=m:=fun _=>rfl
 have free:∀ id r,row? s.m id=some r→r.own=true→alw (C.B w0) β (unrow s.m (some id)) (β id).1∧Keep (alw (C.B w0) β s.m) (alw (C.B w0) β (unrow s.m (some id))) w w:=fun id r hr hown=>by
  refine ⟨⟨?_,fun i ri hi ho he=>?_⟩,⟨Nat.le_refl _,fun b _ hb=>⟨⟨hb.1,fun i ri hi ho=>?_⟩,rfl⟩⟩⟩
  ·rcases h.dirty id r hr hown with h1 | h1
   ·exact .inr (.inr h1)
   exact .inr (.inl h1)
  ·rcases row_unrow hi with ⟨_,rfl⟩ | ⟨hne,hi⟩
   ·cases ho
   exact hne (congrArg some (h.mem.inj id i r ri hr hi hown (.inl ho) he.symm))
  rcases row_unrow hi with ⟨_,rfl⟩ | ⟨_,hi⟩
  ·cases ho
  exact hb.2 i ri hi ho
 unfold conv1 at hc
 split at hc
 ·rename_i x hx
  cases hc
  obtain ⟨u,hu,_⟩:=tmp x hx
  exact ⟨β,h.tell (kill:=none) (fun k hk=>by cases hk) hu is_any (fun id hid=>by cases hid)⟩
 ·rename_i id sz hx
  split at hc
  ·rename_i hid
   subst hid
   cases hc
   obtain ⟨u,hu,hi⟩:=tmp _ hx
   obtain ⟨β',h'⟩:=h.dead
   exact ⟨β',h'.tell (kill:=none) (fun k hk=>by cases hk) hu ⟨fun hn=>(by cases hn),.inl ⟨rfl,hi.1 rfl⟩⟩ fun id hid=>(by cases hid; exact ⟨_,row_append_new⟩)⟩
  cases hc
 ·rename_i id off len cap n sz f hx
  split at hc
  case h_2=>cases hc
  rename_i r hr
  split at hc
  case isFalse=>cases hc
  rename_i hown
  cases hc
  obtain ⟨⟨rfl,hcap,hf⟩,_⟩:=ho
  obtain ⟨u,hu,hi⟩:=tmp _ hx
  obtain ⟨h1,h2⟩:=free id r hr hown
  refine ⟨β,h.tell (kill:=some id) (fun k hk=>by cases hk; exact ⟨r,hr,.inl hown⟩) hu ⟨fun hn=>(by cases hn),?_,trivial⟩ fun id hid=>(by cases hid)⟩
  rw [hi.1 rfl]
  exact frz_rep (h.mem.blk id r hr) h1 h2 hf hcap
 ·rename_i id len sz' n sz f hx
  split at hc
  case h_2=>cases hc
  rename_i r hr
  cases hc
  obtain ⟨⟨rfl,hown,hf⟩,_⟩:=ho
  obtain ⟨u,hu,hi⟩:=tmp _ hx
  refine ⟨β,h.tell (kill:=some id) (fun k hk=>by cases hk; exact ⟨r,hr,hown.imp (fun h=>h) (fun h=>h.2)⟩) hu ⟨fun hn=>(by cases hn),?_,trivial⟩ fun id hid=>(by cases hid)⟩
  rcases hi.2 with ⟨hz,e⟩ | ⟨hp,hle,e⟩
  ·subst hz
   rw [e]
   exact ⟨none,0,rfl,Nat.le_refl _,fun ad h=>(by cases h),fun i hi=>(by omega)⟩
  have how:=hown.resolve_right fun h=>by omega
  obtain ⟨h1,h2⟩:=free id r hr how
  rw [e]
  have:=frz_rep (h.mem.blk id r hr) h1 h2 hf hle
  rwa [Nat.add_zero] at this
 ·rename_i x b l hx
  split at hc
  case h_2=>cases hc
  rename_i b' l' hd
  split at hc
  case isFalse=>cases hc
  rename_i hb
  subst hb
  cases hc
  obtain ⟨u,hu,hi⟩:=tmp _ hx
  exact ⟨β,h.tell (kill:=none) (fun k hk=>by cases hk) hu ⟨fun hn=>(by cases hn),(datOf_is hd hi).le ho.1⟩ fun id hid=>(by cases hid)⟩
 ·rename_i l' l hx
  cases hc
  obtain ⟨u,hu,hi⟩:=tmp _ hx
  obtain ⟨us,e,hr⟩:=hi.2
  exact ⟨β,h.tell (kill:=none) (fun k hk=>by cases hk) hu ⟨fun hn=>(by cases hn),us,e,hr.le ho.1⟩ fun id hid=>(by cases hid)⟩
 cases hc
theorem convS_ok:∀ {l:List (Tmp × V)} {β:Env} {s s':St} {obs:List Ob},Ok C β w0 s a w→convS s l=some (s',obs)→Holds P obs → ∃ β',Ok C β' w0 s' a w
 | [],β,s,s',obs,h,hc,_=>by
   simp only [convS,Option.some.injEq,Prod.mk.injEq] at hc
   obtain ⟨rfl,rfl⟩:=hc
   exact ⟨β,h⟩
 | (t,v)::r,β,s,s',obs,h,hc,ho=>by
   simp only [convS] at hc
   split at hc
   ·rename_i s1 o1 h1
    split at hc
    ·rename_i s2 o2 h2
     simp only [Option.some.injEq,Prod.mk.injEq] at hc
     obtain ⟨rfl,rfl⟩:=hc
     obtain ⟨ha,hb⟩:=holds_append ho
     obtain ⟨β',h'⟩:=conv1_ok h h1 ha
     exact convS_ok h' h2 hb
    cases hc
   cases hc
end
def seqOps (P:Program) (sc:Script) (rid:Nat) (ops:Array Oper):List Oper→Nat→St→Option (St × List Ob)
 | [],_,s=>some (s,[])
 | o::r,i,s=>match want? ops s o with
   | some true=>match look rid (10000+i) sc with
     | some (.conv l)=>match convS s l with
       | some (s1,o0)=>match eff P s1 o (look rid i sc) with
         | some (e,o1)=>match seqOps P sc rid ops r (i+1) (stepSt s1 o.dst e) with
           | some (s',o2)=>some (s',o0++(o1++o2))
           | none=>none
         | none=>none
       | none=>none
     | _=>match eff P s o (look rid i sc) with
       | some (e,o1)=>match seqOps P sc rid ops r (i+1) (stepSt s o.dst e) with
         | some (s',o2)=>some (s',o1++o2)
         | none=>none
       | none=>none
   | some false=>seqOps P sc rid ops r (i+1) (s.put o.dst (.c undef))
   | none=>none
def news (l:List Oper):Nat:=(l.filter fun o=>match o.op with
 | .alloc _=>true
 | .box ..=>true
 | .makeSlice ..=>true
 | .buildSlice ..=>true
 | .call c=>match c.callee with
   | .builtin .append=>true
   | _=>false
 | _=>false).length
inductive Ex where
 | normal
 | exit (id:Nat)
 | ret
def Ex.up:Ex→Exit
 | .normal=>.normal
 | .exit id=>.exit id
 | .ret=>.ret
def TSpec (P:Program) (c:Code) (s:St) (e:Ex) (s':St):Prop:=∀ (C:Cx) (w0:World) (β:Env) (a:Act) (w:World),Ok C β w0 s a w→c.wp P (fun x a' w'=>x=e.up ∧ ∃ β',Ok C β' w0 s' a' w') a w
def TSpecN (P:Program) (n:Nat) (c:Code) (s:St) (e:Ex) (s':St):Prop:=∀ (C:Cx) (w0:World) (β:Env) (a:Act) (w:World),C.n0≤n→Ok C β w0 s a w→c.wp P (fun x a' w'=>x=e.up ∧ ∃ β',Ok C β' w0 s' a' w') a w
theorem TSpec.N {P:Program} {n:Nat} {c:Code} {s s':St} {e:Ex} (h:TSpec P c s e s'):TSpecN P n c s e s':=fun C w0 β a w _ hok=>h C w0 β a w hok
section
variable {P:Program}
def Less:List V→List V→Prop
 | [],[]=>True
 | v::r,v' :: r'=>(v' = .any∨v=v')∧Less r r'
 | _,_=>False
theorem less_get:∀ {t t':List V},Less t t' → t.length=t'.length ∧ ∀ (i:Nat) (v:V),t'[i]? = some v→v=V.any∨t[i]? = some v
 | [],[],_=>⟨rfl,fun i v h=>by simp at h⟩
 | v::r,v' :: r',h=>by
   obtain ⟨h1,h2⟩:=less_get h.2
   refine ⟨by simp [h1],fun i x hx=>?_⟩
   cases i with
   | zero =>
     simp only [List.getElem?_cons_zero,Option.some.injEq] at hx ⊢
     subst hx
     exact h.1
   | succ i=>simpa using h2 i x (by simpa using hx)
 | [],_::_,h=>h.elim
 | _::_,[],h=>h.elim
theorem Ok.less {C:Cx} {β:Env} {w0 w:World} {s:St} {a:Act} {t':List V} {m':Rows} {k:Nat} (h:Ok C β w0 s a w) (hl:Less s.t t') (hm:s.m.take k=m') (hk:k≤s.m.length) (hc:C.n0≤k)
 (ht:t'.all (fun v=>v.there m')=true) (hr:m'.all (fun r=>match r with | some r=>r.cells.all (fun v=>v.there m') | none=>true)=true):Ok C β w0 ⟨t',m'⟩ a w:=by
 obtain ⟨hlen,hget⟩:=less_get hl
 have hrow:∀ i r,row? m' i=some r→row? s.m i=some r:=by
  intro i r hi
  subst hm
  unfold row? at hi ⊢
  rw [List.getElem?_take] at hi
  split at hi
  ·exact hi
  cases hi
 have hthere:∀ v:V,v.there m' = true→v.lv m':=by
  intro v hv id hid
  unfold V.there at hv
  rw [hid] at hv
  exact Option.isSome_iff_exists.1 hv
 have hml:m'.length=k:=by rw [← hm,List.length_take]; omega
 have hkp:Keep (alw (C.B w0) β s.m) (alw (C.B w0) β m') w w:=⟨Nat.le_refl _,fun b _ hb=>⟨⟨hb.1,fun i r hi ho=>hb.2 i r (hrow i r hi) ho⟩,rfl⟩⟩
 refine ⟨⟨by rw [h.tmps.size]; exact hlen,fun i v hi hk=>?_⟩,h.defers,⟨fun id r hr'=>(h.mem.blk id r (hrow id r hr')).keep (Nat.le_refl _) (fun _=>rfl) hkp fun _ _ _ _=>rfl,fun i j ri rj hi hj=>h.mem.inj i j ri rj (hrow i ri hi) (hrow j rj hj),fun id r hr' v hv=>?_⟩,
  fun id r hr'=>h.dirty id r (hrow id r hr'),h.frame,fun v hv=>hthere v (List.all_eq_true.1 ht v hv),⟨h.pin.1,(by rw [hml]; exact hc),fun i r hi ho=>by
   have h1:=h.pin.2.2 i r hi ho
   have h2:i < C.n0:=row_lt hi
   subst hm
   unfold row? at h1 ⊢
   rw [List.getElem?_take,if_pos (by omega)]
   exact h1⟩,h.laid,fun i v hi=>?_⟩
 ·rcases hget i v hi with rfl | hh
  ·cases hk
  exact h.tmps.get i v hh hk
 ·refine hthere v ?_
  unfold row? at hr'
  rw [Option.bind_eq_some_iff] at hr'
  obtain ⟨x,hx,hx2⟩:=hr'
  have:=List.all_eq_true.1 hr x (List.mem_of_getElem? hx)
  cases x with
  | none=>cases hx2
  | some r2 =>
    cases hx2
    exact List.all_eq_true.1 this v hv
 rcases hget i v hi with rfl | hh
 ·have hl:i < t'.length:=(List.getElem?_eq_some_iff.1 hi).1
  exact ⟨a.tmps[i]'(by rw [h.tmps.size,hlen]; exact hl),Array.getElem?_eq_getElem _,trivial⟩
 obtain ⟨y,hy,hd⟩:=h.dat i v hh
 exact ⟨y,hy,hd.keep hkp fun _ _=>rfl⟩
theorem TSpec.less {c:Code} {s s1:St} {e:Ex} {t':List V} {m':Rows} {k:Nat} (h:TSpec P c s e s1) (hl:Less s1.t t') (hm:s1.m.take k=m') (hk:k≤s1.m.length) (hc:s.m.length≤k)
 (ht:t'.all (fun v=>v.there m')=true) (hr:m'.all (fun r=>match r with | some r=>r.cells.all (fun v=>v.there m') | none=>true)=true):TSpec P c s e ⟨t',m'⟩ :=
 fun C w0 β a w hok=>wp_mono (h C w0 β a w hok) fun x a' w' hh=>by
  obtain ⟨rfl,β',hok'⟩:=hh
  exact ⟨rfl,β',hok'.less hl hm hk (Nat.le_trans hok.pin.2.1 hc) ht hr⟩
def dim:List Bool→List V→List V
 | _,[]=>[]
 | true::b,v::r=>v::dim b r
 | false::b,_::r=>.any::dim b r
 | [],_::r=>.any::dim [] r
theorem less_dim:∀ (b:List Bool) (t:List V),Less t (dim b t)
 | [],[]=>trivial
 | true::_,[]=>trivial
 | false::_,[]=>trivial
 | true::b,_::r=>⟨.inr rfl,less_dim b r⟩
 | false::b,_::r=>⟨.inl rfl,less_dim b r⟩
 | [],_::r=>⟨.inl rfl,less_dim [] r⟩
theorem TSpec.dim {c:Code} {s s1 s':St} {e:Ex} (b:List Bool) (k:Nat) (h:TSpec P c s e s1) (hs:(⟨dim b s1.t,s1.m.take k⟩:St)=s') (hk:decide (k≤s1.m.length)=true) (hc:decide (s.m.length≤k)=true)
 (ht:s'.t.all (fun v=>v.there s'.m)=true) (hr:Flat s'.m):TSpec P c s e s':=by
 have hf:s'.m.all (fun r=>match r with | some r=>r.cells.all (fun v=>v.there s'.m) | none=>true)=true:=by
  have key:∀ l:Rows,Flat l→l.all (fun r=>match r with | some r=>r.cells.all (fun v=>v.there s'.m) | none=>true)=true:=by
   intro l
   induction l with
   | nil=>intro _; rfl
   | cons x t ih =>
     intro hf
     rw [List.all_cons,Bool.and_eq_true]
     cases x with
     | none=>exact ⟨rfl,ih hf⟩
     | some r =>
       refine ⟨List.all_eq_true.2 fun v hv=>?_,ih hf.2⟩
       unfold V.there
       rw [hf.1 v hv]
  exact key _ hr
 subst hs
 exact h.less (less_dim b s1.t) rfl (of_decide_eq_true hk) (of_decide_eq_true hc) ht hf
theorem Ok.from {C:Cx} {w0:World} {β:Env} {a:Act} {w:World} {s s1:St} (b:List Bool) (hok:Ok C β w0 s a w) (hs:(⟨U.dim b s.t,s.m⟩:St)=s1) (ht:s1.t.all (fun v=>v.there s1.m)=true) (hr:Flat s1.m):Ok C β w0 s1 a w:=by
 have hf:s1.m.all (fun r=>match r with | some r=>r.cells.all (fun v=>v.there s1.m) | none=>true)=true:=by
  have key:∀ l:Rows,Flat l→l.all (fun r=>match r with | some r=>r.cells.all (fun v=>v.there s1.m) | none=>true)=true:=by
   intro l
   induction l with
   | nil=>intro _; rfl
   | cons x t ih =>
     intro hf
     rw [List.all_cons,Bool.and_eq_true]
     cases x with
     | none=>exact ⟨rfl,ih hf⟩
     | some r =>
       refine ⟨List.all_eq_true.2 fun v hv=>?_,ih hf.2⟩
       unfold V.there
       rw [hf.1 v hv]
  exact key _ hr
 subst hs
 exact hok.less (k:=s.m.length) (less_dim b s.t) (List.take_length ..) (Nat.le_refl _) hok.pin.2.1 ht hf
theorem TSpec.from {c:Code} {s s1 s':St} {e:Ex} (b:List Bool) (h:TSpec P c s1 e s') (hs:(⟨U.dim b s.t,s.m⟩:St)=s1) (ht:s1.t.all (fun v=>v.there s1.m)=true) (hr:Flat s1.m):TSpec P c s e s' :=
 fun C w0 β a w hok=>h C w0 β a w (hok.from b hs ht hr)
end
abbrev Blocks:=List (Nat × Ex × St)
def lookB (id:Nat):Blocks→Option (Ex × St)
 | []=>none
 | (r,e,s)::l=>if r==id then some (e,s) else lookB id l
def iter (f:Nat→St→Option (Ex × St × List Ob)):Nat→Nat→St→Option (Ex × St × List Ob)
 | 0,_,_=>none
 | n+1,k,s=>match f k s with
   | some (.normal,s',o1)=>match iter f n (k+1) s' with
     | some (e,s'',o2)=>some (e,s'',o1++o2)
     | none=>none
   | r=>r
def evoR (P:Program) (sc:Script) (rid:Nat) (ops:Array Oper):Bool→St→Option (Ex × St × List Ob)
 | false,s=>match seqOps P sc rid ops ops.toList 0 s with
   | some (s',o)=>some (.normal,s',o)
   | none=>none
 | true,s =>
   if P.follows .mixedOrders=true∧edgesOk ops.toList=true then
    match dOps P sc rid ops ops.toList 0 s.m.length ⟨s.t,s.m++List.replicate (news ops.toList) none⟩ with
    | some (s',fs,o)=>if okFs (bits ops.toList) s.m.length (s.m.length+news ops.toList) fs=true then some (.normal,s',o) else none
    | none=>none
   else none
def evo (P:Program) (sc:Script) (sb:Blocks) (N:Nat):Code→Nat→St→Option (Ex × St × List Ob)
 | .skip,_,s=>some (.normal,s,[])
 | .region id ops dr,off,s=>match lookB (900000000+(id+off)) sb with
   | some (e,s')=>some (e,s',[.prop (TSpec P (.region id ops dr) s e s')])
   | none=>match look (id+off) 99998 sc with
     | some (.conv l)=>match convS s l with
       | some (s1,o0)=>match evoR P sc (id+off) ops dr s1 with
         | some (e,s',o1)=>some (e,s',o0++o1)
         | none=>none
       | none=>none
     | _=>evoR P sc (id+off) ops dr s
 | .seq a b,off,s=>match evo P sc sb N a off s with
   | some (.normal,s',o1)=>match evo P sc sb N b off s' with
     | some (e,s'',o2)=>some (e,s'',o1++o2)
     | none=>none
   | some (e,s',o1)=>some (e,s',o1)
   | none=>none
 | .cond c x y,off,s=>match s.at c with
   | .c (.bool true)=>evo P sc sb N x off s
   | .c (.bool false)=>evo P sc sb N y off s
   | _=>none
 | .block id c,off,s=>match lookB (id+off) sb with
   | some (e,s')=>match look (id+off) 99999 sc with
     | some (.mask b)=>match (dim b s.t).all (fun v=>v.there s.m) with
       | true=>some (e,s',[.prop (Flat s.m),.prop (TSpec P (.block id c) ⟨dim b s.t,s.m⟩ e s')])
       | false=>none
     | some (.maskN b)=>match (dim b s.t).all (fun v=>v.there s.m) with
       | true=>some (e,s',[.prop (Flat s.m),.prop (TSpecN P N (.block id c) ⟨dim b s.t,s.m⟩ e s')])
       | false=>none
     | some (.conv l)=>match convS s l with
       | some (s1,o0)=>some (e,s',o0++[.prop (TSpec P (.block id c) s1 e s')])
       | none=>none
     | _=>some (e,s',[.prop (TSpec P (.block id c) s e s')])
   | none=>match evo P sc sb N c off s with
     | some (.exit i,s',o)=>if i=id then some (.normal,s',o) else some (.exit i,s',o)
     | r=>r
 | .loop c,off,s=>iter (fun k s=>evo P sc sb N c ((off+k+1)*1000) s) 300 0 s
 | .exit id,_,s=>some (.exit id,s,[])
 | .label _,_,s=>some (.normal,s,[])
 | .ret,_,s=>some (.ret,s,[])
 | _,_,_=>none
def ev (P:Program) (sc:Script) (sb:Blocks) (c:Code) (s:St):Option (Ex × St × List Ob):=evo P sc sb s.m.length c 0 s
section
variable {P:Program} {C:Cx} {β:Env} {s:St} {o:Oper} {w w0:World} {a:Act} {Q:Exit→Act→World→Prop}
theorem seq_ok {sc:Script} {rid:Nat} {ops:Array Oper}:∀ (l:List Oper) (i:Nat) (β:Env) (s s':St) (obs:List Ob) (a:Act) (w:World),(∀ j o,l[j]? = some o→ops[i+j]? = some o) →
 seqOps P sc rid ops l i s=some (s',obs)→Holds P obs→Ok C β w0 s a w→(∀ β' a' w',Ok C β' w0 s' a' w' → Q .normal a' w')→wpOps P ops Q (List.range' i l.length) a w
 | [],i,β,s,s',obs,a,w,_,h,_,hok,hk=>by
   simp only [seqOps,Option.some.injEq,Prod.mk.injEq] at h
   obtain ⟨rfl,rfl⟩:=h
   exact hk β a w hok
 | o::r,i,β,s,s',obs,a,w,hl,h,hh,hok,hk=>by
   have hio:ops[i]? = some o:=hl 0 o rfl
   have hl':∀ j o',r[j]? = some o' → ops[i+1+j]? = some o':=fun j o' hj=>by
    have:=hl (j+1) o' (by simpa using hj)
    rwa [show i+(j+1)=i+1+j by omega] at this
   simp only [List.length_cons,List.range'_succ,wpOps,hio]
   simp only [seqOps] at h
   split at h
   ·rename_i hw
    rw [want_sound hok hw]
    split at h
    ·split at h
     ·rename_i s1 o0 hcv
      split at h
      ·rename_i e o1 he
       split at h
       ·rename_i s2 o2 hr
        simp only [Option.some.injEq,Prod.mk.injEq] at h
        obtain ⟨rfl,rfl⟩:=h
        obtain ⟨h0,h12⟩:=holds_append hh
        obtain ⟨h1,h2⟩:=holds_append h12
        obtain ⟨β1,hok1⟩:=convS_ok hok hcv h0
        exact .inl (step_ok hok1 he h1 fun β' a' w' hok'=>seq_ok r (i+1) β' _ _ _ a' w' hl' hr h2 hok' hk)
       cases h
      cases h
     cases h
    split at h
    ·rename_i e o1 he
     split at h
     ·rename_i s1 o2 hr
      simp only [Option.some.injEq,Prod.mk.injEq] at h
      obtain ⟨rfl,rfl⟩:=h
      obtain ⟨h1,h2⟩:=holds_append hh
      exact .inl (step_ok hok he h1 fun β' a' w' hok'=>seq_ok r (i+1) β' _ _ _ a' w' hl' hr h2 hok' hk)
     cases h
    cases h
   ·rename_i hw
    rw [want_sound hok hw]
    simp only [Bool.false_eq_true,if_false]
    refine seq_ok r (i+1) β _ _ _ _ w hl' h hh ?_ hk
    refine ⟨hok.tmps.put (v:=.c undef) _ fun _=>rfl,(put_defers _).trans hok.defers,?_,?_,hok.frame,?_,(by rw [put_m]; exact hok.pin),hok.laid,(by rw [put_m]; exact hok.dats (v:=.c undef) (Keep.refl _ _) (fun _ _ _ _=>rfl) trivial)⟩
    ·rw [put_m]; exact hok.mem
    ·rw [put_m]; exact hok.dirty
    rw [put_m]
    intro u hu
    rcases put_mem hu with hu | rfl
    ·exact hok.ltt u hu
    exact lv_c _ _
   cases h
theorem draw_ok {ops:Array Oper} {sc:Script} {rid rid' k:Nat} {s':St} {fs:List Ft} {obs:List Ob} (hm:P.follows .mixedOrders=true) (hE:edgesOk ops.toList=true)
 (hd:dOps P sc rid' ops ops.toList 0 s.m.length ⟨s.t,s.m++List.replicate k none⟩=some (s',fs,obs)) (hF:okFs (bits ops.toList) s.m.length (s.m.length+k) fs=true) (hh:Holds P obs)
 (hok:Ok C β w0 s a w) (hk:∀ β' a' w',Ok C β' w0 s' a' w' → Q .normal a' w'):(Code.region rid ops true).wp P Q a w:=by
 refine wp_region_any hm ?_
 have hp:∀ j,pL (Array.replicate ops.size false) j=false:=by
  intro j
  simp only [pL,Array.getD_eq_getD_getElem?]
  cases hj:(Array.replicate ops.size false)[j]? with
  | none=>rfl
  | some b =>
    obtain ⟨_,h⟩:=Array.getElem?_eq_some_iff.1 hj
    rw [← h]
    simp
 have hlen:(s.m++List.replicate k (none:Option Row)).length=s.m.length+k:=by simp
 have hpre:∀ id,s.m.length≤id→row? (s.m++List.replicate k none) id=none:=by
  intro id hid
  unfold row?
  rw [List.getElem?_append_right hid]
  cases hj:(List.replicate k (none:Option Row))[id - s.m.length]? with
  | none=>rfl
  | some x =>
    have:=List.mem_of_getElem? hj
    rw [List.eq_of_mem_replicate this]
    rfl
 have hold:∀ id r,row? (s.m++List.replicate k none) id=some r→row? s.m id=some r:=by
  intro id r hr
  by_cases hid:id < s.m.length
  ·unfold row? at hr ⊢
   rwa [List.getElem?_append_left hid] at hr
  rw [hpre id (by omega)] at hr; cases hr
 have hnew:∀ id r,row? s.m id=some r→row? (s.m++List.replicate k none) id=some r:=by
  intro id r hr
  have hl:=row_lt hr
  unfold row? at hr ⊢
  rwa [List.getElem?_append_left hl]
 have hlv:∀ v:V,v.lv s.m→v.lv (s.m++List.replicate k none):=fun v hv id hid=>by
  obtain ⟨r,hr⟩:=hv id hid
  exact ⟨r,hnew id r hr⟩
 refine draw_key (m0:=s.m.length) (s0:=⟨s.t,s.m++List.replicate k none⟩) (w0:=w0) (C:=C) hd hh hE (by simp only [hlen]; exact hF) hpre hok.pin.2.1 hk ops.size _ β a _ (by simp) ?_ ?_ ?_
 ·rw [List.filter_eq_self.2 (fun j _=>by simp [hp j])]
  simp
 ·intro i o _ hpi
  rw [hp i] at hpi
  cases hpi
 have hf:foldE (pL (Array.replicate ops.size false)) 0 fs ⟨s.t,s.m++List.replicate k none⟩=⟨s.t,s.m++List.replicate k none⟩:=fold_none _ _ _ fun j _=>hp j
 rw [hf]
 have hkp:∀ w':World,w'.heap=w.heap→Keep (alw (C.B w0) β s.m) (alw (C.B w0) β (s.m++List.replicate k none)) w w':=fun w' hw=>⟨by rw [hw]; exact Nat.le_refl _,fun b _ hb=>⟨⟨hb.1,fun i r hi ho=>hb.2 i r (hold i r hi) ho⟩,by rw [hw]⟩⟩
 refine ⟨hok.tmps,hok.defers,⟨fun id r hr=>(hok.mem.blk id r (hold id r hr)).keep (Nat.le_refl _) (fun _=>rfl) (hkp _ rfl) fun _ _ _ _=>rfl,fun i j ri rj hi hj=>hok.mem.inj i j ri rj (hold i ri hi) (hold j rj hj),fun id r hr v hv=>hlv v (hok.mem.lv id r (hold id r hr) v hv)⟩,
  fun id r hr=>hok.dirty id r (hold id r hr),⟨hok.frame.os,hok.frame.tape,hok.frame.output,hok.frame.size,hok.frame.block⟩,fun v hv=>hlv v (hok.ltt v hv),⟨hok.pin.1,(by have:=hok.pin.2.1; rw [hlen]; omega),fun i r hi ho=>hnew i r (hok.pin.2.2 i r hi ho)⟩,hok.laid,fun i v hi=>by
   obtain ⟨y,hy,hd⟩:=hok.dat i v hi
   exact ⟨y,hy,hd.keep (hkp _ rfl) fun _ _=>rfl⟩⟩
theorem evoR_ok {sc:Script} {id rid:Nat} {ops:Array Oper} {draw:Bool} {s':St} {e:Ex} {obs:List Ob} (h:evoR P sc rid ops draw s=some (e,s',obs)) (hh:Holds P obs) (hok:Ok C β w0 s a w) (hk:∀ β' a' w',Ok C β' w0 s' a' w' → Q e.up a' w'):(Code.region id ops draw).wp P Q a w:=by
 cases draw with
 | false =>
   simp only [evoR] at h
   split at h
   ·rename_i s1 o1 hs
    simp only [Option.some.injEq,Prod.mk.injEq] at h
    obtain ⟨rfl,rfl,rfl⟩:=h
    refine wp_region ?_
    have:=seq_ok (Q:=Q) ops.toList 0 β s _ _ a w (fun j o hj=>by simpa using hj) hs hh hok hk
    rw [List.range_eq_range']
    simpa using this
   cases h
 | true =>
   simp only [evoR] at h
   split at h
   ·rename_i hme
    split at h
    ·rename_i s1 fs o1 hd
     split at h
     ·rename_i hF
      simp only [Option.some.injEq,Prod.mk.injEq] at h
      obtain ⟨rfl,rfl,rfl⟩:=h
      exact draw_ok hme.1 hme.2 hd hF hh hok hk
     cases h
    cases h
   cases h
theorem evo_ok {sc:Script} {sb:Blocks} {N:Nat} (hN:C.n0≤N):∀ (c:Code) (off:Nat) (β:Env) (s s':St) (e:Ex) (obs:List Ob) (a:Act) (w:World) (Q:Exit→Act→World→Prop),
 evo P sc sb N c off s=some (e,s',obs)→Holds P obs→Ok C β w0 s a w→(∀ β' a' w',Ok C β' w0 s' a' w' → Q e.up a' w')→c.wp P Q a w:=by
 intro c
 induction c with
 | skip =>
   intro off β s s' e obs a w Q h _ hok hk
   simp only [evo,Option.some.injEq,Prod.mk.injEq] at h
   obtain ⟨rfl,rfl,rfl⟩:=h
   exact wp_skip (hk β a w hok)
 | region id ops draw =>
   intro off β s s' e obs a w Q h hh hok hk
   simp only [evo] at h
   split at h
   ·simp only [Option.some.injEq,Prod.mk.injEq] at h
    obtain ⟨rfl,rfl,rfl⟩:=h
    refine wp_mono (hh.1 C w0 β a w hok) fun x a' w' hx=>?_
    obtain ⟨rfl,β',hok'⟩:=hx
    exact hk β' a' w' hok'
   split at h
   ·split at h
    ·rename_i s1 o0 hcv
     split at h
     ·rename_i e1 s2 o1 hR
      simp only [Option.some.injEq,Prod.mk.injEq] at h
      obtain ⟨rfl,rfl,rfl⟩:=h
      obtain ⟨h0,h1⟩:=holds_append hh
      obtain ⟨β1,hok1⟩:=convS_ok hok hcv h0
      exact evoR_ok hR h1 hok1 hk
     cases h
    cases h
   exact evoR_ok h hh hok hk
 | seq x y ihx ihy =>
   intro off β s s' e obs a w Q h hh hok hk
   simp only [evo] at h
   split at h
   ·rename_i s1 o1 hx
    split at h
    ·rename_i e2 s2 o2 hy
     simp only [Option.some.injEq,Prod.mk.injEq] at h
     obtain ⟨rfl,rfl,rfl⟩:=h
     obtain ⟨h1,h2⟩:=holds_append hh
     exact wp_seq (ihx off β s _ _ _ a w _ hx h1 hok fun β' a' w' hok'=>ihy off β' _ _ _ _ a' w' Q hy h2 hok' hk)
    cases h
   ·rename_i e1 s1 o1 hne hx
    simp only [Option.some.injEq,Prod.mk.injEq] at h
    obtain ⟨rfl,rfl,rfl⟩:=h
    refine wp_seq (ihx off β s _ _ _ a w _ hx hh hok fun β' a' w' hok'=>?_)
    have:=hk β' a' w' hok'
    cases e1 with
    | normal=>exact (hne rfl).elim
    | exit i=>exact this
    | ret=>exact this
   cases h
 | cond c x y ihx ihy =>
   intro off β s s' e obs a w Q h hh hok hk
   simp only [evo] at h
   split at h
   ·rename_i hc
    exact wp_cond_true (by rw [hok.tmps.eval c (by rw [hc]; rfl),hc]; rfl) (ihx off β s _ _ _ a w Q h hh hok hk)
   ·rename_i hc
    exact wp_cond_false (by rw [hok.tmps.eval c (by rw [hc]; rfl),hc]; rfl) (ihy off β s _ _ _ a w Q h hh hok hk)
   cases h
 | block id c ih =>
   intro off β s s' e obs a w Q h hh hok hk
   simp only [evo] at h
   split at h
   ·split at h
    ·split at h
     ·rename_i ht
      simp only [Option.some.injEq,Prod.mk.injEq] at h
      obtain ⟨rfl,rfl,rfl⟩:=h
      refine wp_mono (TSpec.from _ hh.2.1 rfl ht hh.1 C w0 β a w hok) fun x a' w' hx=>?_
      obtain ⟨rfl,β',hok'⟩:=hx
      exact hk β' a' w' hok'
     cases h
    ·split at h
     ·rename_i ht
      simp only [Option.some.injEq,Prod.mk.injEq] at h
      obtain ⟨rfl,rfl,rfl⟩:=h
      refine wp_mono (hh.2.1 C w0 β a w hN (hok.from _ rfl ht hh.1)) fun x a' w' hx=>?_
      obtain ⟨rfl,β',hok'⟩:=hx
      exact hk β' a' w' hok'
     cases h
    ·split at h
     ·rename_i s1 o0 hcv
      simp only [Option.some.injEq,Prod.mk.injEq] at h
      obtain ⟨rfl,rfl,rfl⟩:=h
      obtain ⟨h0,h1⟩:=holds_append hh
      obtain ⟨β1,hok1⟩:=convS_ok hok hcv h0
      refine wp_mono (h1.1 C w0 β1 a w hok1) fun x a' w' hx=>?_
      obtain ⟨rfl,β',hok'⟩:=hx
      exact hk β' a' w' hok'
     cases h
    simp only [Option.some.injEq,Prod.mk.injEq] at h
    obtain ⟨rfl,rfl,rfl⟩:=h
    refine wp_mono (hh.1 C w0 β a w hok) fun x a' w' hx=>?_
    obtain ⟨rfl,β',hok'⟩:=hx
    exact hk β' a' w' hok'
   split at h
   ·rename_i i s1 o1 hc
    split at h
    ·rename_i hi
     simp only [Option.some.injEq,Prod.mk.injEq] at h
     obtain ⟨rfl,rfl,rfl⟩:=h
     refine wp_block (ih off β s _ _ _ a w _ hc hh hok fun β' a' w' hok'=>?_)
     simp only [Ex.up,Exit.inBlock,hi,if_true]
     exact hk β' a' w' hok'
    rename_i hi
    simp only [Option.some.injEq,Prod.mk.injEq] at h
    obtain ⟨rfl,rfl,rfl⟩:=h
    refine wp_block (ih off β s _ _ _ a w _ hc hh hok fun β' a' w' hok'=>?_)
    simp only [Ex.up,Exit.inBlock,hi,if_false]
    exact hk β' a' w' hok'
   rename_i r hne
   refine wp_block (ih off β s _ _ _ a w _ h hh hok fun β' a' w' hok'=>?_)
   have:=hk β' a' w' hok'
   cases e with
   | normal=>exact this
   | exit i=>exact (hne _ _ _ h).elim
   | ret=>exact this
 | loop c ih =>
   intro off β s s' e obs a w Q h hh hok hk
   simp only [evo] at h
   have key:∀ (n k:Nat) (β:Env) (s:St) (obs:List Ob) (a:Act) (w:World),iter (fun k s=>evo P sc sb N c ((off+k+1)*1000) s) n k s=some (e,s',obs)→Holds P obs→Ok C β w0 s a w→Code.rounds P c Q n a w:=by
    intro n
    induction n with
    | zero=>intro k β s obs a w h; simp [iter] at h
    | succ n ihn =>
      intro k β s obs a w h hh hok
      simp only [iter] at h
      rw [rounds_succ]
      split at h
      ·rename_i s1 o1 hc
       split at h
       ·rename_i e2 s2 o2 hr
        simp only [Option.some.injEq,Prod.mk.injEq] at h
        obtain ⟨rfl,rfl,rfl⟩:=h
        obtain ⟨h1,h2⟩:=holds_append hh
        exact ih _ β s _ _ _ a w _ hc h1 hok fun β' a' w' hok'=>ihn (k+1) β' s1 _ a' w' hr h2 hok'
       cases h
      rename_i hne
      refine ih _ β s _ _ _ a w _ h hh hok fun β' a' w' hok'=>?_
      have:=hk β' a' w' hok'
      cases e with
      | normal=>exact (hne _ _ h).elim
      | exit i=>exact this
      | ret=>exact this
   exact wp_loop_rounds 300 (key 300 0 β s obs a w h hh hok)
 | exit id =>
   intro off β s s' e obs a w Q h _ hok hk
   simp only [evo,Option.some.injEq,Prod.mk.injEq] at h
   obtain ⟨rfl,rfl,rfl⟩:=h
   exact wp_exit (hk β a w hok)
 | label l =>
   intro off β s s' e obs a w Q h _ hok hk
   simp only [evo,Option.some.injEq,Prod.mk.injEq] at h
   obtain ⟨rfl,rfl,rfl⟩:=h
   exact wp_label (hk β a w hok)
 | ret =>
   intro off β s s' e obs a w Q h _ hok hk
   simp only [evo,Option.some.injEq,Prod.mk.injEq] at h
   obtain ⟨rfl,rfl,rfl⟩:=h
   exact wp_ret (hk β a w hok)
 | _=>intro off β s s' e obs a w Q h; simp [evo] at h
theorem ev_ok {sc:Script} {sb:Blocks} (c:Code) (β:Env) (s s':St) (e:Ex) (obs:List Ob) (a:Act) (w:World) (Q:Exit→Act→World→Prop)
 (h:ev P sc sb c s=some (e,s',obs)) (hh:Holds P obs) (hok:Ok C β w0 s a w) (hk:∀ β' a' w',Ok C β' w0 s' a' w' → Q e.up a' w'):c.wp P Q a w :=
 evo_ok hok.pin.2.1 c 0 β s s' e obs a w Q h hh hok hk
end
theorem tspec_of {P:Program} {sc:Script} {sb:Blocks} {c:Code} {s s':St} {e:Ex} {obs:List Ob} (h:ev P sc sb c s=some (e,s',obs)) (hh:Holds P obs):TSpec P c s e s' :=
 fun C w0 β a w hok=>ev_ok (w0:=w0) (C:=C) c β s s' e obs a w _ h hh hok fun β' a' w' hok'=>⟨rfl,β',hok'⟩
theorem tspecN_of {P:Program} {n:Nat} {sc:Script} {sb:Blocks} {c:Code} {s s':St} {e:Ex} {obs:List Ob} (h:evo P sc sb n c 0 s=some (e,s',obs)) (hh:Holds P obs):TSpecN P n c s e s' :=
 fun C w0 β a w hn hok=>evo_ok (w0:=w0) (C:=C) hn c 0 β s s' e obs a w _ h hh hok fun β' a' w' hok'=>⟨rfl,β',hok'⟩
def resV (P:Program) (s:St):ResultVar→Option V
 | .tmp t=>if (s.t.getD t (.c undef)).has then some (s.t.getD t (.c undef)) else none
 | .cell a t=>match s.t.getD a (.c undef) with
   | .p id off=>match row? s.m id with
     | some r=>match agg? P t,size? P t with
       | some true,some n =>
         if ((r.cells.drop off).take n).length=n∧((r.cells.drop off).take n).all V.isC=true then some (.c (.agg (((r.cells.drop off).take n).map V.val).toArray))
         else match toDs ((r.cells.drop off).take n) with
          | some l=>if l.length=n then some (mkA l) else none
          | none=>none
       | some false,_=>r.cells[off]?
       | _,_=>none
     | none=>none
   | _=>none
def resL (P:Program) (s:St):List ResultVar→Option (List V)
 | []=>some []
 | x::r=>match resV P s x,resL P s r with
   | some v,some l=>some (v::l)
   | _,_=>none
def datL:List V→Option (List (Bool × List D))
 | []=>some []
 | v::r=>match datOf v,datL r with
   | some p,some l=>some (p::l)
   | _,_=>none
theorem datL_rep {β:Env} {A:Nat→Prop} {w:World}:∀ {l:List V} {ps:List (Bool × List D)} {us:List Value},datL l=some ps→isL β A w l us→RepT A w ps us
 | [],ps,us,h,hi=>by
   cases h
   cases us with
   | nil=>trivial
   | cons _ _=>exact hi.elim
 | v::r,ps,us,h,hi=>by
   simp only [datL] at h
   split at h
   ·rename_i p l hp hl
    cases h
    cases us with
    | nil=>exact hi.elim
    | cons u us=>exact ⟨datOf_is hp hi.1,datL_rep hl hi.2⟩
   cases h
def shut:List V→Option V
 | [v]=>some v
 | [.sl id off len cap,.c w]=>some (.ts id off len cap w)
 | [.sd id len sz,.c w]=>some (.td id len sz w)
 | l=>if l.all V.isC=true then some (.c (.tuple (l.map V.val).toArray)) else match l.length==1,datL l with
   | false,some ps=>some (.tu ps)
   | _,_=>none
def start (fn:Func) (args:List V) (m:Rows):St:=⟨args++List.replicate (fn.ntmps - args.length) (.c undef),m⟩
def reN (n:Nat) (keep:List Nat) (id:Nat):Option Nat:=if id < n then some id else (idx id keep 0).map (n + ·)
def reV (n:Nat) (keep:List Nat):V→Option V
 | .any=>none
 | .c v=>some (.c v)
 | .p id off=>(reN n keep id).map fun k=>.p k off
 | .sl id off len cap=>(reN n keep id).map fun k=>.sl k off len cap
 | .sd id len sz=>(reN n keep id).map fun k=>.sd k len sz
 | .ts id off len cap w=>(reN n keep id).map fun k=>.ts k off len cap w
 | .td id len sz w=>(reN n keep id).map fun k=>.td k len sz w
 | .fn g id off=>(reN n keep id).map fun k=>.fn g k off
 | .gr id len sz=>(reN n keep id).map fun k=>.gr k len sz
 | v=>some v
def reS (n:Nat) (keep:List Nat) (v:V):V:=(reV n keep v).getD .any
section
variable {C:Cx} {β:Env} {s:St} {w w0:World} {a:Act}
theorem Ok.ren {n:Nat} {keep:List Nat} (hok:Ok C β w0 s a w) (hn:C.n0≤n) (hml:n≤s.m.length) (hge:keep.all (fun i=>decide (n≤i))=true) (hnd:keep.Nodup) (hfl:Flat (s.m.take n++keep.map (row? s.m))) :
 ∃ β2:Env,(∀ i,i < n→β2 i=β i)∧(∀ v v' u,reV n keep v=some v' → v.is β (alw (C.B w0) β s.m) w u→v'.is β2 (alw (C.B w0) β2 (s.m.take n++keep.map (row? s.m))) w u)∧Ok C β2 w0 ⟨s.t.map (reS n keep),s.m.take n++keep.map (row? s.m)⟩ a w:=by
 obtain ⟨β2,hb1,hb2⟩:∃ β2:Env,(∀ i,i < n→β2 i=β i)∧(∀ (k id:Nat),keep[k]? = some id→β2 (n+k)=β id):=by
  refine ⟨fun i=>if i < n then β i else match keep[i - n]? with | some id=>β id | none=>⟨0,0,0⟩,fun i hi=>by simp only; rw [if_pos hi],fun k id hk=>?_⟩
  simp only
  rw [if_neg (by omega),show n+k - n=k by omega,hk]
 have htl:(s.m.take n).length=n:=by simp; omega
 have orig:∀ i ri,row? (s.m.take n++keep.map (row? s.m)) i=some ri → ∃ id,row? s.m id=some ri∧β2 i=β id∧((i < n∧id=i)∨(n≤i∧n≤id∧keep[i - n]? = some id)):=by
  intro i ri hri
  by_cases hi:i < n
  ·refine ⟨i,?_,hb1 i hi,.inl ⟨hi,rfl⟩⟩
   unfold row? at hri ⊢
   rw [List.getElem?_append_left (by omega),List.getElem?_take,if_pos hi] at hri
   exact hri
  unfold row? at hri
  rw [List.getElem?_append_right (by omega),htl,List.getElem?_map] at hri
  cases hk:keep[i - n]? with
  | none=>rw [hk] at hri; cases hri
  | some id =>
    rw [hk] at hri
    simp only [Option.map_some,Option.bind_some] at hri
    refine ⟨id,hri,?_,.inr ⟨by omega,of_decide_eq_true (List.all_eq_true.1 hge id (List.mem_of_getElem? hk)),rfl⟩⟩
    have:=hb2 _ id hk
    rwa [show n+(i - n)=i by omega] at this
 have hflat:∀ i ri,row? (s.m.take n++keep.map (row? s.m)) i=some ri → ∀ v:V,v∈ri.cells→v.id? = none:=fun i ri hri=>flat_at hfl i ri hri
 have hkp:Keep (alw (C.B w0) β s.m) (alw (C.B w0) β2 (s.m.take n++keep.map (row? s.m))) w w:=⟨Nat.le_refl _,fun b _ hb=>⟨⟨hb.1,fun i ri hi ho=>by
  obtain ⟨id,hid,hbe,_⟩:=orig i ri hi
  rw [hbe]
  exact hb.2 id ri hid ho⟩,rfl⟩⟩
 have hre:∀ id k,reN n keep id=some k→β2 k=β id ∧ ∀ r,row? s.m id=some r→row? (s.m.take n++keep.map (row? s.m)) k=some r:=by
  intro id k h
  unfold reN at h
  split at h
  ·rename_i hlt
   cases h
   refine ⟨hb1 _ hlt,fun r hr=>?_⟩
   unfold row? at hr ⊢
   rw [List.getElem?_append_left (by omega),List.getElem?_take,if_pos hlt]
   exact hr
  rw [Option.map_eq_some_iff] at h
  obtain ⟨j,hj,rfl⟩:=h
  obtain ⟨_,hjj⟩:=idx_some hj
  rw [Nat.sub_zero] at hjj
  refine ⟨hb2 j _ hjj,fun r hr=>?_⟩
  rw [row_at,List.getElem?_append_right (by omega),htl,show n+j - n=j by omega,List.getElem?_map,hjj]
  exact hr
 have hup:∀ v v',reV n keep v=some v' → (∀ u,v.is β (alw (C.B w0) β s.m) w u→v'.is β2 (alw (C.B w0) β2 (s.m.take n++keep.map (row? s.m))) w u)∧(v.lv s.m→v'.lv (s.m.take n++keep.map (row? s.m)))∧v'.known=v.known∧v.has=v'.has:=by
  intro v v' h
  have one:∀ id k,v.id? = some id→v'.id? = some k→reN n keep id=some k→v.lv s.m→v'.lv (s.m.take n++keep.map (row? s.m)):=fun id k h1 h2 h3 hl i hi=>by
   rw [h2] at hi
   cases hi
   obtain ⟨r,hr⟩:=hl id h1
   exact ⟨r,(hre id k h3).2 r hr⟩
  cases v with
  | any=>cases h
  | c v=>cases h; exact ⟨fun u hu=>⟨hu.1,trivial⟩,fun _=>lv_c _ _,rfl,rfl⟩
  | dv b l=>cases h; exact ⟨fun u hu=>hu.keep hkp fun _ hid=>(by cases hid),fun _=>lv_noid rfl,rfl,rfl⟩
  | e l=>cases h; exact ⟨fun u hu=>hu.keep hkp fun _ hid=>(by cases hid),fun _=>lv_noid rfl,rfl,rfl⟩
  | tu l=>cases h; exact ⟨fun u hu=>hu.keep hkp fun _ hid=>(by cases hid),fun _=>lv_noid rfl,rfl,rfl⟩
  | gr id len sz =>
    simp only [reV,Option.map_eq_some_iff] at h
    obtain ⟨k,hk,rfl⟩:=h
    refine ⟨fun u hu=>⟨fun hn=>(by cases hn),?_⟩,one _ k rfl rfl hk,rfl,rfl⟩
    simp only [V.dis,(hre _ k hk).1]
    exact hu.2
  | _ =>
    simp only [reV,Option.map_eq_some_iff] at h
    obtain ⟨k,hk,rfl⟩:=h
    exact ⟨fun u hu=>⟨fun _=>by rw [hu.1 rfl]; simp only [V.up,(hre _ k hk).1],trivial⟩,one _ k rfl rfl hk,rfl,rfl⟩
 have htm:∀ (i:Nat) (x:V),s.t[i]? = some x → ∃ u,a.tmps[i]? = some u∧x.is β (alw (C.B w0) β s.m) w u:=fun i x hx=>by
  obtain ⟨u,hu,hd⟩:=hok.dat i x hx
  refine ⟨u,hu,fun hk=>?_,hd⟩
  have:=hok.tmps.get i x hx hk
  rw [hu] at this
  exact Option.some.inj this
 have hts:∀ (i:Nat) (v:V),(s.t.map (reS n keep))[i]? = some v → ∃ u,a.tmps[i]? = some u∧v.is β2 (alw (C.B w0) β2 (s.m.take n++keep.map (row? s.m))) w u:=by
  intro i v hi
  rw [List.getElem?_map,Option.map_eq_some_iff] at hi
  obtain ⟨x,hx,rfl⟩:=hi
  obtain ⟨u,hu,his⟩:=htm i x hx
  refine ⟨u,hu,?_⟩
  unfold reS
  cases hr:reV n keep x with
  | none=>exact is_any
  | some x'=>exact (hup x x' hr).1 u his
 refine ⟨β2,hb1,fun v v' u h=>(hup v v' h).1 u,⟨by rw [hok.tmps.size,List.length_map],fun i v hi hk=>?_⟩,hok.defers,⟨fun i ri hri=>?_,fun i j ri rj hi hj ho hz hij=>?_,fun i ri hri v hv=>lv_noid (hflat i ri hri v hv)⟩,fun i ri hri ho=>?_,hok.frame,fun v hv=>?_,⟨fun i hi=>(hb1 i (by omega)).trans (hok.pin.1 i hi),(by simp only [List.length_append,htl]; omega),fun i r hi ho=>?_⟩,hok.laid,fun i v hi=>?_⟩
 ·obtain ⟨u,hu,his⟩:=hts i v hi
  rw [hu,his.1 hk]
 ·obtain ⟨id,hid,hbe,_⟩:=orig i ri hri
  rw [hbe]
  exact (hok.mem.blk id ri hid).keep (Nat.le_refl _) (fun _=>rfl) hkp fun v hv id' hid'=>by rw [hflat i ri hri v hv] at hid'; cases hid'
 ·obtain ⟨id,hid,hbe,hcase⟩:=orig i ri hi
  obtain ⟨jd,hjd,hbe2,hcase2⟩:=orig j rj hj
  rw [hbe,hbe2] at hij
  have heq:=hok.mem.inj id jd ri rj hid hjd ho hz hij
  rcases hcase with ⟨h1,h2⟩ | ⟨h1,h2,h3⟩<;>rcases hcase2 with ⟨h4,h5⟩ | ⟨h4,h5,h6⟩
  ·omega
  ·omega
  ·omega
  rw [← heq] at h6
  obtain ⟨p1,q1⟩:=List.getElem?_eq_some_iff.1 h3
  obtain ⟨p2,q2⟩:=List.getElem?_eq_some_iff.1 h6
  have:=(List.getElem_inj hnd).1 (q1.trans q2.symm)
  omega
 ·obtain ⟨id,hid,hbe,_⟩:=orig i ri hri
  rw [hbe]
  exact hok.dirty id ri hid ho
 ·obtain ⟨u,hu,rfl⟩:=List.mem_map.1 hv
  cases hr:reV n keep u with
  | none=>unfold reS; rw [hr]; intro id hid; cases hid
  | some u' =>
    have:=(hup u u' hr).2.1 (hok.ltt u hu)
    unfold reS
    rw [hr]
    exact this
 ·have h1:=hok.pin.2.2 i r hi ho
  have h2:i < C.n0:=row_lt hi
  unfold row? at h1 ⊢
  rw [List.getElem?_append_left (by omega),List.getElem?_take,if_pos (by omega)]
  exact h1
 obtain ⟨u,hu,his⟩:=hts i v hi
 exact ⟨u,hu,his.2⟩
end
def endS (sc:Script) (s:St):Option (St × List Ob):=match look 99999 99998 sc with
 | some (.conv l)=>convS s l
 | _=>some (s,[])
def evF (P:Program) (fn:Func) (sc:Script) (sb:Blocks) (keep:List Nat) (args:List V) (m:Rows):Option (V × Rows × List Ob) :=
 match fn.body with
 | some c=>match ev P sc sb c (start fn args m) with
   | some (.exit _,_,_)=>none
   | some (_,s0,o)=>match endS sc s0 with
     | some (s,oc)=>match (resL P s fn.results.toList).bind shut with
       | some r=>match reV m.length keep r with
         | some r' =>
           match keeps m s.m&&keep.all (fun i=>decide (m.length≤i))&&decide keep.Nodup&&args.all (fun v=>v.there m) with
           | true=>some (r',s.m.take m.length++keep.map (row? s.m),.prop (Flat (s.m.take m.length++keep.map (row? s.m)))::(o++oc))
           | false=>none
         | none=>none
       | none=>none
     | none=>none
   | none=>none
 | none=>none
section
variable {P:Program} {C:Cx} {β:Env} {s:St} {w w0:World} {a:Act}
theorem resV_run {x:ResultVar} {v:V} (h:Ok C β w0 s a w) (hr:resV P s x=some v) :
 (∃ u,v.is β (alw (C.B w0) β s.m) w u∧(match x with
  | .tmp t=>(pure (a.tmps.getD t undef):Sem Value)
  | .cell c t=>do loadVar t (← asAddr (a.tmps.getD c undef))).run P w = .ok u w)∧v.lv s.m:=by
 cases x with
 | tmp t =>
   simp only [resV] at hr
   split at hr
   ·rename_i hk
    simp only [Option.some.injEq] at hr
    subst hr
    have he:=h.is (.tmp t)
    simp only [Act.eval,St.at] at he
    exact ⟨⟨_,he,rfl⟩,at_lv h.ltt (.tmp t)⟩
   cases hr
 | cell c t =>
   simp only [resV] at hr
   split at hr
   ·rename_i id off hu
    have he:=h.tmps.eval (.tmp c) (by simp only [St.at]; rw [hu]; rfl)
    simp only [Act.eval,St.at] at he
    rw [hu] at he
    simp only [he,V.up,asAddr,pure_bind]
    split at hr
    ·rename_i r hm
     have hb:=h.mem.blk id r hm
     have aggc:∀ n,agg? P t=some true→size? P t=some n→((r.cells.drop off).take n).length=n → ∃ us:List Value,isL β (alw (C.B w0) β s.m) w ((r.cells.drop off).take n) us∧(loadVar t ⟨(β id).1,(β id).2+off,none⟩).run P w = .ok (.agg us.toArray) w:=by
      intro n ha hz hq
      obtain ⟨us,h2,h3⟩:=f2_pick (I:=V.is β (alw (C.B w0) β s.m) w) (g:=fun k=>w.cell? ⟨(β id).1,(β id).2+off+k,none⟩) ((r.cells.drop off).take n) 0 fun k v hv=>by
       rw [List.getElem?_take] at hv
       split at hv
       ·rw [List.getElem?_drop] at hv
        obtain ⟨u,hu,hi⟩:=hb.2.1 _ v hv
        exact ⟨u,by rw [Nat.zero_add,Nat.add_assoc]; exact hu,hi⟩
       cases hv
      refine ⟨us,h2,?_⟩
      have hl:=run_loadCells_list (P:=P) w ⟨(β id).1,(β id).2+off,none⟩ us (fun j v hv=>by
       rw [add_at]
       have:=h3 j v hv
       rwa [Nat.zero_add] at this)
      rw [(f2_get h2).1,hq] at hl
      simp [loadVar,sval_run ha,size_run hz,hl]
     split at hr
     ·rename_i n ha hz
      split at hr
      ·rename_i hq
       simp only [Option.some.injEq] at hr
       subst hr
       obtain ⟨us,h2,h3⟩:=aggc n ha hz hq.1
       refine ⟨⟨_,?_,h3⟩,lv_c _ _⟩
       have:∀ {l:List V} {us:List Value},isL β (alw (C.B w0) β s.m) w l us→l.all V.isC=true→l.map V.val=us:=by
        intro l
        induction l with
        | nil=>intro us h _; cases us with
          | nil=>rfl
          | cons _ _=>exact h.elim
        | cons d l ih =>
          intro us h hp
          cases us with
          | nil=>exact h.elim
          | cons u us =>
            rw [List.all_cons,Bool.and_eq_true] at hp
            rw [List.map_cons,ih h.2 hp.2,h.1.1 (known_of hp.1),val_up hp.1]
       rw [this h2 hq.2]
       exact is_c
      split at hr
      ·rename_i l hl
       split at hr
       ·rename_i hln
        simp only [Option.some.injEq] at hr
        subst hr
        have hq:((r.cells.drop off).take n).length=n:=by rw [← toDs_len hl,hln]
        obtain ⟨us,h2,h3⟩:=aggc n ha hz hq
        exact ⟨⟨_,is_mkA (cs:=us.toArray) (repL_of hl h2),h3⟩,lv_noid (mkA_id _)⟩
       cases hr
      cases hr
     ·rename_i ha
      obtain ⟨u,hcell,hi⟩:=hb.2.1 _ _ hr
      exact ⟨⟨u,hi,by simp [loadVar,sval_run ha,hcell]⟩,h.mem.lv id r hm v (List.mem_of_getElem? hr)⟩
     cases hr
    cases hr
   cases hr
theorem resL_run {A:Nat→Prop} {f:ResultVar→Sem Value} (hf:∀ x v,resV P s x=some v → ∃ u,v.is β A w u∧(f x).run P w = .ok u w):∀ {xs:List ResultVar} {l:List V},resL P s xs=some l → ∃ us,isL β A w l us∧(xs.mapM f).run P w = .ok us w
 | [],l,h=>by
   simp only [resL,Option.some.injEq] at h
   subst h
   exact ⟨[],trivial,rfl⟩
 | x::r,l,h=>by
   simp only [resL] at h
   split at h
   ·rename_i v l' hv hl
    simp only [Option.some.injEq] at h
    subst h
    obtain ⟨us,h1,ih⟩:=resL_run hf hl
    obtain ⟨u,hu,hr⟩:=hf x v hv
    exact ⟨u::us,⟨hu,h1⟩,by simp [List.mapM_cons,hr,ih]⟩
   cases h
theorem res_run {A:Nat→Prop} {xs:Array ResultVar} (f:ResultVar→Sem Value) (hf:∀ x v,resV P s x=some v → ∃ u,v.is β A w u∧(f x).run P w = .ok u w) {l:List V} (hl:resL P s xs.toList=some l) {r:V} (hr:shut l=some r) :
 ∃ u,r.is β A w u∧((do let vs ← xs.mapM f; pure (if h:vs.size=1 then vs[0] else .tuple vs)):Sem Value).run P w = .ok u w:=by
 rw [Array.mapM_eq_mapM_toList]
 obtain ⟨us,h1,h2⟩:=resL_run (P:=P) (s:=s) (w:=w) hf hl
 have hlen:=(f2_get h1).1
 refine ⟨if h:us.length=1 then us[0] else .tuple us.toArray,?_,by simp only [Sem.run_bind,Sem.run_map,h2,Result.andThen_ok,Sem.run_pure,List.size_toArray,List.getElem_toArray]⟩
 unfold shut at hr
 split at hr
 ·rename_i v
  cases hr
  match us,h1,hlen with
  | [u],h1,_=>exact h1.1
 ·cases hr
  match us,h1,hlen with
  | [u,y],h1,_ =>
    refine ⟨fun _=>?_,trivial⟩
    rw [dif_neg (by simp),h1.1.1 rfl,h1.2.1.1 rfl]
    rfl
 ·cases hr
  match us,h1,hlen with
  | [u,y],h1,_ =>
    refine ⟨fun _=>?_,trivial⟩
    rw [dif_neg (by simp),h1.1.1 rfl,h1.2.1.1 rfl]
    rfl
 rename_i hne _ _
 have hne1:us.length≠1:=by
  rw [hlen]
  intro h1
  obtain ⟨v,hv⟩:=List.length_eq_one_iff.1 h1
  exact hne v hv
 rw [dif_neg hne1]
 split at hr
 ·rename_i hall
  cases hr
  have:∀ {l:List V} {us:List Value},isL β A w l us→l.all V.isC=true→l.map V.val=us:=by
   intro l
   induction l with
   | nil=>intro us h _; cases us with
     | nil=>rfl
     | cons _ _=>exact h.elim
   | cons d l ih =>
     intro us h hp
     cases us with
     | nil=>exact h.elim
     | cons u us =>
       rw [List.all_cons,Bool.and_eq_true] at hp
       rw [List.map_cons,ih h.2 hp.2,h.1.1 (known_of hp.1),val_up hp.1]
  rw [this h1 hall]
  exact is_c
 split at hr
 ·rename_i ps _ hps
  cases hr
  exact ⟨fun hn=>(by cases hn),us.toArray,rfl,datL_rep hps h1⟩
 cases hr
theorem endS_ok {sc:Script} {s':St} {obs:List Ob} (h:Ok C β w0 s a w) (hc:endS sc s=some (s',obs)) (ho:Holds P obs):∃ β',Ok C β' w0 s' a w:=by
 unfold endS at hc
 split at hc
 ·exact convS_ok h hc ho
 simp only [Option.some.injEq,Prod.mk.injEq] at hc
 obtain ⟨rfl,rfl⟩:=hc
 exact ⟨β,h⟩
theorem fspec_ok {f:FuncId} {fn:Func} {sc:Script} {sb:Blocks} {keep:List Nat} {args:List V} {m m':Rows} {r:V} {obs:List Ob} (hf:P.funcs[f]? = some fn)
 (h:evF P fn sc sb keep args m=some (r,m',obs)) (hh:Holds P obs):FSpec P f args m r m':=by
 intro w β A vals hlaid hapart hmem hargs
 unfold evF at h
 split at h
 case h_2=>cases h
 rename_i c hb
 split at h
 ·cases h
 case h_3=>cases h
 rename_i e s0 o hne hev
 split at h
 case h_2=>cases h
 rename_i s oc hend
 split at h
 case h_2=>cases h
 rename_i r0 hres
 split at h
 case h_2=>cases h
 rename_i r1 hre
 split at h
 case h_2=>cases h
 rename_i hc
 simp only [Option.some.injEq,Prod.mk.injEq] at h
 obtain ⟨rfl,rfl,rfl⟩:=h
 simp only [Bool.and_eq_true,decide_eq_true_eq] at hc
 obtain ⟨⟨⟨hks,hge⟩,hnd⟩,hth⟩:=hc
 obtain ⟨hfl,hh⟩:=hh
 obtain ⟨hho,hhc⟩:=holds_append hh
 rw [Option.bind_eq_some_iff] at hres
 obtain ⟨l,hl,hsh⟩:=hres
 have hlen:=(f2_get hargs).1
 have hsz:vals.toArray.size=args.length:=by simpa using hlen
 have hk0:Keep (alw A β m) (alw (more A β m w) β m) w w:=⟨Nat.le_refl _,fun b _ hb=>⟨⟨.inl hb.1,hb.2⟩,rfl⟩⟩
 have hmem0:Mem β (more A β m w) m w:=⟨fun id r hr=>(hmem.blk id r hr).keep (Nat.le_refl _) (fun _=>rfl) hk0 fun _ _ _ _=>rfl,hmem.inj,hmem.lv⟩
 refine calls_of_wp hf hb (ev_ok (w0:=w) (C:=⟨fun k=>∃ i ri,row? m i=some ri∧ri.own=true∧k=(β i).1,A,m,β⟩) c β (start fn args m) s0 e o _ w _ hev hho ?_ ?_)
 ·have slot : ∀ (i : Nat) (v : V), (start fn args m).t[i]? = some v → ∃ u, (vals.toArray ++ Array.replicate (fn.ntmps - vals.toArray.size) undef)[i]? = some u ∧ v.is β (alw (more A β m w) β m) w u := by
   intro i v hi
   simp only [start] at hi
   by_cases hil:i < args.length
   ·rw [List.getElem?_append_left hil] at hi
    obtain ⟨u,hu,his⟩:=(f2_get hargs).2 i v hi
    refine ⟨u,?_,his.keep hk0 fun _ _=>rfl⟩
    rw [Array.getElem?_append_left (by simpa [hlen] using hil)]
    simpa using hu
   rw [List.getElem?_append_right (by omega)] at hi
   have hv:=List.eq_of_mem_replicate (List.mem_of_getElem? hi)
   have hlt:=(List.getElem?_eq_some_iff.1 hi).1
   simp only [List.length_replicate] at hlt
   refine ⟨undef,?_,by rw [hv]; exact is_c⟩
   rw [Array.getElem?_append_right (by rw [hsz]; omega),hsz,Array.getElem?_replicate,if_pos hlt]
  refine ⟨⟨?_,fun i v hi hk=>?_⟩,rfl,hmem0,fun id r hr ho=>.inr ⟨id,r,hr,ho,rfl⟩,Fr.refl _ _,fun v hv=>?_,⟨fun _ _=>rfl,Nat.le_refl _,fun _ _ h _=>h⟩,⟨hlaid,fun ⟨i,ri,hi,ho,he⟩=>hapart i ri hi ho he.symm⟩,fun i v hi=>?_⟩
  ·simp [start,hlen]
  ·obtain ⟨u,hu,his⟩:=slot i v hi
   rw [hu,his.1 hk]
  ·simp only [start,List.mem_append] at hv
   rcases hv with hv | hv
   ·have:=List.all_eq_true.1 hth v hv
    intro id hid
    unfold V.there at this
    rw [hid] at this
    exact Option.isSome_iff_exists.1 this
   rw [List.eq_of_mem_replicate hv]
   exact lv_c _ _
  obtain ⟨u,hu,his⟩:=slot i v hi
  exact ⟨u,hu,his.2⟩
 intro β0 a' w' hok0
 obtain ⟨β',hok⟩:=endS_ok hok0 hend hhc
 have hresv:=fun x v (hv:resV P s x=some v)=>resV_run (w:=w') hok hv
 obtain ⟨u,hu,hrun⟩:∃ u,r0.is β' (alw (more A β m w) β' s.m) w' u∧(results fn a'.tmps).run P w' = .ok u w':=res_run _ (fun x v hv=>by
  obtain ⟨⟨u,h1,h2⟩,_⟩:=hresv x v hv
  exact ⟨u,h1,by cases x<;>exact h2⟩) hl hsh
 have fin : ∃ (β2 : Env) (y : Value), (∀ i, i < m.length → β2 i = β i) ∧ (∀ i ri, m.length ≤ i → row? (s.m.take m.length ++ keep.map (row? s.m)) i = some ri → ri.own = true → w.heap.size ≤ (β2 i).1) ∧
  Ending.returned u = .returned y∧r1.is β2 (alw (more A β m w) β2 (s.m.take m.length++keep.map (row? s.m))) w' y∧Mem β2 (more A β m w) (s.m.take m.length++keep.map (row? s.m)) w' ∧ Fr (fun k=>∃ i ri,row? m i=some ri∧ri.own=true∧k=(β i).1) w w' ∧ RO m (s.m.take m.length++keep.map (row? s.m)):=by
  have hml:m.length≤s.m.length:=hok.pin.2.1
  obtain ⟨β2,hb1,hup,hok2⟩:=hok.ren (Nat.le_refl _) hml hge hnd hfl
  have hpin:∀ i,i < m.length→β2 i=β i:=fun i hi=>(hb1 i hi).trans (hok.pin.1 i hi)
  refine ⟨β2,u,hpin,fun i ri hi hri ho=>?_,rfl,hup _ _ _ hre hu,hok2.mem,hok2.frame,hok2.pin.2.2⟩
  rcases hok2.dirty i ri hri ho with h1 | ⟨i0,r0',hi0,ho0,heq⟩
  ·exact h1
  exfalso
  obtain ⟨r1',hr1',how1⟩:=keeps_at hks hi0
  have hl0:=row_lt hi0
  rw [← hpin i0 hl0] at heq
  have hr2:row? (s.m.take m.length++keep.map (row? s.m)) i0=some r1':=by
   unfold row? at hr1' ⊢
   rw [List.getElem?_append_left (by simp; omega),List.getElem?_take,if_pos hl0]
   exact hr1'
  have:=hok2.mem.inj i i0 ri r1' hri hr2 ho (.inl (how1.trans ho0)) heq
  omega
 cases e with
 | normal=>exact ⟨hok.defers,_,hrun,fin⟩
 | ret=>exact ⟨hok.defers,_,hrun,fin⟩
 | exit i=>exact (hne _ rfl).elim
end
theorem cspec_of {P:Program} {f:FuncId} {args:Array Value} {r:Value} {m':Rows} (h:FSpec P f (args.toList.map .c) [] (.c r) m'):CSpec P f args r:=by
 intro w hlaid
 have hn:∀ i,row? [] i=none:=fun i=>by simp [row?]
 have h1:=h w (fun _=>⟨0,0,0⟩) (fun _=>True) args.toList hlaid (fun i ri hi=>by simp [row?] at hi) ⟨fun i r hr=>(by rw [hn] at hr; cases hr),fun i j ri rj hi=>(by rw [hn] at hi; cases hi),fun i r hr=>(by rw [hn] at hr; cases hr)⟩ (f2_c _)
 refine h1.mono fun e w' hw=>?_
 obtain ⟨β',u,_,_,rfl,hu,_,hfr,_⟩:=hw
 refine ⟨by rw [hu.1 rfl]; rfl,hfr.os,hfr.tape,hfr.output,hfr.size,fun k hk=>hfr.block k hk ?_⟩
 rintro ⟨i,ri,hi,_⟩
 simp [row?] at hi
theorem fn_ok {P:Program} {f:FuncId} {fn:Func} {sc:Script} {sb:Blocks} {args:Array Value} {r:Value} {obs:List Ob} (hf:P.funcs[f]? = some fn)
 (h:evF P fn sc sb [] (args.toList.map .c) []=some (.c r,[],.prop True::obs)) (hh:Holds P obs):CSpec P f args r:=cspec_of (fspec_ok hf h ⟨trivial,hh⟩)
def getB (id:Nat):Code→Option Code
 | .block i c=>if i=id then some c else getB id c
 | .seq a b=>match getB id a with
   | some c=>some c
   | none=>getB id b
 | .cond _ a b=>match getB id a with
   | some c=>some c
   | none=>getB id b
 | .loop c=>getB id c
 | .scope c=>getB id c
 | _=>none
def loopOf (fn:Func) (id:Nat):Code:=match (fn.body.bind (getB id)) with
 | some (.loop c)=>c
 | _=>.skip
theorem zV {p:Prop} (h:p:=by first
 | (with_reducible rfl)
 | (with_reducible assumption)
 | (simp only [V.c.injEq,Value.bool.injEq,Value.int.injEq,V.p.injEq,V.sl.injEq,decide_eq_true_eq,decide_eq_false_iff_not,true_and,and_true,Int.toNat_natCast,Int.toNat_zero,Nat.mul_one,Nat.zero_mul,Nat.add_zero,Nat.sub_zero,ite_self,IntKind.wrap_i64,beq_iff_eq,beq_eq_false_iff_ne,ne_eq]; first | (with_reducible assumption) | omega | (constructor<;>omega) | (refine ⟨?_,?_,?_⟩<;>omega))
 | omega
 | (simp; done)
 | (simp; omega)
 | (simp_all; done)
 | (simp_all; omega)):p:=h
section
variable {P:Program}
theorem loop_spec {α:Type} {body:Code} {id:Nat} {e:Ex} {s':St} (S:α→St) (μ:α→Nat) (I:α→Prop)
 (h:∀ x,I x→(∃ y,I y∧μ y < μ x∧TSpec P body (S x) .normal (S y))∨(e = .normal∧TSpec P body (S x) (.exit id) s')∨(e = .ret∧TSpec P body (S x) .ret s')) (x:α) (hx:I x):TSpec P (.block id (.loop body)) (S x) e s':=by
 intro C w0 β a w hok
 refine wp_block ?_
 refine wp_loop_ghost (fun n a w=>∃ x β,I x∧μ x=n∧Ok C β w0 (S x) a w) (μ x) ⟨x,β,hx,rfl,hok⟩ ?_
 rintro n a1 w1 ⟨y,β1,hy,rfl,hok1⟩
 rcases h y hy with ⟨z,hz,hlt,ht⟩ | ⟨rfl,ht⟩ | ⟨rfl,ht⟩
 ·refine wp_mono (ht C w0 β1 a1 w1 hok1) fun ex a' w' hh=>?_
  obtain ⟨rfl,β',hok'⟩:=hh
  exact ⟨μ z,hlt,z,β',hz,rfl,hok'⟩
 ·refine wp_mono (ht C w0 β1 a1 w1 hok1) fun ex a' w' hh=>?_
  obtain ⟨rfl,β',hok'⟩:=hh
  simp only [Ex.up,Exit.then,Exit.inBlock,if_true]
  exact ⟨trivial,β',hok'⟩
 refine wp_mono (ht C w0 β1 a1 w1 hok1) fun ex a' w' hh=>?_
 obtain ⟨rfl,β',hok'⟩:=hh
 exact ⟨rfl,β',hok'⟩
theorem loop_specN {α:Type} {n:Nat} {body:Code} {id:Nat} {e:Ex} {s':St} (S:α→St) (μ:α→Nat) (I:α→Prop)
 (h:∀ x,I x→(∃ y,I y∧μ y < μ x∧TSpecN P n body (S x) .normal (S y))∨(e = .normal∧TSpecN P n body (S x) (.exit id) s')∨(e = .ret∧TSpecN P n body (S x) .ret s')) (x:α) (hx:I x):TSpecN P n (.block id (.loop body)) (S x) e s':=by
 intro C w0 β a w hn hok
 refine wp_block ?_
 refine wp_loop_ghost (fun n a w=>∃ x β,I x∧μ x=n∧Ok C β w0 (S x) a w) (μ x) ⟨x,β,hx,rfl,hok⟩ ?_
 rintro n a1 w1 ⟨y,β1,hy,rfl,hok1⟩
 rcases h y hy with ⟨z,hz,hlt,ht⟩ | ⟨rfl,ht⟩ | ⟨rfl,ht⟩
 ·refine wp_mono (ht C w0 β1 a1 w1 hn hok1) fun ex a' w' hh=>?_
  obtain ⟨rfl,β',hok'⟩:=hh
  exact ⟨μ z,hlt,z,β',hz,rfl,hok'⟩
 ·refine wp_mono (ht C w0 β1 a1 w1 hn hok1) fun ex a' w' hh=>?_
  obtain ⟨rfl,β',hok'⟩:=hh
  simp only [Ex.up,Exit.then,Exit.inBlock,if_true]
  exact ⟨trivial,β',hok'⟩
 refine wp_mono (ht C w0 β1 a1 w1 hn hok1) fun ex a' w' hh=>?_
 obtain ⟨rfl,β',hok'⟩:=hh
 exact ⟨rfl,β',hok'⟩
end
end Go.Proofs.YtmkgijiniopalaaDoor.U
