import Derived.Test.YtmkgijiniopalaaDoorYU1
namespace Go.Proofs.YtmkgijiniopalaaDoor.U
open Go.RowKit
set_option linter.unusedSimpArgs false
set_option linter.unusedVariables false
abbrev Script:=List (Nat × Nat × Ans)
def look (rid i:Nat):Script→Option Ans
 | []=>none
 | (r,j,v)::l=>if r==rid&&j==i then some v else look rid i l
inductive Kf where
 | no
 | put (id off:Nat) (vs:List V)
 | new (id:Nat) (cells:List V)
 | app (kill:Option Nat) (id:Nat) (cells:List V)
structure Ef where
 d:Option Tmp
 v:V
 k:Kf
def Ef.app (e:Ef) (s:St):St:=⟨(s.put e.d e.v).t,match e.k with
 | .no=>s.m
 | .put id off vs=>s.m.set id ((row? s.m id).map fun r=>⟨r.own,splice r.cells off vs⟩)
 | .new id cells=>s.m.set id (some ⟨true,cells⟩)
 | .app kill id cells=>(unrow s.m kill).set id (some ⟨true,cells⟩)⟩
def toEf (d:Option Tmp) (id:Nat):Eff→Ef
 | .val v=>⟨d,v,.no⟩
 | .new cells _ rf=>⟨d,rf id,.new id cells⟩
 | .put i off vs=>⟨d,.c undef,.put i off vs⟩
 | .all _ v=>⟨d,v,.no⟩
 | .app kill cells rf=>⟨d,rf id,.app kill id cells⟩
def V.ids (v:V):List Nat:=v.id?.toList
structure Ft where
 e:Ef
 rs:List Tmp
 ms:List Nat
 tc:List Nat
def opTmps (o:Oper):List Tmp:=o.op.operands.toList.filterMap fun | .tmp t=>some t | _=>none
def opIds (s:St) (o:Oper):List Nat:=o.op.operands.toList.flatMap fun x=>(s.at x).ids
def Ef.wr (e:Ef):Option Nat:=match e.k with
 | .put id _ _=>some id
 | .app kill _ _=>kill
 | _=>none
def Ef.cr (e:Ef):Option Nat:=match e.k with
 | .new id _=>some id
 | .app _ id _=>some id
 | _=>none
def resIds:Eff→List Nat
 | .val v=>v.ids
 | _=>[]
def hit (x:Option Nat) (l:List Nat):Bool:=match x with
 | some d=>l.contains d
 | none=>false
def hitO (x y:Option Nat):Bool:=match x,y with
 | some a,some b=>a==b
 | _,_=>false
def clash (x y:Ft):Bool:=hit x.e.d y.rs||hit y.e.d x.rs||hitO x.e.d y.e.d||hit x.e.wr y.tc||hit y.e.wr x.tc||hit x.e.cr y.ms||hit y.e.cr x.ms||hitO x.e.cr y.e.cr
def bump (e:Eff) (n:Nat):Nat:=match e with
 | .new ..=>n+1
 | .app ..=>n+1
 | _=>n
def calm:Option Ans→Bool
 | some (.call ..)=>false
 | some (.sub ..)=>false
 | _=>true
def want? (ops:Array Oper) (s:St) (o:Oper):Option Bool :=
 match o.guard with
 | none=>some true
 | some (g,b)=>match (ops[g]?).bind (·.dst) with
   | some d=>match s.t[d]? with
     | some (.c (.bool x))=>some (x==b)
     | some (.c (.tuple _))=>some false
     | _=>none
   | none=>none
def gTmps (ops:Array Oper) (o:Oper):List Tmp:=match o.guard with
 | some (g,_)=>((ops[g]?).bind (·.dst)).toList
 | none=>[]
def offFt (ops:Array Oper) (o:Oper):Ft:=⟨⟨o.dst,.c undef,.no⟩,gTmps ops o,[],[]⟩
def dOps (P:Program) (sc:Script) (rid:Nat) (ops:Array Oper):List Oper→Nat→Nat→St→Option (St × List Ft × List Ob)
 | [],_,_,s=>some (s,[],[])
 | o::r,i,n,s=>match want? ops s o with
   | some true=>if calm (look rid i sc)=true then match eff P s o (look rid i sc) with
     | some (e,o1)=>match dOps P sc rid ops r (i+1) (bump e n) ((toEf o.dst n e).app s) with
       | some (s',fs,o2)=>some (s',⟨toEf o.dst n e,gTmps ops o++opTmps o,opIds s o++resIds e,touch s o⟩::fs,o1++o2)
       | none=>none
     | none=>none
     else none
   | some false=>match dOps P sc rid ops r (i+1) n ((offFt ops o).e.app s) with
     | some (s',fs,o2)=>some (s',offFt ops o::fs,o2)
     | none=>none
   | none=>none
section
variable {P:Program} {C:Cx} {β:Env} {s:St} {o:Oper} {w w0:World} {a:Act} {Q:Exit→Act→World→Prop}
theorem row_set_new {m:Rows} {n:Nat} (hn:n < m.length) {R:Row}:row? (m.set n (some R)) n=some R:=by
 unfold row?
 rw [List.getElem?_set_self hn]
 rfl
theorem row_set_keep {m:Rows} {n i:Nat} {x:Option Row} (hi:i≠n):row? (m.set n x) i=row? m i:=by
 unfold row?
 rw [List.getElem?_set_ne (Ne.symm hi)]
theorem stepE_ok {ans:Option Ans} {e:Eff} {obs:List Ob} {n:Nat} {K:Act→World→Prop} (h:Ok C β w0 s a w) (he:eff P s o ans=some (e,obs)) (ho:Holds P obs)
 (hn:∀ cells t rf,e = .new cells t rf→row? s.m n=none∧n < s.m.length∧C.n0≤n) (hn':∀ kill cells rf,e = .app kill cells rf→row? s.m n=none∧n < s.m.length∧C.n0≤n) (hall:∀ m v,e ≠ .all m v)
 (hk:∀ β' a' w',Ok C β' w0 ((toEf o.dst n e).app s) a' w' → K a' w'):o.wp P a w K Q:=by
 have hι:∀ x∈o.op.operands,(s.at x).is β (alw (C.B w0) β s.m) w (a.eval x):=fun x _=>h.is x
 cases e with
 | val v =>
   refine step_ok h he ho fun β' a' w' hok=>hk β' a' w' ?_
   have:(toEf o.dst n (.val v)).app s=stepSt s o.dst (.val v):=by
    simp only [toEf,Ef.app,stepSt]
    cases o.dst<;>rfl
   rw [this]
   exact hok
 | put id off vs =>
   refine step_ok h he ho fun β' a' w' hok=>hk β' a' w' ?_
   have:(toEf o.dst n (.put id off vs)).app s=stepSt s o.dst (.put id off vs):=rfl
   rw [this]
   exact hok
 | all m v=>exact absurd rfl (hall m v)
 | app kill cells rf =>
   unfold Oper.wp
   obtain ⟨ans,obs,he,ho⟩:=eff_cases he ho
   obtain ⟨hn1,hn2,hn3⟩:=hn' kill cells rf rfl
   obtain ⟨hC,hrf,hkl,x,w',hr,hW,hx,hF⟩:=eff_app_sound (w:=w) he ho hι (fun id r hi _=>h.mem.blk id r hi)
   obtain ⟨β',hβ,hself⟩:∃ β':Env,(∀ i,i≠n→β' i=β i)∧β' n=x :=
    ⟨fun i=>if i=n then x else β i,fun i hi=>by simp only; rw [if_neg hi],by simp⟩
   obtain ⟨u,hr,hu⟩:=hr β' n hself
   rw [hr]
   have nd:∀ i r,row? s.m i=some r→i≠n:=fun i r hi hh=>by rw [hh,hn1] at hi; cases hi
   refine hk β' _ _ (h.app hC (hrf _) hu (fun k hk=>(hkl k hk).2) hn1 hn3 ?_ ?_ (row_set_new (by rw [unrow_len]; exact hn2)) ?_ ?_ hβ hself hW hx hF)
   ·have:=h.pin.2.1
    simp only [toEf,Ef.app,List.length_set,unrow_len]
    exact this
   ·intro i r hi
    rcases row_set hi with ⟨hne,hi⟩ | ⟨h1,h2⟩
    ·rcases row_unrow hi with ⟨h1,h2⟩ | ⟨h1,h2⟩
     ·exact .inr (.inl ⟨hne,h1,h2⟩)
     exact .inr (.inr ⟨hne,h1,h2⟩)
    cases h2
    exact .inl ⟨h1,rfl⟩
   ·intro i r hi hki
    show row? ((unrow s.m kill).set n _) i=_
    rw [row_set_keep (nd i r hi)]
    exact unrow_old hi hki
   rintro k rfl
   obtain ⟨_,r,hrk,_⟩:=hkl k rfl
   exact ⟨_,(row_set_keep (nd k r hrk)).trans (unrow_dead hrk)⟩
 | new cells t rf =>
   unfold Oper.wp
   obtain ⟨ans,obs,he,ho⟩:=eff_cases he ho
   obtain ⟨hn1,hn2,hn3⟩:=hn cells t rf rfl
   obtain ⟨_,⟨us,hus,hr⟩,hrf,hl⟩:=eff_new_sound (w:=w) he ho hι
   have hlc:=hl s.m (fun x _=>at_lv h.ltt x)
   have nd:∀ i r,row? s.m i=some r→i≠n:=fun i r hi hh=>by rw [hh,hn1] at hi; cases hi
   obtain ⟨β',hβ,hself⟩:∃ β':Env,(∀ i,i≠n→β' i=β i)∧β' n=⟨w.heap.size,0,0⟩ :=
    ⟨fun i=>if i=n then ⟨w.heap.size,0,0⟩ else β i,fun i hi=>by simp only; rw [if_neg hi],by simp⟩
   have same:∀ v:V,v.lv s.m → ∀ id,v.id? = some id→β' id=β id:=fun v hv id hid=>by
    obtain ⟨r,hr⟩:=hv id hid
    exact hβ id (nd id r hr)
   have lvn:∀ v:V,v.lv s.m→v.lv (s.m.set n (some ⟨true,cells⟩)):=fun v hv id hid=>by
    obtain ⟨r,hr⟩:=hv id hid
    exact ⟨r,by rw [row_set_keep (nd id r hr)]; exact hr⟩
   rw [hr β' n hself]
   show K (a.put o.dst _) _
   have hbel:Below w.heap.size w (w.alloc (.cells us.toArray t (0,0))):=(Below.refl _ _).alloc (Nat.le_refl _) _
   have cases_:∀ i r,row? (s.m.set n (some ⟨true,cells⟩)) i=some r→(i≠n∧row? s.m i=some r)∨(i=n∧r=⟨true,cells⟩):=fun i r hi=>by
    rcases row_set hi with hh | ⟨h1,h2⟩
    ·exact .inl hh
    cases h2
    exact .inr ⟨h1,rfl⟩
   have hkp:Keep (alw (C.B w0) β s.m) (alw (C.B w0) β' (s.m.set n (some ⟨true,cells⟩))) w (w.alloc (.cells us.toArray t (0,0))):=by
    refine ⟨hbel.size,fun b hb hA=>⟨⟨hA.1,fun i r hi ho=>?_⟩,hbel.block b hb⟩⟩
    rcases cases_ i r hi with ⟨hne,hi⟩ | ⟨rfl,_⟩
    ·rw [hβ i hne]; exact hA.2 i r hi ho
    rw [hself]; exact Nat.ne_of_gt hb
   refine hk β' _ _ ⟨?_,(put_defers _).trans h.defers,?_,?_,?_,?_,⟨fun i hi=>(hβ i (by omega)).trans (h.pin.1 i hi),(by simp only [toEf,Ef.app,List.length_set]; exact ⟨h.pin.2.1,fun i r hi ho=>by
    have h1:=h.pin.2.2 i r hi ho
    rw [row_set_keep (nd i r h1)]
    exact h1⟩)⟩,h.laid,h.dats hkp same (is_up (hrf _).2).2⟩
   ·have h1:Tm β' s.t a.tmps:=⟨h.tmps.size,fun i v hi hk=>by rw [h.tmps.get i v hi hk,up_same (same v (h.ltt v (List.mem_of_getElem? hi)))]⟩
    exact h1.put _ fun _=>rfl
   ·simp only [toEf,Ef.app]
    refine ⟨fun id r hr=>?_,fun i j ri rj hi hj ho hz hij=>?_,fun id r hr v hv=>?_⟩
    ·rcases cases_ id r hr with ⟨hne,hr⟩ | ⟨h1,h2⟩
     ·rw [hβ id hne]
      exact (h.mem.blk id r hr).keep hbel.size (fun _=>hbel.block _ (h.mem.blk id r hr).1) hkp fun v hv=>same v (h.mem.lv id r hr v hv)
     subst h1
     subst h2
     rw [hself]
     refine ⟨by simp [World.alloc_eq],fun k v hk=>?_,fun _=>⟨us.toArray,t,Array.getElem?_push_size,Nat.zero_le _⟩⟩
     have hh:(w.alloc (.cells us.toArray t (0,0))).heap[w.heap.size]? = some (.cells us.toArray t (0,0)):=Array.getElem?_push_size
     have hk':cells[k]? = some v:=hk
     obtain ⟨u,hu,hi⟩:=(f2_get hus).2 k v hk'
     have h0:0+k=k:=Nat.zero_add k
     refine ⟨u,?_,hi.keep hkp (same v (hlc v (List.mem_of_getElem? hk')))⟩
     simp only [World.cell?,hh,Option.isSome_none,Bool.false_eq_true,if_false,h0,List.getElem?_toArray,hu]
    ·have blt:∀ i r,row? s.m i=some r→(β i).1 < w.heap.size:=fun i r hr=>(h.mem.blk i r hr).1
     rcases cases_ i ri hi with ⟨h1,hi⟩ | ⟨h1,_⟩
     ·rcases cases_ j rj hj with ⟨h2,hj⟩ | ⟨h2,_⟩
      ·rw [hβ i h1,hβ j h2] at hij
       exact h.mem.inj i j ri rj hi hj ho hz hij
      rw [hβ i h1,h2,hself] at hij
      dsimp only at hij
      have:=blt i ri hi
      omega
     rcases cases_ j rj hj with ⟨h2,hj⟩ | ⟨h2,_⟩
     ·rw [hβ j h2,h1,hself] at hij
      dsimp only at hij
      have:=blt j rj hj
      omega
     rw [h1,h2]
    rcases cases_ id r hr with ⟨hne,hr⟩ | ⟨h1,h2⟩
    ·exact lvn v (h.mem.lv id r hr v hv)
    subst h2
    exact lvn v (hlc v hv)
   ·intro id r hr ho'
    simp only [toEf,Ef.app] at hr
    rcases cases_ id r hr with ⟨hne,hr⟩ | ⟨h1,h2⟩
    ·rw [hβ id hne]
     exact h.dirty id r hr ho'
    rw [h1,hself]
    exact .inl h.frame.size
   ·exact h.frame.trans (Fr.of_below (D:=fun _=>False) hbel) (fun _ _ h=>h.elim)
   simp only [toEf,Ef.app]
   intro u hu
   rcases put_mem hu with hu | rfl
   ·exact lvn u (h.ltt u hu)
   intro id hid
   rw [(hrf n).1] at hid
   cases hid
   exact ⟨⟨true,cells⟩,row_set_new hn2⟩
end
section
variable {P:Program} {s s':St} {o:Oper}
def foldE (p:Nat→Bool):Nat→List Ft→St→St
 | _,[],s=>s
 | i,f::r,s=>foldE p (i+1) r (if p i=true then f.e.app s else s)
def Ft.wrs (f:Ft) (id:Nat):Bool:=hitO f.e.wr (some id)||hitO f.e.cr (some id)
theorem app_t_ne {e:Ef} {t:Tmp} (h:e.d≠some t):(e.app s).t[t]? = s.t[t]?:=by
 cases hd:e.d with
 | none=>simp [Ef.app,St.put,hd]
 | some d =>
   have:d≠t:=fun hh=>h (by rw [hd,hh])
   simp [Ef.app,St.put,hd,List.getElem?_set_ne this]
theorem app_t_eq {e:Ef} {t:Tmp} (h:e.d=some t):(e.app s).t[t]? = s.t[t]?.map fun _=>e.v:=by
 simp only [Ef.app,St.put,h]
 by_cases hl:t < s.t.length
 ·simp [List.getElem?_set_self hl,List.getElem?_eq_getElem hl]
 have hl':s.t.length≤t:=Nat.le_of_not_lt hl
 rw [List.getElem?_eq_none (by simpa using hl'),List.getElem?_eq_none hl']; rfl
theorem app_m_ne {f:Ft} {id:Nat} (h:f.wrs id=false):(f.e.app s).m[id]? = s.m[id]?:=by
 unfold Ft.wrs Ef.wr Ef.cr at h
 unfold Ef.app
 cases hk:f.e.k with
 | no=>rfl
 | put i off vs =>
   rw [hk] at h
   have:i≠id:=fun hh=>by simp [hitO,hh] at h
   simp [List.getElem?_set_ne this]
 | new i cs =>
   rw [hk] at h
   have:i≠id:=fun hh=>by simp [hitO,hh] at h
   simp [List.getElem?_set_ne this]
 | app kill i cs =>
   rw [hk] at h
   simp only [Bool.or_eq_false_iff] at h
   have h1:i≠id:=fun hh=>by simp [hitO,hh] at h
   simp only [List.getElem?_set_ne h1]
   cases kill with
   | none=>rfl
   | some k =>
     have h2:k≠id:=fun hh=>by simp [hitO,hh] at h
     simp only [unrow,List.getElem?_set_ne h2]
theorem unrow_congr {m m':Rows} {kill:Option Nat} {id:Nat} (h:m[id]? = m'[id]?):(unrow m kill)[id]? = (unrow m' kill)[id]?:=by
 cases kill with
 | none=>exact h
 | some k =>
   unfold unrow
   by_cases hi:k=id
   ·subst hi
    have hrow:row? m k=row? m' k:=by simp only [row?,h]
    rw [List.getElem?_set,List.getElem?_set,hrow]
    simp only [if_true]
    have hl:k < m.length↔k < m'.length:=by
     constructor
     ·intro hh
      have:m'[k]? ≠ none:=by rw [← h,List.getElem?_eq_getElem hh]; simp
      exact (List.getElem?_eq_some_iff.1 (Option.ne_none_iff_exists'.1 this).choose_spec).1
     intro hh
     have:m[k]? ≠ none:=by rw [h,List.getElem?_eq_getElem hh]; simp
     exact (List.getElem?_eq_some_iff.1 (Option.ne_none_iff_exists'.1 this).choose_spec).1
    by_cases hh:k < m.length
    ·rw [if_pos hh,if_pos (hl.1 hh)]
    rw [if_neg hh,if_neg (fun g=>hh (hl.2 g))]
   rw [List.getElem?_set_ne hi,List.getElem?_set_ne hi,h]
theorem app_m_congr {f:Ft} {id:Nat} (h:s.m[id]? = s'.m[id]?):(f.e.app s).m[id]? = (f.e.app s').m[id]?:=by
 have hl:id < s.m.length↔id < s'.m.length:=by
  constructor
  ·intro hh
   have:s'.m[id]? ≠ none:=by rw [← h,List.getElem?_eq_getElem hh]; simp
   exact (List.getElem?_eq_some_iff.1 (Option.ne_none_iff_exists'.1 this).choose_spec).1
  intro hh
  have:s.m[id]? ≠ none:=by rw [h,List.getElem?_eq_getElem hh]; simp
  exact (List.getElem?_eq_some_iff.1 (Option.ne_none_iff_exists'.1 this).choose_spec).1
 unfold Ef.app
 cases hk:f.e.k with
 | no=>exact h
 | put i off vs =>
   by_cases hi:i=id
   ·subst hi
    have hrow:row? s.m i=row? s'.m i:=by simp only [row?,h]
    simp only [hrow]
    by_cases hh:i < s.m.length
    ·rw [List.getElem?_set_self hh,List.getElem?_set_self (hl.1 hh)]
    rw [List.getElem?_eq_none (by simp; omega),List.getElem?_eq_none (by simp; rw [hl] at hh; omega)]
   simp [List.getElem?_set_ne hi,h]
 | new i cs =>
   by_cases hi:i=id
   ·subst hi
    by_cases hh:i < s.m.length
    ·simp only [List.getElem?_set_self hh,List.getElem?_set_self (hl.1 hh)]
    rw [List.getElem?_eq_none (by simp; omega),List.getElem?_eq_none (by simp; rw [hl] at hh; omega)]
   simp [List.getElem?_set_ne hi,h]
 | app kill i cs =>
   by_cases hi:i=id
   ·subst hi
    by_cases hh:i < s.m.length
    ·simp only [List.getElem?_set_self (show i < (unrow s.m kill).length by rw [unrow_len]; exact hh),List.getElem?_set_self (show i < (unrow s'.m kill).length by rw [unrow_len]; exact hl.1 hh)]
    rw [List.getElem?_eq_none (by simp [unrow_len]; omega),List.getElem?_eq_none (by simp [unrow_len]; rw [hl] at hh; omega)]
   simp only [List.getElem?_set_ne hi]
   exact unrow_congr h
theorem fold_t {t:Tmp} {p q:Nat→Bool}:∀ (fs:List Ft) (i:Nat) (s s':St),s.t[t]? = s'.t[t]? → (∀ j f,fs[j]? = some f→f.e.d=some t→p (i+j)=q (i+j)) →
 (foldE p i fs s).t[t]? = (foldE q i fs s').t[t]?
 | [],_,_,_,h,_=>h
 | f::r,i,s,s',h,hpq=>by
   simp only [foldE]
   refine fold_t r (i+1) _ _ ?_ (fun j f' hf hd=>by have:=hpq (j+1) f' (by simpa using hf) hd; rwa [show i+(j+1)=i+1+j by omega] at this)
   by_cases hd:f.e.d=some t
   ·have:=hpq 0 f rfl hd
    rw [Nat.add_zero] at this
    rw [this]
    split
    ·rw [app_t_eq hd,app_t_eq hd,h]
    exact h
   split<;>split<;>simp only [app_t_ne hd,h]
theorem fold_m {id:Nat} {p q:Nat→Bool}:∀ (fs:List Ft) (i:Nat) (s s':St),s.m[id]? = s'.m[id]? → (∀ j f,fs[j]? = some f→f.wrs id=true→p (i+j)=q (i+j)) →
 (foldE p i fs s).m[id]? = (foldE q i fs s').m[id]?
 | [],_,_,_,h,_=>h
 | f::r,i,s,s',h,hpq=>by
   simp only [foldE]
   refine fold_m r (i+1) _ _ ?_ (fun j f' hf hd=>by have:=hpq (j+1) f' (by simpa using hf) hd; rwa [show i+(j+1)=i+1+j by omega] at this)
   cases hd:f.wrs id with
   | true =>
     have:=hpq 0 f rfl hd
     rw [Nat.add_zero] at this
     rw [this]
     split
     ·exact app_m_congr h
     exact h
   | false=>split<;>split<;>simp only [app_m_ne hd,h]
theorem app_comm {f g:Ft} (hd:hitO f.e.d g.e.d=false) (hw:∀ id,f.wrs id=true→g.wrs id=false) (s:St):f.e.app (g.e.app s)=g.e.app (f.e.app s):=by
 have ht:∀ t:Nat,(f.e.app (g.e.app s)).t[t]? = (g.e.app (f.e.app s)).t[t]?:=by
  intro t
  by_cases h1:f.e.d=some t
  ·have h2:g.e.d≠some t:=fun hh=>by rw [h1,hh] at hd; simp [hitO] at hd
   rw [app_t_eq h1,app_t_ne h2,app_t_ne h2,app_t_eq h1]
  by_cases h2:g.e.d=some t
  ·rw [app_t_ne h1,app_t_eq h2,app_t_eq h2,app_t_ne h1]
  rw [app_t_ne h1,app_t_ne h2,app_t_ne h2,app_t_ne h1]
 have hm:∀ id:Nat,(f.e.app (g.e.app s)).m[id]? = (g.e.app (f.e.app s)).m[id]?:=by
  intro id
  cases h1:f.wrs id with
  | true =>
    have h2:=hw id h1
    rw [app_m_ne h2]
    exact app_m_congr (app_m_ne h2)
  | false =>
    rw [app_m_ne h1]
    exact app_m_congr (app_m_ne h1).symm
 have e1:(f.e.app (g.e.app s)).t=(g.e.app (f.e.app s)).t:=List.ext_getElem? ht
 have e2:(f.e.app (g.e.app s)).m=(g.e.app (f.e.app s)).m:=List.ext_getElem? hm
 calc f.e.app (g.e.app s)=⟨(f.e.app (g.e.app s)).t,(f.e.app (g.e.app s)).m⟩:=rfl
  _=⟨(g.e.app (f.e.app s)).t,(g.e.app (f.e.app s)).m⟩:=by rw [e1,e2]
  _=g.e.app (f.e.app s):=rfl
def upd (p:Nat→Bool) (k:Nat):Nat→Bool:=fun j=>if j=k then true else p j
theorem fold_pull {f:Ft} {p:Nat→Bool}:∀ (r:List Ft) (i:Nat) (s:St),(∀ j g,r[j]? = some g→p (i+j)=true→hitO f.e.d g.e.d=false ∧ ∀ id,f.wrs id=true→g.wrs id=false) →
 foldE p i r (f.e.app s)=f.e.app (foldE p i r s)
 | [],_,_,_=>rfl
 | g::r,i,s,h=>by
   simp only [foldE]
   have ih:=fun s=>fold_pull (f:=f) (p:=p) r (i+1) s (fun j g' hg hp=>h (j+1) g' (by simpa using hg) (by rwa [show i+(j+1)=i+1+j by omega]))
   split
   ·rename_i hp
    obtain ⟨h1,h2⟩:=h 0 g rfl hp
    rw [← app_comm h1 h2,ih]
   exact ih s
theorem fold_congr {p q:Nat→Bool}:∀ (r:List Ft) (i:Nat) (s:St),(∀ j,i≤j→j < i+r.length→p j=q j)→foldE p i r s=foldE q i r s
 | [],_,_,_=>rfl
 | g::r,i,s,h=>by
   simp only [foldE]
   rw [h i (Nat.le_refl _) (by simp),fold_congr r (i+1) _ (fun j h1 h2=>h j (by omega) (by simp only [List.length_cons]; omega))]
theorem fold_upd {p:Nat→Bool} {k:Nat} {f:Ft} (hp:p k=false):∀ (fs:List Ft) (i:Nat) (s:St),i≤k→fs[k - i]? = some f →
 (∀ j g,fs[j]? = some g→k < i+j→p (i+j)=true→hitO f.e.d g.e.d=false ∧ ∀ id,f.wrs id=true→g.wrs id=false) →
 foldE (upd p k) i fs s=f.e.app (foldE p i fs s)
 | [],i,s,hi,hf,_=>by simp at hf
 | g::r,i,s,hi,hf,h=>by
   simp only [foldE]
   by_cases hik:i=k
   ·subst hik
    simp only [Nat.sub_self,List.getElem?_cons_zero,Option.some.injEq] at hf
    subst hf
    have hc:∀ s,foldE (upd p i) (i+1) r s=foldE p (i+1) r s:=fun s=>fold_congr r (i+1) s (fun j h1 _=>by simp only [upd]; rw [if_neg (by omega)])
    have hu:upd p i i=true:=by simp [upd]
    rw [if_pos hu,hp]
    simp only [Bool.false_eq_true,if_false]
    rw [hc,fold_pull r (i+1) s (fun j g' hg hp'=>h (j+1) g' (by simpa using hg) (by omega) (by rwa [show i+(j+1)=i+1+j by omega]))]
   have hu:upd p k i=p i:=by simp [upd,hik]
   rw [hu]
   refine fold_upd hp r (i+1) _ (by omega) ?_ (fun j g' hg h1 h2=>h (j+1) g' (by simpa using hg) (by omega) (by rwa [show i+(j+1)=i+1+j by omega]))
   rw [show k - i=(k - (i+1))+1 by omega] at hf
   simpa using hf
end
section
variable {P:Program} {s s':St} {o:Oper} {fix:Option Ans}
theorem all_same {α:Type} {p q:α→Bool}:∀ {l:List α},(∀ x∈l,p x=q x)→l.all p=l.all q
 | [],_=>rfl
 | x::r,h=>by
   rw [List.all_cons,List.all_cons,h x List.mem_cons_self,all_same fun y hy=>h y (List.mem_cons_of_mem _ hy)]
theorem effPure_congr (h:∀ x∈o.op.operands,s'.at x=s.at x):effPure P s' o fix=effPure P s o fix:=by
 by_cases hs:∃ cs b,o.op = .select cs b
 ·obtain ⟨cs,b,hop⟩:=hs
  simp only [effPure,hop]
 have hr:execOp s'.rho o=execOp s.rho o:=execOp_congr o (fun cs b hh=>hs ⟨cs,b,hh⟩) fun x hx=>by simp only [St.rho,h x hx]
 have hc:(o.op.operands.toList.all fun x=>(s'.at x).isC)=(o.op.operands.toList.all fun x=>(s.at x).isC):=all_same fun x hx=>by rw [h x (Array.mem_toList_iff.1 hx)]
 have he:eqAgg P s'.rho o=eqAgg P s.rho o:=by
  unfold eqAgg
  cases hop:o.op with
  | binOp op t x y yt =>
    have h1:s'.rho x=s.rho x:=by simp only [St.rho,h x (by rw [hop]; simp [Op.operands])]
    have h2:s'.rho y=s.rho y:=by simp only [St.rho,h y (by rw [hop]; simp [Op.operands])]
    simp only [h1,h2]
  | _=>rfl
 unfold effPure
 rw [hr,hc,he]
theorem ro_congr {m m':Rows} {al:List V} (h:∀ id,id∈al.filterMap V.id? → row? m' id=row? m id):roM m' (ids al)=roM m (ids al)∧readOk m' al=readOk m al ∧ ∀ g r,readOb P g al m' r=readOb P g al m r:=by
 have e:roM m' (ids al)=roM m (ids al):=List.map_congr_left fun id hid=>by rw [h id (mem_dd.1 hid)]
 refine ⟨e,?_,fun g r=>by unfold readOb; rw [e]⟩
 unfold readOk
 rw [all_same (p:=fun id=>(row? m' id).isSome) (q:=fun id=>(row? m id).isSome) fun id hid=>by rw [h id (mem_dd.1 hid)]]
theorem eff0_congr (hc:calm fix=true) (h:∀ x∈o.op.operands,s'.at x=s.at x) (hm:∀ id,id∈touch s o→s'.m[id]? = s.m[id]?):eff0 P s' o fix=eff0 P s o fix:=by
 have hp:=effPure_congr (P:=P) (fix:=fix) h
 have hrow:∀ id,id∈touch s o→row? s'.m id=row? s.m id:=fun id hid=>by simp only [row?,hm id hid]
 unfold eff0
 split
 case h_1 x hop=>rw [h x (by rw [hop]; simp [Op.operands])]
 case h_2 x hop=>rw [h x (by rw [hop]; simp [Op.operands])]
 case h_3 x hop=>rw [h x (by rw [hop]; simp [Op.operands]),hp]
 case h_4 t x f hop=>rw [h x (by rw [hop]; simp [Op.operands])]
 case h_5 t x i hop=>rw [h x (by rw [hop]; simp [Op.operands]),h i (by rw [hop]; simp [Op.operands]),hp]
 case h_6 t x hop =>
  rw [h x (by rw [hop]; simp [Op.operands])]
  cases hx:s.at x with
  | p id off=>simp only; rw [hrow id (by simp [touch,hop,hx])]
  | c v=>cases v with
    | pointer o=>cases o<;>rfl
    | _=>rfl
  | _=>rfl
 case h_7 t x y hop =>
  rw [h x (by rw [hop]; simp [Op.operands]),h y (by rw [hop]; simp [Op.operands])]
  cases hx:s.at x with
  | p id off=>simp only; rw [hrow id (by simp [touch,hop,hx])]
  | _=>rfl
 case h_8 t hop=>rfl
 case h_9 t x hop=>rw [h x (by rw [hop]; simp [Op.operands])]
 case h_10 t x y hop=>rw [h x (by rw [hop]; simp [Op.operands]),h y (by rw [hop]; simp [Op.operands])]
 case h_11 t x lo hi hop =>
  rw [h x (by rw [hop]; simp [Op.operands]),hp]
  cases lo with
  | none=>cases hi with
    | none=>rfl
    | some b=>simp only; rw [h b (by rw [hop]; simp [Op.operands])]
  | some a=>cases hi with
    | none=>simp only; rw [h a (by rw [hop]; simp [Op.operands])]
    | some b=>simp only; rw [h a (by rw [hop]; simp [Op.operands]),h b (by rw [hop]; simp [Op.operands])]
 case h_12 t u x hop =>
  rw [h x (by rw [hop]; simp [Op.operands]),hp]
  cases hx:s.at x with
  | sl id off len cap=>simp only; rw [hrow id (by simp [touch,hop,hx])]
  | gr id len sz=>simp only; rw [hrow id (by simp [touch,hop,hx])]
  | _=>rfl
 case h_13 c hop =>
  have ha:∀ x∈c.args,s'.at x=s.at x:=fun x hx=>h x (by rw [hop]; simp [Op.operands,Call.operands,hx])
  have hc3:c.args.toList.map s'.at=c.args.toList.map s.at:=List.map_congr_left fun x hx=>ha x (Array.mem_toList_iff.1 hx)
  cases hcc:c.callee with
  | value f =>
    simp only
    have hf:=h f (by rw [hop]; simp [Op.operands,Call.operands,hcc])
    have hc1:(c.args.toList.all fun x=>(s'.at x).isC)=(c.args.toList.all fun x=>(s.at x).isC):=all_same fun x hx=>by rw [ha x (Array.mem_toList_iff.1 hx)]
    have hc2:c.args.map s'.rho=c.args.map s.rho:=Array.map_congr_left fun x hx=>by simp only [St.rho,ha x hx]
    rw [hf,hc1,hc2,hp]
    cases fix with
    | none=>rfl
    | some u=>cases u with
      | fix v=>rfl
      | is v=>rfl
      | call r m=>cases hc
      | sub c pl r m=>cases hc
      | eqs=>rfl
      | mask b=>rfl
      | app=>rfl
      | maskN b=>rfl
      | conv l=>rfl
      | data r =>
        simp only
        rw [hc3]
        have hcf:(c.args.toList.all fun x=>(s'.at x).fre)=(c.args.toList.all fun x=>(s.at x).fre):=all_same fun x hx=>by rw [ha x (Array.mem_toList_iff.1 hx)]
        rw [hcf]
      | read r =>
        simp only
        rw [hc3]
        cases hv:s.at f with
        | c vv=>cases vv with
          | func fn first captured=>cases fn with
            | func g =>
              obtain ⟨e1,e2,e3⟩:=ro_congr (P:=P) (al:=c.args.toList.map s.at) (m:=s.m) (m':=s'.m) fun id hi=>hrow id (by simp only [touch,hop,hcc]; exact List.mem_append_right _ hi)
              simp only [e1,e2,e3]
            | _=>rfl
          | _=>rfl
        | fn g id off =>
          obtain ⟨e1,e2,e3⟩:=ro_congr (P:=P) (al:=c.args.toList.map s.at++[V.p id off]) (m:=s.m) (m':=s'.m) fun i hi=>hrow i (by
           simp only [touch,hop,hcc,hv]
           rw [List.filterMap_append] at hi
           rcases List.mem_append.1 hi with hi | hi
           ·exact List.mem_append_right _ hi
           exact List.mem_append_left _ (by simpa [V.id?] using hi))
          simp only [e1,e2,e3]
        | _=>rfl
      | readf r =>
        simp only
        rw [hc3]
        cases hv:s.at f with
        | c vv=>cases vv with
          | func fn first captured=>cases fn with
            | func g =>
              obtain ⟨e1,e2,e3⟩:=ro_congr (P:=P) (al:=c.args.toList.map s.at) (m:=s.m) (m':=s'.m) fun id hi=>hrow id (by simp only [touch,hop,hcc]; exact List.mem_append_right _ hi)
              simp only [e1,e2,e3]
            | _=>rfl
          | _=>rfl
        | fn g id off =>
          obtain ⟨e1,e2,e3⟩:=ro_congr (P:=P) (al:=c.args.toList.map s.at++[V.p id off]) (m:=s.m) (m':=s'.m) fun i hi=>hrow i (by
           simp only [touch,hop,hcc,hv]
           rw [List.filterMap_append] at hi
           rcases List.mem_append.1 hi with hi | hi
           ·exact List.mem_append_right _ hi
           exact List.mem_append_left _ (by simpa [V.id?] using hi))
          simp only [e1,e2,e3]
        | _=>rfl
  | builtin b =>
    cases b
    case append =>
     simp only
     rw [hp]
     have key:appE P (c.args.toList.map s'.at) c.argTypes.toList s'.m=appE P (c.args.toList.map s.at) c.argTypes.toList s.m:=by
      rw [hc3]
      unfold appE
      split
      ·rename_i x j off k cc t t' hargs htys
       rw [hrow j (by simp [touch,hop,hcc,hargs])]
       cases hx:x with
       | sl id o2 n cap=>simp only; rw [hrow id (by simp [touch,hop,hcc,hargs,hx,V.id?])]
       | sd id n sz=>simp only; rw [hrow id (by simp [touch,hop,hcc,hargs,hx,V.id?])]
       | gr id n sz=>simp only; rw [hrow id (by simp [touch,hop,hcc,hargs,hx,V.id?])]
       | c v =>
         cases v with
         | slice q n k2 =>
           cases q with
           | some q=>rfl
           | none=>cases n with
             | succ n=>rfl
             | zero=>cases k2<;>rfl
         | _=>rfl
       | _=>rfl
      ·rename_i id n sz k sz' f t t' hargs htys
       rw [hrow id (by simp [touch,hop,hcc,hargs,V.id?])]
      rfl
     cases fix with
     | none=>rfl
     | some u=>cases u<;>first | rfl | exact key
    all_goals first | exact hp | (simp only; rw [hc3,hp])
  | _=>simp only; exact hp
 case h_14 t len parts hop =>
  have hc:(o.op.operands.toList.all fun x=>(s'.at x).isC)=(o.op.operands.toList.all fun x=>(s.at x).isC):=all_same fun x hx=>by rw [h x (Array.mem_toList_iff.1 hx)]
  have hop':∀ p∈parts,p.2∈o.op.operands:=fun p hp=>by rw [hop]; simp only [Op.operands,List.mem_toArray,List.mem_map]; exact ⟨p,Array.mem_toList_iff.2 hp,rfl⟩
  have hp2:(parts.map fun (i,x)=>(i,s'.rho x))=parts.map fun (i,x)=>(i,s.rho x):=by
   apply Array.map_congr_left
   rintro ⟨i,x⟩ hx
   simp only [St.rho]
   rw [h x (hop' _ hx)]
  have hp3:(parts.toList.map fun p=>(p.1,s'.at p.2))=parts.toList.map fun p=>(p.1,s.at p.2):=List.map_congr_left fun p hp=>by rw [h p.2 (hop' p (Array.mem_toList_iff.1 hp))]
  rw [hc,hp2,hp3]
 case h_15 t parts hop =>
  have hc:(o.op.operands.toList.all fun x=>(s'.at x).isC)=(o.op.operands.toList.all fun x=>(s.at x).isC):=all_same fun x hx=>by rw [h x (Array.mem_toList_iff.1 hx)]
  have hop':∀ p∈parts,p.2∈o.op.operands:=fun p hp=>by rw [hop]; simp only [Op.operands,List.mem_toArray,List.mem_map]; exact ⟨p,Array.mem_toList_iff.2 hp,rfl⟩
  have hp3:(parts.toList.map fun p=>(p.1,s'.at p.2))=parts.toList.map fun p=>(p.1,s.at p.2):=List.map_congr_left fun p hp=>by rw [h p.2 (hop' p (Array.mem_toList_iff.1 hp))]
  rw [hc,hp3,hp]
 case h_16 t x f hop=>rw [h x (by rw [hop]; simp [Op.operands]),hp]
 case h_17 x i hop=>rw [h x (by rw [hop]; simp [Op.operands]),hp]
 case h_18 g first captured hop =>
  have hcp:captured.toList.map s'.at=captured.toList.map s.at:=List.map_congr_left fun x hx=>h x (by rw [hop]; simp only [Op.operands,Array.mem_append]; exact .inr (Array.mem_toList_iff.1 hx))
  rw [hcp,hp]
 case h_19 t x i hop =>
  rw [hp]
  cases fix with
  | none=>rfl
  | some u=>cases u<;>first | rfl | (rw [h x (by rw [hop]; simp [Op.operands]),h i (by rw [hop]; simp [Op.operands])])
 case h_20=>exact hp
theorem eff_congr (hc:calm fix=true) (h:∀ x∈o.op.operands,s'.at x=s.at x) (hm:∀ id,id∈touch s o→s'.m[id]? = s.m[id]?):eff P s' o fix=eff P s o fix:=by
 unfold eff
 split
 ·rw [eff0_congr (fix:=none) rfl h hm]
 ·have : eqSame P s' o = eqSame P s o := by
   unfold eqSame
   cases hop:o.op with
   | binOp op t x y yt=>simp only [h x (by rw [hop]; simp [Op.operands]),h y (by rw [hop]; simp [Op.operands])]
   | _=>rfl
  rw [this]
 ·cases hc
 exact eff0_congr hc h hm
theorem fold_none {p:Nat→Bool}:∀ (r:List Ft) (i:Nat) (s:St),(∀ j,i≤j→p j=false)→foldE p i r s=s
 | [],_,_,_=>rfl
 | g::r,i,s,h=>by
   simp only [foldE,h i (Nat.le_refl _),Bool.false_eq_true,if_false]
   exact fold_none r (i+1) s fun j hj=>h j (by omega)
def below (i:Nat):Nat→Bool:=fun k=>decide (k < i)
theorem dOps_at {sc:Script} {rid:Nat} {ops:Array Oper}:∀ (l:List Oper) (i n:Nat) (s s':St) (fs:List Ft) (obs:List Ob),dOps P sc rid ops l i n s=some (s',fs,obs)→Holds P obs →
 fs.length=l.length∧foldE (fun _=>true) i fs s=s' ∧ ∀ j o,l[j]? = some o → ∃ f,fs[j]? = some f∧((∃ e o1 m,want? ops (foldE (below (i+j)) i fs s) o=some true∧eff P (foldE (below (i+j)) i fs s) o (look rid (i+j) sc)=some (e,o1)∧Holds P o1∧calm (look rid (i+j) sc)=true ∧
  f=⟨toEf o.dst m e,gTmps ops o++opTmps o,opIds (foldE (below (i+j)) i fs s) o++resIds e,touch (foldE (below (i+j)) i fs s) o⟩)∨(want? ops (foldE (below (i+j)) i fs s) o=some false∧f=offFt ops o))
 | [],i,n,s,s',fs,obs,h,_=>by
   simp only [dOps,Option.some.injEq,Prod.mk.injEq] at h
   obtain ⟨rfl,rfl,rfl⟩:=h
   exact ⟨rfl,rfl,fun j o hj=>by simp at hj⟩
 | o::r,i,n,s,s',fs,obs,h,hh=>by
   have tail : ∀ (g : Ft) (fs1 : List Ft), foldE (fun _ => true) (i + 1) fs1 (g.e.app s) = s' → (∀ j o, r[j]? = some o → ∃ f, fs1[j]? = some f ∧ ((∃ e o1 m, want? ops (foldE (below (i + 1 + j)) (i + 1) fs1 (g.e.app s)) o = some true ∧ eff P (foldE (below (i + 1 + j)) (i + 1) fs1 (g.e.app s)) o (look rid (i + 1 + j) sc) = some (e, o1) ∧ Holds P o1 ∧ calm (look rid (i + 1 + j) sc) = true ∧
    f=⟨toEf o.dst m e,gTmps ops o++opTmps o,opIds (foldE (below (i+1+j)) (i+1) fs1 (g.e.app s)) o++resIds e,touch (foldE (below (i+1+j)) (i+1) fs1 (g.e.app s)) o⟩)∨(want? ops (foldE (below (i+1+j)) (i+1) fs1 (g.e.app s)) o=some false∧f=offFt ops o))) →
    ∀ j o',r[j]? = some o' → ∃ f,(g::fs1)[j+1]? = some f∧((∃ e o1 m,want? ops (foldE (below (i+(j+1))) i (g::fs1) s) o' = some true∧eff P (foldE (below (i+(j+1))) i (g::fs1) s) o' (look rid (i+(j+1)) sc)=some (e,o1)∧Holds P o1∧calm (look rid (i+(j+1)) sc)=true ∧
      f=⟨toEf o'.dst m e,gTmps ops o' ++ opTmps o',opIds (foldE (below (i+(j+1))) i (g::fs1) s) o' ++ resIds e,touch (foldE (below (i+(j+1))) i (g::fs1) s) o'⟩)∨(want? ops (foldE (below (i+(j+1))) i (g::fs1) s) o' = some false∧f=offFt ops o')):=by
    intro g fs1 _ hat j o' hj
    obtain ⟨f,hf,hx⟩:=hat j o' hj
    have hfold:foldE (below (i+(j+1))) i (g::fs1) s=foldE (below (i+1+j)) (i+1) fs1 (g.e.app s):=by
     have hb:below (i+(j+1)) i=true:=by simp [below]
     simp only [foldE,hb,if_true]
     rw [show i+(j+1)=i+1+j by omega]
    rw [hfold,show i+(j+1)=i+1+j by omega]
    exact ⟨f,by simpa using hf,hx⟩
   have h00:∀ (g:Ft) (fs1:List Ft),foldE (below (i+0)) i (g::fs1) s=s:=fun g fs1=>fold_none _ _ _ fun j hj=>by simp [below]; omega
   simp only [dOps] at h
   split at h
   ·rename_i hg
    split at h
    case isFalse=>cases h
    rename_i hcalm
    split at h
    ·rename_i e o1 he
     split at h
     ·rename_i s1 fs1 o2 hr
      simp only [Option.some.injEq,Prod.mk.injEq] at h
      obtain ⟨rfl,rfl,rfl⟩:=h
      obtain ⟨h1,h2⟩:=holds_append hh
      obtain ⟨hl,hs,hat⟩:=dOps_at r (i+1) _ _ _ _ _ hr h2
      refine ⟨by simp [hl],by simpa [foldE] using hs,fun j o' hj=>?_⟩
      cases j with
      | zero =>
        simp only [List.getElem?_cons_zero,Option.some.injEq] at hj
        subst hj
        rw [h00]
        exact ⟨_,rfl,.inl ⟨e,o1,n,hg,he,h1,hcalm,rfl⟩⟩
      | succ j=>exact tail _ fs1 hs hat j o' (by simpa using hj)
     cases h
    cases h
   ·rename_i hg
    split at h
    ·rename_i s1 fs1 o2 hr
     simp only [Option.some.injEq,Prod.mk.injEq] at h
     obtain ⟨rfl,rfl,rfl⟩:=h
     obtain ⟨hl,hs,hat⟩:=dOps_at r (i+1) _ _ _ _ _ hr hh
     refine ⟨by simp [hl],by simpa [foldE] using hs,fun j o' hj=>?_⟩
     cases j with
     | zero =>
       simp only [List.getElem?_cons_zero,Option.some.injEq] at hj
       subst hj
       rw [h00]
       exact ⟨_,rfl,.inr ⟨hg,rfl⟩⟩
     | succ j=>exact tail _ fs1 hs hat j o' (by simpa using hj)
    cases h
   cases h
end
def needB (bs:List Nat) (o:Oper):Nat:=o.after.toList.foldl (fun s e=>if Region.binds .any e=true then s ||| 2^e.on ||| bs.getD e.on 0 else s) 0
def bitsFrom:List Oper→List Nat→List Nat
 | [],acc=>acc
 | o::r,acc=>bitsFrom r (acc++[needB acc o])
def edgesOk (l:List Oper):Bool:=(List.range l.length).all fun i=>match l[i]? with
 | some o=>o.after.toList.all fun e=>!Region.binds .any e||decide (e.on < i)
 | none=>true
theorem needB_bit {bs:List Nat} {k:Nat}:∀ (es:List Edge) (s:Nat),(es.foldl (fun s e=>if Region.binds .any e=true then s ||| 2^e.on ||| bs.getD e.on 0 else s) s).testBit k=true →
 s.testBit k=true ∨ ∃ e∈es,Region.binds .any e=true∧(e.on=k∨(bs.getD e.on 0).testBit k=true)
 | [],s,h=>.inl h
 | e::r,s,h=>by
   rw [List.foldl_cons] at h
   rcases needB_bit r _ h with h1 | ⟨e',he',hb',h'⟩
   ·split at h1
    ·rename_i hb
     rw [Nat.testBit_or,Nat.testBit_or,Bool.or_eq_true,Bool.or_eq_true] at h1
     rcases h1 with (h1 | h1) | h1
     ·exact .inl h1
     ·rw [Nat.testBit_two_pow] at h1
      exact .inr ⟨e,List.mem_cons_self,hb,.inl (by simpa using h1)⟩
     exact .inr ⟨e,List.mem_cons_self,hb,.inr h1⟩
    exact .inl h1
   exact .inr ⟨e',List.mem_cons_of_mem _ he',hb',h'⟩
theorem bitsFrom_pre:∀ (l:List Oper) (acc:List Nat) (k:Nat),k < acc.length→(bitsFrom l acc)[k]? = acc[k]?
 | [],acc,k,_=>rfl
 | o::r,acc,k,hk=>by
   rw [bitsFrom,bitsFrom_pre r _ k (by simp; omega),List.getElem?_append_left hk]
theorem bitsFrom_at:∀ (l:List Oper) (acc:List Nat) (j:Nat) (o:Oper),l[j]? = some o → ∃ acc',acc'.length=acc.length+j∧(bitsFrom l acc)[acc.length+j]? = some (needB acc' o) ∧ ∀ k,k < acc'.length→acc'[k]? = (bitsFrom l acc)[k]?
 | [],acc,j,o,h=>by simp at h
 | x::r,acc,0,o,h=>by
   simp only [List.getElem?_cons_zero,Option.some.injEq] at h
   subst h
   refine ⟨acc,rfl,?_,fun k hk=>?_⟩
   ·rw [bitsFrom,Nat.add_zero,bitsFrom_pre r _ _ (by simp)]
    simp
   rw [bitsFrom,bitsFrom_pre r _ k (by simp; omega),List.getElem?_append_left hk]
 | x::r,acc,j+1,o,h=>by
   obtain ⟨acc',h1,h2,h3⟩:=bitsFrom_at r (acc++[needB acc x]) j o (by simpa using h)
   refine ⟨acc',by rw [h1]; simp; omega,?_,fun k hk=>by rw [bitsFrom]; exact h3 k hk⟩
   rw [bitsFrom]
   simpa [Nat.add_assoc,Nat.add_comm 1 j] using h2
def bits (l:List Oper):List Nat:=bitsFrom l []
theorem bits_sound {l:List Oper} (hE:edgesOk l=true) {i k:Nat} {o:Oper} (ho:l[i]? = some o) (h:((bits l).getD i 0).testBit k=true) :
 ∃ e∈o.after.toList,Region.binds .any e=true∧e.on < i∧(e.on=k∨((bits l).getD e.on 0).testBit k=true):=by
 obtain ⟨acc',h1,h2,h3⟩:=bitsFrom_at l [] i o ho
 simp only [List.length_nil,Nat.zero_add] at h1 h2
 have hg:(bits l).getD i 0=needB acc' o:=by simp [bits,List.getD_eq_getElem?_getD,h2]
 rw [hg] at h
 rcases needB_bit _ _ h with h0 | ⟨e,he,hb,hk⟩
 ·simp at h0
 have hlt:e.on < i:=by
  have hi:i < l.length:=(List.getElem?_eq_some_iff.1 ho).1
  have:=List.all_eq_true.1 hE i (List.mem_range.2 hi)
  rw [ho] at this
  have:=List.all_eq_true.1 this e he
  rw [hb] at this
  simpa using this
 refine ⟨e,he,hb,hlt,hk.imp id fun hk=>?_⟩
 have:(bits l).getD e.on 0=acc'.getD e.on 0:=by simp [bits,List.getD_eq_getElem?_getD,h3 e.on (by omega)]
 rw [this]
 exact hk
def ShutB (l:List Oper) (p:Nat→Bool):Prop:=∀ i o,l[i]? = some o→p i=true → ∀ e∈o.after.toList,Region.binds .any e=true→p e.on=true
theorem shut_bits {l:List Oper} (hE:edgesOk l=true) {p:Nat→Bool} (hs:ShutB l p):∀ (n i:Nat),i < n→i < l.length→p i=true → ∀ k,((bits l).getD i 0).testBit k=true→p k=true
 | 0,_,h,_,_,_,_=>by omega
 | n+1,i,h,hi,hp,k,hk=>by
   obtain ⟨e,he,hb,hlt,hor⟩:=bits_sound hE (List.getElem?_eq_getElem hi) hk
   have hpe:=hs i _ (List.getElem?_eq_getElem hi) hp e he hb
   rcases hor with rfl | hor
   ·exact hpe
   exact shut_bits hE hs n e.on (by omega) (by omega) hpe k hor
def crAt (fs:List Ft) (id j:Nat):Bool:=match fs[j]? with
 | some f=>hitO f.e.cr (some id)
 | none=>false
def inO (x:Option Nat) (l:List Nat):Bool:=match x with
 | some d=>l.contains d
 | none=>true
def okAt (bs:List Nat) (m0 n:Nat) (fs:List Ft) (j:Nat) (g:Ft):Bool :=
 ((List.range j).all fun i=>match fs[i]? with
   | some f=>!clash f g||(bs.getD j 0).testBit i
   | none=>true) &&
 g.ms.all (fun id=>decide (id < m0)||(List.range j).any fun i=>crAt fs id i) &&
 g.tc.all (fun id=>g.ms.contains id)&&inO g.e.wr g.ms &&
 match g.e.cr with
 | some id=>decide (m0≤id)&&decide (id < n)&&(List.range j).all fun i=>!crAt fs id i
 | none=>true
def okFs (bs:List Nat) (m0 n:Nat) (fs:List Ft):Bool :=
 (List.range fs.length).all fun j=>match fs[j]? with
  | some g=>okAt bs m0 n fs j g
  | none=>true
structure OkAt (bs:List Nat) (m0 n:Nat) (fs:List Ft) (j:Nat) (g:Ft):Prop where
 cl:∀ i f,i < j→fs[i]? = some f→clash f g=true→(bs.getD j 0).testBit i=true
 ms:∀ id∈g.ms,id < m0 ∨ ∃ i,i < j∧crAt fs id i=true
 tc:∀ id,id∈g.tc→id∈g.ms
 wr:∀ id,g.e.wr=some id→id∈g.ms
 cr:∀ id,g.e.cr=some id→m0≤id∧id < n ∧ ∀ i,i < j→crAt fs id i=false
theorem inO_mem {x:Option Nat} {l:List Nat} (h:inO x l=true):∀ d,x=some d→d∈l:=by
 intro d hd
 subst hd
 simpa [inO] using h
theorem okFs_at {bs:List Nat} {m0 n:Nat} {fs:List Ft} (h:okFs bs m0 n fs=true) {j:Nat} {g:Ft} (hg:fs[j]? = some g):OkAt bs m0 n fs j g:=by
 unfold okFs at h
 have h1:=List.all_eq_true.1 h j (List.mem_range.2 (List.getElem?_eq_some_iff.1 hg).1)
 rw [hg] at h1
 simp only [okAt,Bool.and_eq_true] at h1
 obtain ⟨⟨⟨⟨ha,hb⟩,hc⟩,hd⟩,he⟩:=h1
 refine ⟨fun i f hi hf hcl=>?_,fun id hid=>?_,fun id hid=>by simpa using List.all_eq_true.1 hc id hid,inO_mem hd,fun id hid=>?_⟩
 ·have:=List.all_eq_true.1 ha i (List.mem_range.2 hi)
  rw [hf] at this
  simpa [hcl] using this
 ·have:=List.all_eq_true.1 hb id hid
  rw [Bool.or_eq_true] at this
  rcases this with h | h
  ·exact .inl (of_decide_eq_true h)
  obtain ⟨i,hi,hc⟩:=List.any_eq_true.1 h
  exact .inr ⟨i,List.mem_range.1 hi,hc⟩
 rw [hid] at he
 simp only [Bool.and_eq_true,decide_eq_true_eq] at he
 refine ⟨he.1.1,he.1.2,fun i hi=>?_⟩
 have:=List.all_eq_true.1 he.2 i (List.mem_range.2 hi)
 simpa using this
theorem hitO_iff {x y:Option Nat}:hitO x y=true ↔ ∃ d,x=some d∧y=some d:=by
 unfold hitO
 split
 ·rename_i a b
  constructor
  ·intro h
   have:=beq_iff_eq.1 h
   exact ⟨a,rfl,by rw [this]⟩
  rintro ⟨d,h1,h2⟩
  cases h1
  cases h2
  simp
 rename_i h
 simp only [Bool.false_eq_true,false_iff]
 rintro ⟨d,rfl,rfl⟩
 exact h d d rfl rfl
theorem hit_of {x:Option Nat} {l:List Nat} {d:Nat} (h:x=some d) (hd:d∈l):hit x l=true:=by simp [h,hit,hd]
theorem foldE_len {p:Nat→Bool}:∀ (fs:List Ft) (i:Nat) (s:St),(foldE p i fs s).m.length=s.m.length
 | [],_,_=>rfl
 | f::r,i,s=>by
   simp only [foldE]
   rw [foldE_len r]
   split
   ·unfold Ef.app
    cases f.e.k<;>simp [unrow_len]
   rfl
section
variable {P:Program} {C:Cx} {β:Env} {s s0 s':St} {w w0:World} {a:Act} {Q:Exit→Act→World→Prop} {ops:Array Oper} {sc:Script} {rid:Nat} {fs:List Ft} {obs:List Ob} {m0:Nat}
theorem app_touch {ans:Option Ans} {o:Oper} {kill:Option Nat} {cells:List V} {rf:Nat→V} {id:Nat} (h:eff0 P s o ans=some (.app kill cells rf,obs)) (hk:kill=some id):id∈touch s o:=by
 have main:∀ c,o.op = .call c→c.callee = .builtin .append→appE P (c.args.toList.map s.at) c.argTypes.toList s.m=some (.app kill cells rf,obs)→id∈touch s o:=by
  intro c hop hc h
  unfold appE at h
  split at h
  ·rename_i x j off m cc t t' hargs htys
   repeat' (split at h)
   all_goals first
    | (cases h; done)
    | (cases h; cases hk; done)
    | (cases h; cases hk; simp [touch,hop,hc,hargs,V.id?]; done)
  ·rename_i id n sz k sz' f t t' hargs htys
   repeat' (split at h)
   all_goals first
    | (cases h; done)
    | (cases h; cases hk; simp [touch,hop,hc,hargs,V.id?]; done)
  cases h
 unfold eff0 at h
 split at h
 case h_13 c hop =>
  split at h
  ·exfalso
   repeat' (split at h)
   all_goals first
    | (cases h; done)
    | (simp at h; done)
    | (unfold effPure at h
       (repeat' (split at h))
       all_goals first | (cases h; done) | (simp at h; done))
  ·exfalso
   repeat' (split at h)
   all_goals first
    | (cases h; done)
    | (simp at h; done)
    | (unfold effPure at h
       (repeat' (split at h))
       all_goals first | (cases h; done) | (simp at h; done))
  ·rename_i hc
   split at h
   ·exact main c hop hc h
   exfalso
   unfold effPure at h
   (repeat' (split at h))
   all_goals first | (cases h; done) | (simp at h; done)
  exfalso
  unfold effPure at h
  (repeat' (split at h))
  all_goals first | (cases h; done) | (simp at h; done)
 all_goals exfalso
 all_goals (repeat' (split at h))
 all_goals first
  | (cases h; done)
  | (simp at h; done)
  | (unfold effPure at h
     (repeat' (split at h))
     all_goals first | (cases h; done) | (simp at h; done))
theorem notAll {ans:Option Ans} {o:Oper} {m:Rows} {v:V} (hc:calm ans=true) (h:eff P s o ans=some (.all m v,obs)):False:=by
 unfold eff at h
 split at h
 ·split at h
  ·cases h
  cases h
 ·split at h<;>cases h
 ·cases hc
 unfold eff0 at h
 split at h
 all_goals (repeat' (split at h))
 all_goals first
  | (cases hc; done)
  | (cases h; done)
  | (simp at h; done)
  | (unfold appE at h
     (repeat' (split at h))
     all_goals first | (cases h; done) | (simp at h; done))
  | (unfold effPure at h
     (repeat' (split at h))
     all_goals first | (cases h; done) | (simp at h; done))
def pL (l:Array Bool) (j:Nat):Bool:=l.getD j false
theorem want_sound {ops:Array Oper} {o:Oper} {β:Env} {s:St} {a:Act} {w:World} {b:Bool} (h:Ok C β w0 s a w) (hw:want? ops s o=some b):Region.wanted o (yielded ops a.tmps)=b:=by
 unfold want? at hw
 unfold Region.wanted
 cases hg:o.guard with
 | none=>rw [hg] at hw; simp only [Option.some.injEq] at hw; subst hw; rfl
 | some gw =>
   obtain ⟨g,want⟩:=gw
   rw [hg] at hw
   simp only at hw ⊢
   split at hw
   ·rename_i d hd
    split at hw
    ·rename_i x hx
     simp only [Option.some.injEq] at hw
     subst hw
     have hy:yielded ops a.tmps g=some x:=by
      unfold yielded
      rw [hd]
      simp only [Option.bind_some,h.tmps.get d _ hx rfl,V.up]
     rw [hy]
     cases x<;>cases want<;>rfl
    ·rename_i x hx
     simp only [Option.some.injEq] at hw
     subst hw
     have hy:yielded ops a.tmps g=none:=by
      unfold yielded
      rw [hd]
      simp only [Option.bind_some,h.tmps.get d _ hx rfl,V.up]
     rw [hy]
     rfl
    cases hw
   cases hw
theorem draw_key (hd:dOps P sc rid ops ops.toList 0 m0 s0=some (s',fs,obs)) (hh:Holds P obs) (hE:edgesOk ops.toList=true) (hF:okFs (bits ops.toList) m0 s0.m.length fs=true)
 (hpre:∀ id,m0≤id→row? s0.m id=none) (hn0:C.n0≤m0) (hend:∀ β' a' w',Ok C β' w0 s' a' w' → Q .normal a' w') :
 ∀ (m:Nat) (l:Array Bool) (β:Env) (a:Act) (w:World),l.size=ops.size→((List.range ops.size).filter fun j=>!pL l j).length=m→ShutB ops.toList (pL l) →
   Ok C β w0 (foldE (pL l) 0 fs s0) a w→wpAny P .any ops Q m l a w:=by
 obtain ⟨hlen,hs',hat⟩:=dOps_at _ _ _ _ _ _ _ hd hh
 have hlen':fs.length=ops.size:=by simpa using hlen
 have fin:∀ (l:Array Bool) (β:Env) (a:Act) (w:World),(∀ j,j < ops.size→pL l j=true)→Ok C β w0 (foldE (pL l) 0 fs s0) a w→Q .normal a w:=by
  intro l β a w hall hok
  have h1:foldE (pL l) 0 fs s0=s':=by
   rw [← hs']
   exact fold_congr _ _ _ fun j _ hj=>hall j (by omega)
  rw [h1] at hok
  exact hend β a w hok
 have rowNew:∀ (p:Nat→Bool) (id:Nat) (j:Nat) (g:Ft),fs[j]? = some g→g.e.cr=some id→(∀ i f,fs[i]? = some f→p i=true→f.e.cr=some id→i=j)→p j=false→m0≤id→row? (foldE p 0 fs s0).m id=none:=by
  intro p id j g hg hc huniq hpj hid
  have key:∀ (r:List Ft) (i:Nat) (s:St),(∀ k f,r[k]? = some f→fs[i+k]? = some f)→row? s.m id=none→row? (foldE p i r s).m id=none:=by
   intro r
   induction r with
   | nil=>intro i s _ h; exact h
   | cons f r ihr =>
     intro i s hr h
     simp only [foldE]
     refine ihr (i+1) _ (fun k f' hf=>by have:=hr (k+1) f' (by simpa using hf); rwa [show i+(k+1)=i+1+k by omega] at this) ?_
     split
     ·rename_i hp
      have hfi:=hr 0 f rfl
      rw [Nat.add_zero] at hfi
      have hcr:f.e.cr≠some id:=fun hh=>by
       have:=huniq i f hfi hp hh
       rw [this,hpj] at hp
       cases hp
      unfold Ef.app
      unfold Ef.cr at hcr
      cases hk:f.e.k with
      | no=>exact h
      | put id' off vs =>
        by_cases hi:id' = id
        ·subst hi
         simp only [h,Option.map_none]
         cases hh:row? (s.m.set id' none) id' with
         | none=>rfl
         | some r =>
           rcases row_set hh with ⟨h1,_⟩ | ⟨_,h2⟩
           ·exact absurd rfl h1
           cases h2
        simp only
        rw [row_set_keep (Ne.symm hi)]
        exact h
      | new id' cs =>
        have hi:id' ≠ id:=fun hh=>hcr (by rw [hk,hh])
        simp only
        rw [row_set_keep (Ne.symm hi)]
        exact h
      | app kill id' cs =>
        have hi:id' ≠ id:=fun hh=>hcr (by rw [hk,hh])
        simp only
        rw [row_set_keep (Ne.symm hi)]
        cases hh:row? (unrow s.m kill) id with
        | none=>rfl
        | some r =>
          exfalso
          cases kill with
          | none=>rw [show unrow s.m none=s.m from rfl,h] at hh; cases hh
          | some k =>
            unfold unrow at hh
            rcases row_set hh with ⟨_,h2⟩ | ⟨h1,h2⟩
            ·rw [h] at h2; cases h2
            rw [← h1,h] at h2; cases h2
     exact h
  exact key fs 0 s0 (fun k f hf=>by rwa [Nat.zero_add]) (hpre id hid)
 intro m
 induction m with
 | zero =>
   intro l β a w hsz hm hS hok
   have hall:∀ j,j < ops.size→pL l j=true:=by
    intro j hj
    cases hp:pL l j with
    | true=>rfl
    | false =>
      have:j∈(List.range ops.size).filter fun j=>!pL l j:=List.mem_filter.2 ⟨List.mem_range.2 hj,by simp [hp]⟩
      rw [List.eq_nil_of_length_eq_zero hm] at this
      cases this
   refine ⟨List.eq_nil_iff_forall_not_mem.2 fun i hi=>?_,fin l β a w hall hok⟩
   unfold Region.ready at hi
   rw [List.mem_filter,List.mem_range] at hi
   obtain ⟨hi1,hi2⟩:=hi
   have:=hall i hi1
   unfold pL at this
   have h3:l.getD i true=true:=by
    rw [Array.getD_eq_getD_getElem?] at this ⊢
    cases hh:l[i]? with
    | none=>rfl
    | some b=>rw [hh] at this; exact this
   rw [h3] at hi2
   simp at hi2
 | succ m ih =>
   intro l β a w hsz hm hS hok
   have getT:∀ i,i < ops.size→l.getD i true=pL l i:=by
    intro i hi
    unfold pL
    rw [Array.getD_eq_getD_getElem?,Array.getD_eq_getD_getElem?,Array.getElem?_eq_getElem (by omega)]
    rfl
   refine ⟨fun hr=>?_,fun i hi=>?_⟩
   ·
    exfalso
    have hex:∃ i,i < ops.size∧pL l i=false:=by
     cases hf:(List.range ops.size).filter (fun j=>!pL l j) with
     | nil=>rw [hf] at hm; simp at hm
     | cons x r =>
       have hx:x∈(List.range ops.size).filter (fun j=>!pL l j):=by rw [hf]; exact List.mem_cons_self
       rw [List.mem_filter,List.mem_range] at hx
       exact ⟨x,hx.1,by simpa using hx.2⟩
    have hmin:∀ k,(∃ i,i≤k∧i < ops.size∧pL l i=false) → ∃ i,i < ops.size∧pL l i=false ∧ ∀ j,j < i→pL l j=true:=by
     intro k
     induction k with
     | zero =>
       rintro ⟨i,hi,h1,h2⟩
       exact ⟨i,h1,h2,fun j hj=>by omega⟩
     | succ k ihk =>
       rintro ⟨i,hi,h1,h2⟩
       by_cases hlow:∃ j,j≤k∧j < ops.size∧pL l j=false
       ·exact ihk hlow
       refine ⟨i,h1,h2,fun j hj=>?_⟩
       cases hb:pL l j with
       | true=>rfl
       | false=>exact absurd ⟨j,by omega,by omega,hb⟩ hlow
    obtain ⟨i0,h1,h2⟩:=hex
    obtain ⟨i,hi1,hi2,hlow⟩:=hmin i0 ⟨i0,Nat.le_refl _,h1,h2⟩
    have hin:i∈Region.ready .any ops l:=by
     unfold Region.ready
     rw [List.mem_filter,List.mem_range]
     refine ⟨hi1,?_⟩
     rw [getT i hi1,hi2,Array.getElem?_eq_getElem hi1]
     simp only [Bool.not_false,Bool.true_and,Option.map_some,Option.getD_some]
     rw [← Array.all_toList]
     refine List.all_eq_true.2 fun e he=>?_
     have hEi:=List.all_eq_true.1 hE i (List.mem_range.2 (by simpa using hi1))
     have ho:ops.toList[i]? = some ops[i]:=by simp [Array.getElem?_eq_getElem hi1]
     rw [ho] at hEi
     have:=List.all_eq_true.1 hEi e he
     cases hb:Region.binds .any e with
     | false=>simp
     | true =>
       rw [hb] at this
       simp only [Bool.not_true,Bool.false_or,decide_eq_true_eq] at this
       simpa [pL] using hlow e.on this
    rw [hr] at hin
    cases hin
   unfold Region.ready at hi
   rw [List.mem_filter,List.mem_range] at hi
   obtain ⟨hi1,hi2⟩:=hi
   rw [Bool.and_eq_true,getT i hi1] at hi2
   have hpi:pL l i=false:=by simpa using hi2.1
   have ho:ops.toList[i]? = some ops[i]:=by simp [Array.getElem?_eq_getElem hi1]
   have ho':ops[i]? = some ops[i]:=Array.getElem?_eq_getElem hi1
   have hedge:∀ e∈ops[i].after.toList,Region.binds .any e=true→pL l e.on=true:=by
    intro e he hb
    have h2:=hi2.2
    rw [ho'] at h2
    simp only [Option.map_some,Option.getD_some] at h2
    rw [← Array.all_toList] at h2
    have:=List.all_eq_true.1 h2 e he
    rw [hb] at this
    simpa [pL] using this
   have hbits:∀ k,((bits ops.toList).getD i 0).testBit k=true→pL l k=true:=by
    intro k hk
    obtain ⟨e,he,hb,hlt,hor⟩:=bits_sound hE ho hk
    have hpe:=hedge e he hb
    rcases hor with rfl | hor
    ·exact hpe
    exact shut_bits hE hS (e.on+1) e.on (by omega) (by simp; omega) hpe k hor
   obtain ⟨f,hf,hor⟩:=hat i ops[i] ho
   rw [Nat.zero_add] at hor
   have hA:=okFs_at hF hf
   have noclash:∀ j g,fs[j]? = some g→j≠i→pL l j≠below i j→(if j < i then clash g f else clash f g)=false:=by
    intro j g hgj hji hne
    by_cases hlt:j < i
    ·rw [if_pos hlt]
     have hpj:pL l j=false:=by
      have:below i j=true:=by simp [below,hlt]
      rw [this] at hne
      simpa using hne
     cases hc:clash g f with
     | false=>rfl
     | true=>rw [hbits j (hA.cl j g hlt hgj hc)] at hpj; cases hpj
    rw [if_neg hlt]
    have hpj:pL l j=true:=by
     have:below i j=false:=by simp [below,hlt]
     rw [this] at hne
     simpa using hne
    cases hc:clash f g with
    | false=>rfl
    | true =>
      have hB:=okFs_at hF hgj
      have hjl:j < ops.toList.length:=by
       have:=(List.getElem?_eq_some_iff.1 hgj).1
       simp; omega
      have:=shut_bits hE hS (j+1) j (by omega) hjl hpj i (hB.cl i f (by omega) hf hc)
      rw [hpi] at this
      cases this
   have hnd:∀ j g,fs[j]? = some g→pL l j≠below i j→hit g.e.d f.rs=false∧hitO g.e.d f.e.d=false∧hit g.e.wr f.tc=false∧hit f.e.wr g.tc=false∧hit g.e.cr f.ms=false∧hit f.e.cr g.ms=false∧hitO f.e.cr g.e.cr=false:=by
    intro j g hgj hne
    have hji:j≠i:=by
     rintro rfl
     apply hne
     rw [hpi]
     simp [below]
    have hc:=noclash j g hgj hji hne
    have sym:∀ x y:Option Nat,hitO x y=hitO y x:=by
     intro x y
     rw [Bool.eq_iff_iff,hitO_iff,hitO_iff]
     constructor<;>(rintro ⟨d,h1,h2⟩; exact ⟨d,h2,h1⟩)
    split at hc
    ·simp only [clash,Bool.or_eq_false_iff] at hc
     obtain ⟨⟨⟨⟨⟨⟨⟨h1,h2⟩,h3⟩,h4⟩,h5⟩,h6⟩,h7⟩,h8⟩:=hc
     exact ⟨h1,h3,h4,h5,h6,h7,(sym _ _).trans h8⟩
    simp only [clash,Bool.or_eq_false_iff] at hc
    obtain ⟨⟨⟨⟨⟨⟨⟨h1,h2⟩,h3⟩,h4⟩,h5⟩,h6⟩,h7⟩,h8⟩:=hc
    exact ⟨h2,(sym _ _).trans h3,h5,h4,h7,h6,h8⟩
   have hgs:∀ t∈gTmps ops ops[i],t∈f.rs:=by
    intro t ht
    rcases hor with ⟨e,o1,mi,_,_,_,_,hfe⟩ | ⟨_,hfe⟩
    ·rw [hfe]; exact List.mem_append_left _ ht
    rw [hfe]; exact ht
   have hsame:∀ t∈f.rs,(foldE (pL l) 0 fs s0).t[t]? = (foldE (below i) 0 fs s0).t[t]?:=by
    intro t ht
    exact fold_t (t:=t) (p:=pL l) (q:=below i) fs 0 s0 s0 rfl (fun j g hgj hd=>by
     rw [Nat.zero_add]
     cases hpe:decide (pL l j=below i j) with
     | true=>exact of_decide_eq_true hpe
     | false =>
       have h1:=(hnd j g hgj (of_decide_eq_false hpe)).1
       rw [hit_of hd ht] at h1
       cases h1)
   have hwant:want? ops (foldE (pL l) 0 fs s0) ops[i]=want? ops (foldE (below i) 0 fs s0) ops[i]:=by
    unfold want?
    cases hgd:ops[i].guard with
    | none=>rfl
    | some gw =>
      obtain ⟨g,b⟩:=gw
      simp only
      cases hd:(ops[g]?).bind (·.dst) with
      | none=>rfl
      | some t =>
        have:t∈gTmps ops ops[i]:=by simp [gTmps,hgd,hd]
        simp only [hsame t (hgs t this)]
   have cont:∀ β' a' w',Ok C β' w0 (f.e.app (foldE (pL l) 0 fs s0)) a' w' → wpAny P .any ops Q m (l.setIfInBounds i true) a' w':=by
    intro β' a' w' hok'
    have hpu:pL (l.setIfInBounds i true)=upd (pL l) i:=by
     funext j
     by_cases hj:j=i
     ·subst hj
      simp only [pL,upd,if_true,Array.getD_eq_getD_getElem?,Array.getElem?_setIfInBounds_self_of_lt (show j < l.size by omega),Option.getD_some]
     simp only [pL,upd,if_neg hj,Array.getD_eq_getD_getElem?,Array.getElem?_setIfInBounds_ne (Ne.symm hj)]
    have hfold:foldE (upd (pL l) i) 0 fs s0=f.e.app (foldE (pL l) 0 fs s0):=by
     refine fold_upd hpi fs 0 s0 (Nat.zero_le _) (by simpa using hf) fun j g hgj hlt hpj=>?_
     rw [Nat.zero_add] at hlt hpj
     have hne:pL l j≠below i j:=by
      have:below i j=false:=by simp [below]; omega
      rw [hpj,this]; simp
     obtain ⟨h1,h2,h3,h4,h5,h6,h7⟩:=hnd j g hgj hne
     refine ⟨?_,fun id hid=>?_⟩
     ·cases hx:hitO f.e.d g.e.d with
      | false=>rfl
      | true =>
        obtain ⟨d,e1,e2⟩:=hitO_iff.1 hx
        rw [hitO_iff.2 ⟨d,e2,e1⟩] at h2
        cases h2
     cases hx:g.wrs id with
     | false=>rfl
     | true =>
       exfalso
       have hB:=okFs_at hF hgj
       unfold Ft.wrs at hid hx
       rw [Bool.or_eq_true] at hid hx
       rcases hid with hid | hid<;>obtain ⟨d,e1,e2⟩:=hitO_iff.1 hid<;>cases e2<;>rcases hx with hx | hx<;>obtain ⟨d,e3,e4⟩:=hitO_iff.1 hx<;>cases e4
       ·
        have hgt:id∈g.tc:=by
         have hjs:j < ops.size:=by have:=(List.getElem?_eq_some_iff.1 hgj).1; omega
         obtain ⟨f',hf',hor'⟩:=hat j ops[j] (by simp [Array.getElem?_eq_getElem hjs])
         rw [hgj] at hf'
         cases hf'
         rcases hor' with ⟨e',o1',mj,_,hee,hoo,_,hfe'⟩ | ⟨_,hfe'⟩
         case inr=>rw [hfe'] at e3; simp [offFt,Ef.wr] at e3
         rw [hfe'] at e3 ⊢
         cases e' with
         | put id' off vs =>
           obtain ⟨_,_,hee,hoo⟩:=eff_cases hee hoo
           obtain ⟨_,rr,t,x,y,hm',_,hop,hx',_,_,_⟩:=eff_put_sound (ρ:=fun _=>undef) (β:=fun _=>⟨0,0,0⟩) (w:=w) hee hoo
           simp only [toEf,Ef.wr,Option.some.injEq] at e3
           subst e3
           rw [Nat.zero_add] at hx' ⊢
           simp [touch,hop,hx']
         | app kill cs rf =>
           obtain ⟨_,_,hee,hoo⟩:=eff_cases hee hoo
           simp only [toEf,Ef.wr] at e3
           rw [Nat.zero_add] at hee ⊢
           exact app_touch hee e3
         | _=>simp [toEf,Ef.wr] at e3
        rw [hit_of e1 hgt] at h4
        cases h4
       ·have:=hit_of e3 (hA.wr id e1)
        rw [this] at h5; cases h5
       ·have:=hit_of e1 (hB.wr id e3)
        rw [this] at h6; cases h6
       rw [hitO_iff.2 ⟨id,e1,e3⟩] at h7; cases h7
    refine ih _ β' a' w' (by simp [hsz]) ?_ ?_ ?_
    ·rw [hpu]
     have hcount:∀ (L:List Nat),L.Nodup→i∈L→(L.filter fun j=>!upd (pL l) i j).length+1=(L.filter fun j=>!pL l j).length:=by
      intro L
      induction L with
      | nil=>intro _ h; cases h
      | cons x r ihr =>
        intro hn hix
        rw [List.nodup_cons] at hn
        rcases List.mem_cons.1 hix with rfl | hix
        ·have h1 : (r.filter fun j => !upd (pL l) i j) = r.filter fun j => !pL l j := List.filter_congr fun j hj => by
          have:j≠i:=fun e=>hn.1 (by rw [← e]; exact hj)
          simp [upd,this]
         rw [List.filter_cons,List.filter_cons]
         simp [upd,hpi] at h1 ⊢
         exact congrArg List.length h1
        have hxi:x≠i:=fun e=>hn.1 (by rw [e]; exact hix)
        have h1:=ihr hn.2 hix
        rw [List.filter_cons,List.filter_cons]
        have hu:upd (pL l) i x=pL l x:=by simp [upd,hxi]
        rw [hu]
        cases pL l x<;>simp<;>omega
     have:=hcount (List.range ops.size) List.nodup_range (List.mem_range.2 hi1)
     omega
    ·rw [hpu]
     intro j o hj hpj e he hb
     by_cases hji:j=i
     ·subst hji
      rw [ho] at hj
      cases hj
      have:=hedge e he hb
      simp [upd,this]
     have hpj':pL l j=true:=by simpa [upd,hji] using hpj
     have:=hS j o hj hpj' e he hb
     simp [upd,this]
    rw [hpu,hfold]
    exact hok'
   unfold wpOp
   rw [ho']
   rcases hor with ⟨e,o1,mi,hw1,he,ho1,hcm,hfe⟩ | ⟨hw0,hfe⟩
   case inr =>
    simp only [want_sound hok (hwant.trans hw0),Bool.false_eq_true,if_false]
    refine cont β _ _ ?_
    rw [hfe]
    have e1:(offFt ops ops[i]).e.app (foldE (pL l) 0 fs s0)=(foldE (pL l) 0 fs s0).put ops[i].dst (.c undef):=by
     simp only [offFt,Ef.app]
     cases ops[i].dst<;>rfl
    rw [e1]
    refine ⟨hok.tmps.put (v:=.c undef) _ fun _=>rfl,(put_defers _).trans hok.defers,?_,?_,hok.frame,?_,(by rw [put_m]; exact hok.pin),hok.laid,(by rw [put_m]; exact hok.dats (v:=.c undef) (Keep.refl _ _) (fun _ _ _ _=>rfl) trivial)⟩
    ·rw [put_m]; exact hok.mem
    ·rw [put_m]; exact hok.dirty
    rw [put_m]
    intro u hu
    rcases put_mem hu with hu | rfl
    ·exact hok.ltt u hu
    exact lv_c _ _
   have htcM:∀ id,id∈touch (foldE (below i) 0 fs s0) ops[i]→id∈f.ms:=fun id hid=>hA.tc id (by rw [hfe]; exact hid)
   have hat1:∀ x∈ops[i].op.operands,(foldE (pL l) 0 fs s0).at x=(foldE (below i) 0 fs s0).at x:=by
    intro x hx
    cases x with
    | tmp t =>
      have ht:t∈f.rs:=by
       rw [hfe]
       exact List.mem_append_right _ (List.mem_filterMap.2 ⟨.tmp t,Array.mem_toList_iff.2 hx,rfl⟩)
      have:=hsame t ht
      simp only [St.at,List.getD_eq_getElem?_getD,this]
    | const v=>rfl
    | global g=>rfl
    | func f=>rfl
   have hat2:∀ id,id∈touch (foldE (below i) 0 fs s0) ops[i]→(foldE (pL l) 0 fs s0).m[id]? = (foldE (below i) 0 fs s0).m[id]?:=by
    intro id hid
    refine fold_m fs 0 s0 s0 rfl fun j g hgj hw=>?_
    rw [Nat.zero_add]
    cases hpe:decide (pL l j=below i j) with
    | true=>exact of_decide_eq_true hpe
    | false =>
      obtain ⟨_,_,h3,_,h5,_⟩:=hnd j g hgj (of_decide_eq_false hpe)
      unfold Ft.wrs at hw
      rw [Bool.or_eq_true] at hw
      rcases hw with hw | hw
      ·obtain ⟨d,h1,h2⟩:=hitO_iff.1 hw
       cases h2
       rw [hit_of h1 (show id∈f.tc by rw [hfe]; exact hid)] at h3
       cases h3
      obtain ⟨d,h1,h2⟩:=hitO_iff.1 hw
      cases h2
      rw [hit_of h1 (htcM id hid)] at h5
      cases h5
   have he':eff P (foldE (pL l) 0 fs s0) ops[i] (look rid i sc)=some (e,o1):=by
    rw [eff_congr hcm hat1 hat2]; exact he
   have htouch:touch (foldE (pL l) 0 fs s0) ops[i]=touch (foldE (below i) 0 fs s0) ops[i]:=by
    unfold touch
    split
    ·rename_i t x hop; rw [hat1 x (by rw [hop]; simp [Op.operands])]
    ·rename_i t x y hop; rw [hat1 x (by rw [hop]; simp [Op.operands])]
    ·rename_i t u x hop; rw [hat1 x (by rw [hop]; simp [Op.operands])]
    ·rename_i c hop
     split
     ·rename_i f hc
      rw [List.map_congr_left fun x hx=>hat1 x (by rw [hop]; simp [Op.operands,Call.operands,hc,Array.mem_toList_iff.1 hx]),hat1 f (by rw [hop]; simp [Op.operands,Call.operands,hc])]
     ·rename_i hc
      rw [List.map_congr_left fun x hx=>hat1 x (by rw [hop]; simp [Op.operands,Call.operands,hc,Array.mem_toList_iff.1 hx])]
     rfl
    rfl
   have hcrf:f.e.cr=(toEf ops[i].dst mi e).cr:=by rw [hfe]
   simp only [want_sound hok (hwant.trans hw1),if_true]
   have hfresh:f.e.cr=some mi→row? (foldE (pL l) 0 fs s0).m mi=none∧mi < (foldE (pL l) 0 fs s0).m.length∧C.n0≤mi:=by
    intro hc
    obtain ⟨h1,h2,h3⟩:=hA.cr mi hc
    refine ⟨rowNew (pL l) mi i f hf hc (fun j g hgj hpj hgc=>?_) hpi h1,by rw [foldE_len]; exact h2,Nat.le_trans hn0 h1⟩
    exfalso
    have hji:j≠i:=by rintro rfl; rw [hpi] at hpj; cases hpj
    by_cases hlt:j < i
    ·have:=h3 j hlt
     simp [crAt,hgj,hgc,hitO] at this
    have h4:=(okFs_at hF hgj).cr mi hgc
    have:=h4.2.2 i (by omega)
    simp [crAt,hf,hc,hitO] at this
   refine .inl (stepE_ok (n:=mi) hok he' ho1 (fun cells t rf hee=>hfresh (by rw [hcrf,hee]; rfl)) (fun kill cells rf hee=>hfresh (by rw [hcrf,hee]; rfl)) ?_ fun β' a' w' hok'=>?_)
   ·intro m v hee
    rw [hee] at he
    exact notAll hcm he
   refine cont β' a' w' ?_
   have:f.e=toEf ops[i].dst mi e:=by rw [hfe]
   rw [this]
   exact hok'
end
end Go.Proofs.YtmkgijiniopalaaDoor.U
