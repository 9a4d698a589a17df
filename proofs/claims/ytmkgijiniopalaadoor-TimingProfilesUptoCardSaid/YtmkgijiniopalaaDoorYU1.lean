import Derived.Below
import Derived.Orders
import Derived.RowKit
import Derived.Laws.Cells
import Derived.Laws.MakeOwn
import Derived.Laws.BytesArg
import Derived.Laws.StructEq
namespace Go.Proofs.YtmkgijiniopalaaDoor.U
open Go.RowKit
set_option linter.unusedSimpArgs false
set_option linter.unusedVariables false
inductive D where
 | v (x:Value)
 | sl (n sz:Nat) (f:Nat→Nat→D)
def D.Rep (A:Nat→Prop) (w:World):D→Value→Prop
 | .v x,u=>u=x
 | .sl n sz f, u => ∃ (a : Option Addr) (cap : Nat), u = .slice a n cap ∧ n ≤ cap ∧ (∀ ad, a = some ad → ad.spot = none) ∧
  ∀ i,i < n → ∀ k,k < sz → ∃ b o c,a=some ⟨b,o,none⟩∧A b∧b < w.heap.size∧w.cell? ⟨b,o+(i*sz+k),none⟩=some c∧(f i k).Rep A w c
def RepL (A:Nat→Prop) (w:World):List D→List Value→Prop
 | [],[]=>True
 | d::l,u::us=>d.Rep A w u∧RepL A w l us
 | _,_=>False
def RepV (A:Nat→Prop) (w:World) (b:Bool) (l:List D) (u:Value):Prop:=match b with
 | true=>∃ cs:Array Value,u = .agg cs∧RepL A w l cs.toList
 | false=>RepL A w l [u]
def RepT (A:Nat→Prop) (w:World):List (Bool × List D)→List Value→Prop
 | [],[]=>True
 | (b,l)::r,u::us=>RepV A w b l u∧RepT A w r us
 | _,_=>False
inductive V where
 | any
 | c (v:Value)
 | p (id off:Nat)
 | sl (id off len cap:Nat)
 | sd (id len sz:Nat)
 | ts (id off len cap:Nat) (w:Value)
 | td (id len sz:Nat) (w:Value)
 | fn (g:FuncId) (id off:Nat)
 | gr (id len sz:Nat)
 | dv (b:Bool) (l:List D)
 | e (l:List D)
 | tu (l:List (Bool × List D))
 deriving Inhabited
structure Loc where
 fst:Nat
 snd:Nat
 room:Nat
abbrev Env:=Nat→Loc
def V.up (β:Env):V→Value
 | .any=>undef
 | .c v=>v
 | .p id off=>.pointer (some ⟨(β id).1,(β id).2+off,none⟩)
 | .sl id off len cap=>.slice (some ⟨(β id).1,(β id).2+off,none⟩) len cap
 | .sd id len sz=>.slice (some ⟨(β id).1,(β id).2,none⟩) len ((β id).3/sz)
 | .ts id off len cap w=>.tuple #[.slice (some ⟨(β id).1,(β id).2+off,none⟩) len cap,w]
 | .td id len sz w=>.tuple #[.slice (some ⟨(β id).1,(β id).2,none⟩) len ((β id).3/sz),w]
 | .fn g id off=>.func (.func g) #[] #[.pointer (some ⟨(β id).1,(β id).2+off,none⟩)]
 | _=>undef
def V.known:V→Bool
 | .any=>false
 | .gr ..=>false
 | .dv ..=>false
 | .e _=>false
 | .tu _=>false
 | _=>true
def V.has:V→Bool
 | .any=>false
 | .dv false [.sl ..]=>true
 | .dv false _=>false
 | _=>true
def V.dis (β:Env) (A:Nat→Prop) (w:World):V→Value→Prop
 | .gr id n sz,u=>(n=0∧u = .slice none 0 0)∨(0 < n∧n≤(β id).3/sz∧u = .slice (some ⟨(β id).1,(β id).2,none⟩) n ((β id).3/sz))
 | .dv b l,u=>RepV A w b l u
 | .e l,u=>∃ b o,u = .pointer (some ⟨b,o,none⟩)∧A b∧b < w.heap.size ∧ ∀ k d,l[k]? = some d → ∃ c,w.cell? ⟨b,o+k,none⟩=some c∧d.Rep A w c
 | .tu l,u=>∃ us:Array Value,u = .tuple us∧RepT A w l us.toList
 | _,_=>True
def V.is (β:Env) (A:Nat→Prop) (w:World) (v:V) (u:Value):Prop:=(v.known=true→u=v.up β)∧v.dis β A w u
def F2 (I:V→Value→Prop):List V→List Value→Prop
 | [],[]=>True
 | v::l,u::us=>I v u∧F2 I l us
 | _,_=>False
abbrev isL (β:Env) (A:Nat→Prop) (w:World):List V→List Value→Prop:=F2 (V.is β A w)
def V.isC:V→Bool
 | .c _=>true
 | _=>false
def V.val:V→Value
 | .c v=>v
 | _=>undef
def V.id?:V→Option Nat
 | .p id _=>some id
 | .sl id _ _ _=>some id
 | .sd id _ _=>some id
 | .ts id _ _ _ _=>some id
 | .td id _ _ _=>some id
 | .fn _ id _=>some id
 | .gr id _ _=>some id
 | _=>none
def mk1:D→V
 | .v x=>.c x
 | d=>.dv false [d]
def V.cells:V→List V
 | .c v=>v.cells.toList.map .c
 | .dv _ l=>l.map mk1
 | v=>[v]
def one:V→Bool
 | .any=>false
 | .c (.agg _)=>false
 | .c (.tuple _)=>false
 | .ts ..=>false
 | .td ..=>false
 | .tu _=>false
 | .dv false [.sl ..]=>true
 | .dv ..=>false
 | _=>true
structure Row where
 own:Bool
 cells:List V
abbrev Rows:=List (Option Row)
structure St where
 t:List V
 m:Rows
def St.at (s:St):Operand→V
 | .tmp t=>s.t.getD t (.c undef)
 | .const v=>.c v
 | .global g=>.c (.pointer (some ⟨g,0,none⟩))
 | .func f=>.c (.func (.func f) #[] #[])
def St.rho (s:St) (x:Operand):Value:=(s.at x).val
def St.put (s:St) (d:Option Tmp) (v:V):St :=
 match d with
 | some d=>{ s with t:=s.t.set d v }
 | none=>s
def row? (m:Rows) (id:Nat):Option Row:=(m[id]?).bind fun x=>x
def sval {α:Type} (P:Program):Sem α→Option α
 | .pure a=>some a
 | .program k=>sval P (k P)
 | .mark _ k=>sval P k
 | _=>none
theorem sval_run {α:Type} {P:Program}:∀ {s:Sem α} {a:α},sval P s=some a → ∀ w,s.run P w = .ok a w:=by
 intro s
 induction s with
 | pure b=>intro a h w; simp only [sval,Option.some.injEq] at h; subst h; rfl
 | program k ih=>intro a h w; exact ih P h w
 | mark m k ih=>intro a h w; exact ih h w
 | _=>intro a h w; simp [sval] at h
structure Fr (D:Nat→Prop) (w0 w:World):Prop where
 os:w.os=w0.os
 tape:w.tape=w0.tape
 output:w.output=w0.output
 size:w0.heap.size≤w.heap.size
 block:∀ k,k < w0.heap.size → ¬ D k→w.heap[k]? = w0.heap[k]?
theorem Fr.refl (D:Nat→Prop) (w:World):Fr D w w:=⟨rfl,rfl,rfl,Nat.le_refl _,fun _ _ _=>rfl⟩
theorem Fr.of_below {D:Nat→Prop} {w w':World} (h:Below w.heap.size w w'):Fr D w w':=⟨h.os,h.tape,h.output,h.size,fun k hk _=>h.block k hk⟩
theorem Fr.weak {D D':Nat→Prop} {w0 w:World} (h:Fr D w0 w) (hd:∀ b,D b→D' b):Fr D' w0 w:=⟨h.os,h.tape,h.output,h.size,fun k hk hn=>h.block k hk fun hh=>hn (hd k hh)⟩
theorem Fr.below {w w':World} (h:Fr (fun _=>False) w w'):Below w.heap.size w w':=⟨h.os,h.tape,h.output,h.size,fun k hk=>h.block k hk id⟩
theorem Fr.trans {D D':Nat→Prop} {x y z:World} (h:Fr D x y) (k:Fr D' y z) (hd:∀ b,b < x.heap.size→D' b→D b):Fr D x z :=
 ⟨k.os.trans h.os,k.tape.trans h.tape,k.output.trans h.output,Nat.le_trans h.size k.size,fun b hb hn =>
  (k.block b (Nat.lt_of_lt_of_le hb h.size) (fun hh=>hn (hd b hb hh))).trans (h.block b hb hn)⟩
def tabG:Nat:=1
def deB:List Int:=[0,1,56,2,57,49,28,3,61,58,42,50,38,29,17,4,62,47,59,36,45,43,51,22,53,39,33,30,24,18,12,5,63,55,48,27,60,41,37,16,46,35,44,21,52,32,23,11,54,26,40,15,34,20,31,10,25,14,19,9,13,8,7,6]
def Laid (w:World):Prop:=∀ k,k < 64→w.cell? ⟨tabG,k,none⟩=some (.int .u8 (deB.getD k 0))
theorem Laid.lt {w:World} (h:Laid w):tabG < w.heap.size:=by
 have h0:=h 0 (by omega)
 unfold World.cell? at h0
 cases hb:w.heap[tabG]? with
 | none=>rw [hb] at h0; cases h0
 | some o=>exact (Array.getElem?_eq_some_iff.1 hb).1
theorem Laid.fr {D:Nat→Prop} {w w':World} (h:Laid w) (f:Fr D w w') (hd:¬ D tabG):Laid w':=fun k hk=>by
 rw [← h k hk]
 simp only [World.cell?,f.block tabG h.lt hd]
def Blk (β:Env) (A:Nat→Prop) (w:World) (x:Loc) (r:Row):Prop :=
 x.1 < w.heap.size∧(∀ k v,r.cells[k]? = some v → ∃ u,w.cell? ⟨x.1,x.2+k,none⟩=some u∧v.is β A w u) ∧
 (r.own=true → ∃ (arr:Array Value) (e:TypeId),w.heap[x.1]? = some (.cells arr e (0,0))∧x.2+x.3≤arr.size)
def live (m:Rows) (id:Nat):Prop:=∃ r,row? m id=some r
def V.lv (m:Rows) (v:V):Prop:=∀ id,v.id? = some id→live m id
def alw (A:Nat→Prop) (β:Env) (m:Rows) (b:Nat):Prop:=A b ∧ ∀ id r,row? m id=some r→r.own=true→(β id).1≠b
structure Mem (β:Env) (A:Nat→Prop) (m:Rows) (w:World):Prop where
 blk:∀ id r,row? m id=some r→Blk β (alw A β m) w (β id) r
 inj:∀ i j ri rj,row? m i=some ri→row? m j=some rj→ri.own=true→(rj.own=true∨rj.cells≠[])→(β i).1=(β j).1→i=j
 lv:∀ id r,row? m id=some r → ∀ v:V,v∈r.cells→v.lv m
def RO (m m':Rows):Prop:=∀ i r,row? m i=some r→r.own=false→row? m' i=some r
theorem RO.trans {m m' m'':Rows} (h:RO m m') (k:RO m' m''):RO m m'':=fun i r hi ho=>k i r (h i r hi ho) ho
def CSpec (P:Program) (f:FuncId) (args:Array Value) (r:Value):Prop:=∀ w,Laid w→Calls P f args w fun e w'=>e = .returned r∧Below w.heap.size w w'
def more (A:Nat→Prop) (β:Env) (m:Rows) (w:World) (b:Nat):Prop:=A b∨(∃ i ri,row? m i=some ri∧ri.own=true∧b=(β i).1)∨w.heap.size≤b
def FSpec (P:Program) (f:FuncId) (args:List V) (m:Rows) (r:V) (m':Rows):Prop :=
 ∀ (w:World) (β:Env) (A:Nat→Prop) (vals:List Value),Laid w→(∀ i ri,row? m i=some ri→ri.own=true→(β i).1≠tabG)→Mem β A m w→isL β (alw A β m) w args vals→Calls P f vals.toArray w fun e w'=>∃ (β':Env) (u:Value),(∀ i,i < m.length→β' i=β i)∧(∀ i ri,m.length≤i→row? m' i=some ri→ri.own=true→w.heap.size≤(β' i).1) ∧
   e = .returned u∧r.is β' (alw (more A β m w) β' m') w' u∧Mem β' (more A β m w) m' w' ∧ Fr (fun k=>∃ i ri,row? m i=some ri∧ri.own=true∧k=(β i).1) w w' ∧ RO m m'
inductive Ob where
 | val (s:Sem Next) (v:Value)
 | call (f:FuncId) (args:Array Value) (r:Value)
 | fcall (f:FuncId) (args:List V) (m:Rows) (r:V) (m':Rows)
 | prop (p:Prop)
def Ob.holds (P:Program):Ob→Prop
 | .val s v=>sval P s=some (.value v)
 | .call f args r=>CSpec P f args r
 | .fcall f args m r m'=>FSpec P f args m r m'
 | .prop p=>p
def Holds (P:Program):List Ob→Prop
 | []=>True
 | o::r=>o.holds P∧Holds P r
theorem holds_append {P:Program}:∀ {a b:List Ob},Holds P (a++b)→Holds P a∧Holds P b
 | [],_,h=>⟨trivial,h⟩
 | _::_,_,h=>⟨⟨h.1,(holds_append h.2).1⟩,(holds_append h.2).2⟩
theorem hP {P:Program} {p:Prop} {r:List Ob} (h:p) (t:Holds P r):Holds P (.prop p::r):=⟨h,t⟩
theorem hC {P:Program} {f:FuncId} {args:Array Value} {v:Value} {r:List Ob} (h:CSpec P f args v) (t:Holds P r):Holds P (.call f args v::r):=⟨h,t⟩
theorem hF {P:Program} {f:FuncId} {args:List V} {m m':Rows} {v:V} {r:List Ob} (h:FSpec P f args m v m') (t:Holds P r):Holds P (.fcall f args m v m' :: r):=⟨h,t⟩
theorem hV {P:Program} {s:Sem Next} {v:Value} {r:List Ob} (h:sval P s=some (.value v)) (t:Holds P r):Holds P (.val s v::r):=⟨h,t⟩
theorem hN {P:Program}:Holds P []:=trivial
inductive Eff where
 | val (v:V)
 | new (cells:List V) (t:TypeId) (r:Nat→V)
 | put (id off:Nat) (vs:List V)
 | all (m:Rows) (v:V)
 | app (kill:Option Nat) (cells:List V) (r:Nat→V)
def size? (P:Program) (t:TypeId):Option Nat:=(P.info? t).map (·.size)
def agg? (P:Program) (t:TypeId):Option Bool:=sval P (isAgg t)
def splice (l:List V) (off:Nat):List V→List V
 | []=>l
 | v::r=>splice (l.set off v) (off+1) r
inductive Ans where
 | fix (v:Value)
 | is (v:V)
 | call (r:V) (m':Rows)
 | sub (chk:Bool) (pl:List Nat) (r:V) (m':Option Rows)
 | eqs
 | mask (b:List Bool)
 | read (r:Value)
 | readf (r:Value)
 | app
 | maskN (b:List Bool)
 | data (r:V)
 | conv (l:List (Tmp × V))
def litCells (t:TypeId) (len:Nat) (parts:Array (Nat × Value)):Sem (TypeId × Array Value):=do
 let .slice elem ← underlying t | stuck "buildSlice: slice type expected"
 let size ← sizeOf elem
 if len*size > 2^24 then unsupported (.resourceLimit "buildSlice: more than 2^24 cells")
 let zero ← if len*size=0 then pure #[] else do pure (← zeroValue elem).cells
 let some cells:=Instr.fill (fun i=>some (i*size,size)) ((Array.range (len*size)).map (zero[· % zero.size]!)) parts.toList
  | stuck "buildSlice: a part of the wrong size"
 pure (elem,cells)
theorem buildSlice_run {P:Program} {w:World} {t e:TypeId} {len:Nat} {parts:Array (Nat × Value)} {cells:Array Value} (h:sval P (litCells t len parts)=some (e,cells)) :
 (Instr.buildSlice t len parts).run P w = .ok (.slice (some ⟨w.heap.size,0,none⟩) len len) (w.alloc (.cells cells e (0,0))):=by
 have hr:=sval_run h w
 unfold litCells at hr
 unfold Instr.buildSlice
 revert hr
 simp only [Sem.run_bind]
 cases hu:(underlying t).run P w with
 | halt x w1=>intro hr; simp [Result.andThen] at hr
 | ok d w1 =>
   simp only [Result.andThen_ok]
   cases d with
   | slice elem =>
     simp only [Sem.run_bind]
     cases hs:(sizeOf elem).run P w1 with
     | halt x w2=>intro hr; simp [Result.andThen] at hr
     | ok size w2 =>
       simp only [Result.andThen_ok]
       by_cases hb:len*size > 2^24
       ·intro hr
        rw [if_pos hb] at hr
        simp [Sem.run_bind,unsupported,Result.andThen,Sem.run] at hr
       rw [if_neg hb,if_neg hb]
       have fin : ∀ (zero : Array Value) (w3 : World), (match Instr.fill (fun i => some (i * size, size)) ((Array.range (len * size)).map (fun x => zero[x % zero.size]!)) parts.toList with
        | some cells=>(pure (elem,cells):Sem (TypeId × Array Value))
        | _=>stuck "buildSlice: a part of the wrong size").run P w3 = .ok (e,cells) w →
        (match Instr.fill (fun i=>some (i*size,size)) ((Array.range (len*size)).map (fun x=>zero[x%zero.size]!)) parts.toList with
         | some cells=>(do pure (.slice (some (← newRow elem cells)) len len):Sem Value)
         | _=>stuck "buildSlice: a part of the wrong size").run P w3 = .ok (.slice (some ⟨w.heap.size,0,none⟩) len len) (w.alloc (.cells cells e (0,0))):=by
        intro zero w3
        cases hf:Instr.fill (fun i=>some (i*size,size)) ((Array.range (len*size)).map (fun x=>zero[x%zero.size]!)) parts.toList with
        | none=>intro hr; simp [stuck,Sem.run] at hr
        | some cs =>
          intro hr
          simp [Sem.run] at hr
          obtain ⟨⟨rfl,rfl⟩,rfl⟩:=hr
          simp [newRow]
       by_cases hz0:len*size=0
       ·rw [if_pos hz0,if_pos hz0]
        simp only [Sem.run_bind,Sem.run_pure,Result.andThen_ok]
        exact fin _ _
       rw [if_neg hz0,if_neg hz0]
       simp only [Sem.run_bind]
       cases hzv:(zeroValue elem).run P w2 with
       | halt x w3=>intro hr; simp [Result.andThen] at hr
       | ok z w3 =>
         simp only [Sem.run_pure,Result.andThen_ok]
         exact fin _ _
   | _=>intro hr; simp [stuck,Sem.run] at hr
def eqFs (P:Program) (g:TypeId→Value→Value→Option Bool) (xs ys:Array Value):List Field→Option Bool
 | []=>some true
 | f :: fs => if f.name ≠ "_" then match sval P (part f.type xs f.offset), sval P (part f.type ys f.offset) with
     | some a,some b=>match g f.type a b,eqFs P g xs ys fs with
       | some r,some q=>some (r&&q)
       | _,_=>none
     | _,_=>none
   else none
def eqV (P:Program):Nat→TypeId→Value→Value→Option Bool
 | 0,_,_,_=>none
 | n+1,t,x,y=>match P.underlying t,x,y with
   | some .bool,.bool a,.bool b=>some (a==b)
   | some (.int _),.int k a,.int k' b=>if k=k' then some (a==b) else none
   | some .string,.string a,.string b=>some (a==b)
   | some (.struct fs),.agg xs,.agg ys=>if P.stoodInHeld t=false then eqFs P (eqV P n) xs ys fs.toList else none
   | _,_,_=>none
theorem eqFs_run {P:Program} {g:TypeId→Value→Value→Option Bool} {d:Nat} {xs ys:Array Value} (hg:∀ t x y b,g t x y=some b → ∀ w,(Op.equalIn d t x y).run P w = .ok b w) :
 ∀ (fs:List Field) (b:Bool),eqFs P g xs ys fs=some b → ∀ w,(Op.eqFields d xs ys fs).run P w = .ok b w
 | [],b,h,w=>by
   simp only [eqFs,Option.some.injEq] at h
   subst h
   rfl
 | f::fs,b,h,w=>by
   unfold eqFs at h
   split at h
   ·rename_i hn
    split at h
    ·rename_i a c ha hc
     split at h
     ·rename_i r q hr hq
      simp only [Option.some.injEq] at h
      subst h
      unfold Op.eqFields
      rw [if_pos hn]
      simp only [Sem.run_bind,sval_run ha,sval_run hc,Result.andThen_ok,hg _ _ _ _ hr]
      cases r with
      | false=>simp [Sem.run]
      | true =>
        simp only [Bool.not_true,Bool.false_eq_true,if_false,Bool.true_and]
        exact eqFs_run hg fs q hq w
     cases h
    cases h
   cases h
theorem eqV_run {P:Program}:∀ (n:Nat) (t:TypeId) (x y:Value) (b:Bool),eqV P n t x y=some b → ∀ d,n≤d → ∀ w,(Op.equalIn d t x y).run P w = .ok b w:=by
 intro n
 induction n with
 | zero=>intro t x y b h; simp [eqV] at h
 | succ n ih =>
   intro t x y b h d hd w
   obtain ⟨d,rfl⟩:∃ e,d=e+1:=⟨d - 1,by omega⟩
   unfold eqV at h
   split at h
   ·rename_i ht
    simp only [Option.some.injEq] at h
    subst h
    exact run_equalIn_bool w d t _ _ ht
   ·rename_i ht
    split at h
    ·rename_i hk
     subst hk
     simp only [Option.some.injEq] at h
     subst h
     exact run_equalIn_int w d t _ _ _ _ ht
    cases h
   ·rename_i ht
    simp only [Option.some.injEq] at h
    subst h
    rw [run_equalIn_string w d t _ _ ht,beq_toListBytes]
   ·rename_i fs xs ys ht
    split at h
    ·rename_i hp
     have hf:P.fieldsOf t=fs:=by simp [Program.fieldsOf,ht]
     rw [run_equalIn_struct w d t xs ys (by rw [hf]; exact ht) hp,hf]
     exact eqFs_run (fun t x y b h w=>ih t x y b h d (by omega) w) fs.toList b h w
    cases h
   cases h
theorem eqFs_self {P:Program} {g:TypeId→Value→Value→Option Bool} {xs:Array Value} (hg:∀ t x b,g t x x=some b→b=true):∀ (fs:List Field) (b:Bool),eqFs P g xs xs fs=some b→b=true
 | [],b,h=>by
   simp only [eqFs,Option.some.injEq] at h
   exact h.symm
 | f::fs,b,h=>by
   unfold eqFs at h
   split at h
   ·split at h
    ·rename_i a c ha hc
     rw [ha] at hc
     cases hc
     split at h
     ·rename_i r q hr hq
      simp only [Option.some.injEq] at h
      subst h
      rw [hg _ _ _ hr,eqFs_self hg fs q hq]
      rfl
     cases h
    cases h
   cases h
theorem eqV_self {P:Program}:∀ (n:Nat) (t:TypeId) (x:Value) (b:Bool),eqV P n t x x=some b→b=true:=by
 intro n
 induction n with
 | zero=>intro t x b h; simp [eqV] at h
 | succ n ih =>
   intro t x b h
   unfold eqV at h
   cases hu:P.underlying t with
   | none=>rw [hu] at h; cases h
   | some d =>
     rw [hu] at h
     cases d<;>cases x<;>first
      | (cases h; done)
      | (simp only [BEq.rfl,if_true,Option.some.injEq] at h; exact h.symm)
      | (rename_i q; have hq:(q==q)=true:=(by rw [beq_toListBytes]; exact beq_self_eq_true _); simp only [hq,Option.some.injEq] at h; exact h.symm)
      | (simp only at h
         split at h
         ·exact eqFs_self (fun t x b h=>ih t x b h) _ b h
         cases h)
def eqSame (P:Program) (s:St) (o:Oper):Option (Bool × Prop) :=
 match o.op with
 | .binOp op t x y _=>match op,s.at x,s.at y with
   | .eql,.c (.agg xs),.c (.agg ys)=>if P.eqGuardType P.depth t=false∧(eqV P 12 t (.agg xs) (.agg ys)).isSome=true then some (true,Value.agg xs = .agg ys) else none
   | .neq,.c (.agg xs),.c (.agg ys)=>if P.eqGuardType P.depth t=false∧(eqV P 12 t (.agg xs) (.agg ys)).isSome=true then some (false,Value.agg xs = .agg ys) else none
   | _,_,_=>none
 | _=>none
def eqAgg (P:Program) (ρ:Operand→Value) (o:Oper):Option Value :=
 match o.op with
 | .binOp op t x y _=>match op,ρ x,ρ y with
   | .eql,.agg xs,.agg ys=>if P.eqGuardType P.depth t=false then (eqV P 12 t (.agg xs) (.agg ys)).map .bool else none
   | .neq,.agg xs,.agg ys=>if P.eqGuardType P.depth t=false then (eqV P 12 t (.agg xs) (.agg ys)).map fun b=>.bool (!b) else none
   | _,_,_=>none
 | _=>none
theorem eqAgg_run {P:Program} {ρ:Operand→Value} {o:Oper} {v:Value} (h:eqAgg P ρ o=some v):∀ w,(execOp ρ o).run P w = .ok (.value v) w:=by
 intro w
 unfold eqAgg at h
 split at h
 ·rename_i op t x y yt hop
  split at h
  ·rename_i xs ys hx hy
   split at h
   ·rename_i hg
    cases he:eqV P 12 t (.agg xs) (.agg ys) with
    | none=>rw [he] at h; cases h
    | some b =>
      rw [he] at h
      simp only [Option.map_some,Option.some.injEq] at h
      subst h
      unfold execOp
      simp only [hop,hx,hy,Sem.run_bind,run_eqGuard_agg w _ t x y xs ys hg,Result.andThen_ok,run_eql_struct,eqV_run 12 t _ _ b he 10000 (by decide) w]
      rfl
   cases h
  ·rename_i xs ys hx hy
   split at h
   ·rename_i hg
    cases he:eqV P 12 t (.agg xs) (.agg ys) with
    | none=>rw [he] at h; cases h
    | some b =>
      rw [he] at h
      simp only [Option.map_some,Option.some.injEq] at h
      subst h
      unfold execOp
      simp only [hop,hx,hy,Sem.run_bind,run_eqGuard_agg w _ t x y xs ys hg,Result.andThen_ok,run_neq_struct,eqV_run 12 t _ _ b he 10000 (by decide) w]
      rfl
   cases h
  cases h
 cases h
def effPure (P:Program) (s:St) (o:Oper) (a:Option Ans):Option (Eff × List Ob) :=
 match o.op with
 | .select ..=>none
 | _ =>
   if o.op.operands.toList.all (fun x=>(s.at x).isC) then
    match a with
    | some (.fix v)=>some (.val (.c v),[.val (execOp s.rho o) v])
    | some _=>none
    | none=>match eqAgg P s.rho o with
      | some v=>some (.val (.c v),[])
      | none=>match sval P (execOp s.rho o) with
        | some (.value v)=>some (.val (.c v),[])
        | _=>none
   else none
def keeps (m m':Rows):Bool:=decide (m.length≤m'.length)&&(List.range m.length).all fun i=>(row? m i).map (·.own)==(row? m' i).map (·.own)
def V.there (m:Rows) (v:V):Bool:=match v.id? with
 | some id=>(row? m id).isSome
 | none=>true
def callee? (P:Program) (f:FuncId):Bool :=
 match P.funcs[f]? with
 | some fn=>fn.name != "runtime.NumGoroutine" && fn.body.isSome
 | none=>false
def idx (id:Nat):List Nat→Nat→Option Nat
 | [],_=>none
 | x::r,k=>if x=id then some k else idx id r (k+1)
theorem idx_some {id:Nat}:∀ {l:List Nat} {k j:Nat},idx id l k=some j→k≤j∧l[j - k]? = some id
 | [],k,j,h=>by cases h
 | x::r,k,j,h=>by
   unfold idx at h
   split at h
   ·rename_i hx
    simp only [Option.some.injEq] at h
    subst h
    simp [hx]
   obtain ⟨h1,h2⟩:=idx_some h
   refine ⟨by omega,?_⟩
   rw [show j - k=(j - (k+1))+1 by omega]
   simpa using h2
def Flat:Rows→Prop
 | []=>True
 | some r::t=>(∀ v:V,v∈r.cells→v.id? = none)∧Flat t
 | none::t=>Flat t
theorem flat_at:∀ {m:Rows},Flat m → ∀ i r,row? m i=some r → ∀ v:V,v∈r.cells→v.id? = none
 | [],_,i,r,h=>by simp [row?] at h
 | x::t,hf,i,r,h=>by
   cases i with
   | zero =>
     simp only [row?,List.getElem?_cons_zero,Option.bind_some] at h
     subst h
     exact hf.1
   | succ i =>
     have ht:Flat t:=by cases x with
      | none=>exact hf
      | some y=>exact hf.2
     exact flat_at ht i r (by simpa [row?] using h)
def flatB (m:Rows):Bool:=m.all fun
 | some r=>r.cells.all V.isC
 | none=>true
theorem noid_of {v:V} (h:v.isC=true):v.id? = none:=by
 cases v with
 | c v=>rfl
 | _=>simp [V.isC] at h
theorem flatB_flat:∀ {m:Rows},flatB m=true→Flat m
 | [],_=>trivial
 | x::t,h=>by
   unfold flatB at h
   rw [List.all_cons,Bool.and_eq_true] at h
   have ht:Flat t:=flatB_flat h.2
   cases x with
   | none=>exact ht
   | some r=>exact ⟨fun v hv=>noid_of (List.all_eq_true.1 h.1 v hv),ht⟩
theorem idx_none {id:Nat}:∀ {l:List Nat} {k:Nat},idx id l k=none→id ∉ l
 | [],_,_=>by simp
 | x::r,k,h=>by
   unfold idx at h
   split at h
   ·cases h
   rename_i hx
   have:=idx_none h
   simp only [List.mem_cons,not_or]
   exact ⟨fun e=>hx e.symm,this⟩
def dd:List Nat→List Nat
 | []=>[]
 | x::r=>if (dd r).contains x then dd r else x::dd r
theorem mem_dd {x:Nat}:∀ {l:List Nat},x∈dd l↔x∈l
 | []=>Iff.rfl
 | y::r=>by
   unfold dd
   split
   ·rename_i h
    have h:y∈dd r:=by simpa using h
    rw [mem_dd (l:=r),List.mem_cons]
    exact ⟨.inr,fun hh=>hh.elim (fun e=>e▸mem_dd.1 h) id⟩
   rw [List.mem_cons,List.mem_cons,mem_dd (l:=r)]
def ids (al:List V):List Nat:=dd (al.filterMap V.id?)
def unrd (pl:List Nat) (cp:Nat→Nat→Nat):V→V
 | .any=>.any
 | .c v=>.c v
 | .p id off=>.p ((idx id pl 0).getD 0) off
 | .sl id off len cap=>.sl ((idx id pl 0).getD 0) off len cap
 | .sd id len sz=>.sl ((idx id pl 0).getD 0) 0 len (cp id sz)
 | .ts id off len cap w=>.ts ((idx id pl 0).getD 0) off len cap w
 | .td id len sz w=>.ts ((idx id pl 0).getD 0) 0 len (cp id sz) w
 | .fn g id off=>.fn g ((idx id pl 0).getD 0) off
 | .gr ..=>.any
 | v=>v
def roM (m:Rows) (pl:List Nat):Rows:=pl.map fun id=>(row? m id).map fun q=>⟨false,q.cells⟩
def V.grows:V→Bool
 | .sd ..=>true
 | .td ..=>true
 | _=>false
def readOb (P:Program) (g:FuncId) (al:List V) (m:Rows) (r:Value):List Ob :=
 match al.any V.grows with
 | false=>[.fcall g (al.map (unrd (ids al) fun _ _=>0)) (roM m (ids al)) (.c r) (roM m (ids al))]
 | true=>[.prop (∀ cp:Nat→Nat→Nat,FSpec P g (al.map (unrd (ids al) cp)) (roM m (ids al)) (.c r) (roM m (ids al)))]
def readOk (m:Rows) (al:List V):Bool:=al.all V.known&&(ids al).all fun id=>(row? m id).isSome
def touch (s:St) (o:Oper):List Nat:=match o.op with
 | .load _ x=>match s.at x with
   | .p id _=>[id]
   | _=>[]
 | .store _ x _=>match s.at x with
   | .p id _=>[id]
   | _=>[]
 | .convert _ _ x=>match s.at x with
   | .sl id _ _ _=>[id]
   | .gr id _ _=>[id]
   | _=>[]
 | .call c=>match c.callee with
   | .value f=>(s.at f).id?.toList++(c.args.toList.map s.at).filterMap V.id?
   | .builtin .append=>match c.args.toList.map s.at with
     | [x,.sl j _ _ _]=>j::x.id?.toList
     | [x,.dv _ _]=>x.id?.toList
     | _=>[]
   | _=>[]
 | _=>[]
def win (l:List V) (off n:Nat):List V:=(l.drop off).take n
def V.fre (v:V):Bool:=v.id?.isNone
def appB (olds news:List V) (n k sz:Nat):Bool:=decide (news.length=k*sz)&&news.all V.isC&&news.all one&&decide (olds.length=n*sz)&&olds.all V.isC&&decide (0 < k)
def appG (olds news:List V) (n k sz:Nat):Prop:=news.length=k*sz∧news.all V.fre=true∧news.all one=true∧olds.length=n*sz∧olds.all V.fre=true∧0 < k
def elems (n sz:Nat) (f:Nat→Nat→D):List V:=(List.range n).flatMap fun i=>(List.range sz).map fun k=>mk1 (f i k)
def appE (P:Program) (l:List V) (ts:List TypeId) (m:Rows):Option (Eff × List Ob) :=
 match l,ts with
 | [x,.sl j off k _],[t,t']=>match decide (t=t'),P.underlying t,row? m j with
   | true,some (.slice e),some q=>match P.info? e with
     | some i=>match i.zero with
       | some z =>
         if 0 < i.size∧z.cells.size=i.size then
          match x with
          | .c (.slice none 0 0)=>some (.app none (win q.cells off (k*i.size)) (fun N=>.sd N k i.size),[.prop (appB [] (win q.cells off (k*i.size)) 0 k i.size=true),.prop (k≤9223372036854775807∧k*i.bytes≤140737488355328)])
          | .sl id o n cap=>match row? m id with
            | some r => if n = cap then
             some (.app none (win r.cells o (n*i.size)++win q.cells off (k*i.size)) (fun N=>.sd N (n+k) i.size),[.prop (appB (win r.cells o (n*i.size)) (win q.cells off (k*i.size)) n k i.size=true),.prop (n+k≤9223372036854775807∧(n+k)*i.bytes≤140737488355328)]) else none
            | none=>none
          | .gr id n sz=>match row? m id with
            | some r => if sz = i.size then
             some (.app (some id) (r.cells++win q.cells off (k*i.size)) (fun N=>.gr N (n+k) i.size),[.prop (appG r.cells (win q.cells off (k*i.size)) n k i.size∧(r.own=true∨n=0)),.prop (n+k≤9223372036854775807∧(n+k)*i.bytes≤140737488355328)]) else none
            | none=>none
          | .sd id n sz=>match row? m id with
            | some r => if r.own = true ∧ sz = i.size then
             some (.app (some id) (r.cells++win q.cells off (k*i.size)) (fun N=>.sd N (n+k) i.size),[.prop (appB r.cells (win q.cells off (k*i.size)) n k i.size=true),.prop (n+k≤9223372036854775807∧(n+k)*i.bytes≤140737488355328)]) else none
            | none=>none
          | _=>none
         else none
       | none=>none
     | none=>none
   | _,_,_=>none
 | [.gr id n sz,.dv false [.sl k sz' f]],[t,t']=>match decide (t=t'),P.underlying t,row? m id with
   | true,some (.slice e),some r=>match P.info? e with
     | some i=>match i.zero with
       | some z =>
         if 0 < i.size∧z.cells.size=i.size∧sz=i.size∧sz' = i.size then
          some (.app (some id) (r.cells++elems k i.size f) (fun N=>.gr N (n+k) i.size),[.prop (appG r.cells (elems k i.size f) n k i.size∧(r.own=true∨n=0)),.prop (n+k≤9223372036854775807∧(n+k)*i.bytes≤140737488355328)])
         else none
       | none=>none
     | none=>none
   | _,_,_=>none
 | _,_=>none
def V.toD?:V→Option D
 | .c (.agg _)=>none
 | .c x=>some (.v x)
 | .dv false [d]=>some d
 | _=>none
def D.plain:D→Bool
 | .v _=>true
 | _=>false
def D.val:D→Value
 | .v x=>x
 | _=>undef
def mkA (l:List D):V:=match l.all D.plain with
 | true=>.c (.agg (l.map D.val).toArray)
 | false=>.dv true l
def toDs:List V→Option (List D)
 | []=>some []
 | v::r=>match v.toD?,toDs r with
   | some d,some l=>some (d::l)
   | _,_=>none
def fillV (place:Nat→Option (Nat × Nat)) (cells:List V):List (Nat × V)→Option (List V)
 | []=>some cells
 | (i,v)::r=>match place i with
   | some (off,size)=>if v.cells.length=size∧off+size≤cells.length∧v.has=true∧v.id?.isNone=true then fillV place (splice cells off v.cells) r else none
   | none=>none
def bAt (s:ByteArray) (i:Nat):Nat:=(s.data.toList.getD i 0).toNat
def eff0 (P:Program) (s:St) (o:Oper) (a:Option Ans):Option (Eff × List Ob) :=
 match o.op with
 | .move x=>if (s.at x).has then some (.val (s.at x),[]) else none
 | .assign x=>if (s.at x).has then some (.val (s.at x),[]) else none
 | .nilCheck x=>match s.at x with
   | .p i j=>some (.val (.p i j),[])
   | .e l=>some (.val (.e l),[])
   | _=>effPure P s o a
 | .fieldAddr t x f=>match s.at x with
   | .p id off=>match P.underlying t with
     | some (.struct fields)=>match fields[f]? with
       | some fd=>match size? P fd.type with
         | some (_+1)=>some (.val (.p id (off+fd.offset)),[])
         | _=>none
       | none=>none
     | _=>none
   | .e l=>match P.underlying t with
     | some (.struct fields)=>match fields[f]? with
       | some fd=>match size? P fd.type with
         | some (_+1)=>some (.val (.e (l.drop fd.offset)),[])
         | _=>none
       | none=>none
     | _=>none
   | _=>none
 | .indexAddr t x i=>match s.at x,s.at i with
   | .dv false [.sl m sz f],.c (.int _ n)=>match P.underlying t with
     | some (.slice e)=>match size? P e with
       | some sz'=>if sz' = sz∧0 < sz then some (.val (.e ((List.range sz).map (f n.toNat))),[.prop (0≤n∧n < m)]) else none
       | none=>none
     | _=>none
   | .sl id off len _,.c (.int _ n)=>match P.underlying t with
     | some (.slice e)=>match size? P e with
       | some sz=>some (.val (.p id (off+n.toNat*sz)),[.prop (0≤n∧n < len)])
       | none=>none
     | _=>none
   | .sd id len _,.c (.int _ n)=>match P.underlying t with
     | some (.slice e)=>match size? P e with
       | some sz=>some (.val (.p id (n.toNat*sz)),[.prop (0≤n∧n < len)])
       | none=>none
     | _=>none
   | .gr id len _,.c (.int _ n)=>match P.underlying t with
     | some (.slice e)=>match size? P e with
       | some sz=>some (.val (.p id (n.toNat*sz)),[.prop (0≤n∧n < len)])
       | none=>none
     | _=>none
   | _,_=>effPure P s o a
 | .load t x=>match s.at x with
   | .p id off=>match row? s.m id with
     | some r=>match agg? P t,size? P t,a with
       | some true,some n,none =>
         if ((r.cells.drop off).take n).length=n∧((r.cells.drop off).take n).all V.isC=true then some (.val (.c (.agg (((r.cells.drop off).take n).map V.val).toArray)),[])
         else match toDs ((r.cells.drop off).take n) with
          | some l=>if l.length=n then some (.val (mkA l),[]) else none
          | none=>none
       | some true,some n,some (.fix (.agg cs))=>some (.val (.c (.agg cs)),[.prop ((r.cells.drop off).take n=cs.toList.map .c∧cs.size=n)])
       | some false,_,none=>match r.cells[off]? with
         | some v=>some (.val v,[])
         | none=>none
       | some false,_,some (.fix v)=>some (.val (.c v),[.prop (r.cells[off]? = some (.c v))])
       | some true,some n,some (.data (.dv true l))=>some (.val (mkA l),[.prop (toDs ((r.cells.drop off).take n)=some l∧l.length=n)])
       | some false,_,some (.data v)=>some (.val v,[.prop (r.cells[off]? = some v)])
       | _,_,_=>none
     | none=>none
   | .c (.pointer (some ad))=>match a with
     | some (.fix v)=>some (.val (.c v),[.prop (∀ w,Laid w→(Instr.loadAt t (.pointer (some ad))).run P w = .ok v w)])
     | _=>none
   | .e l=>match agg? P t,size? P t,l with
     | some true,some n,l=>if (l.take n).length=n then some (.val (mkA (l.take n)),[]) else none
     | some false,_,d::_=>some (.val (mk1 d),[])
     | _,_,_=>none
   | _=>none
 | .store t x y=>match s.at x with
   | .p id off=>match row? s.m id,size? P t with
     | some r,some n =>
       if r.own=true∧(s.at y).cells.length=n∧(s.at y).cells.all one=true∧(s.at y).has=true then
        match a with
        | none=>if off+(s.at y).cells.length≤r.cells.length then some (.put id off (s.at y).cells,[]) else none
        | some _=>some (.put id off (s.at y).cells,[.prop (off+(s.at y).cells.length≤r.cells.length)])
       else none
     | _,_=>none
   | _=>none
 | .alloc t=>match sval P (zeroValue t) with
   | some z=>some (.new (V.c z).cells t (fun id=>.p id 0),[])
   | none=>none
 | .box t x=>if (s.at x).has then some (.new (s.at x).cells t (fun id=>.p id 0),[]) else none
 | .makeSlice t x y=>match s.at x,s.at y with
   | .c (.int .i64 n),.c (.int .i64 c)=>match P.underlying t with
     | some (.slice e)=>match P.info? e with
       | some i=>match i.zero with
         | some z =>
           if i.size=1∧z.cells.size=1 then
            some (.new (List.replicate c.toNat (.c (z.cells.getD 0 undef))) e (fun id=>.sl id 0 n.toNat c.toNat),[.prop (0≤n∧n≤c∧i.bytes*c≤281474976710656∧c < 9223372036854775808)])
           else if i.size=z.cells.size∧0 < i.size then
            some (.new (List.replicate c.toNat (z.cells.toList.map V.c)).flatten e (fun id=>.sl id 0 n.toNat c.toNat),[.prop (0≤n∧n≤c∧i.bytes*c≤281474976710656∧c < 9223372036854775808)])
           else none
         | none=>none
       | none=>none
     | _=>none
   | _,_=>none
 | .slice t x lo hi none=>match s.at x with
   | .sl id off len cap=>match P.underlying t with
     | some (.slice e)=>match size? P e,(match lo with | none=>some (0:Int) | some l=>match s.at l with | .c (.int _ n)=>some n | _=>none),(match hi with | none=>some (len:Int) | some h=>match s.at h with | .c (.int _ n)=>some n | _=>none) with
       | some sz,some l,some h=>some (.val (.sl id (off+(if cap=l.toNat then 0 else l.toNat*sz)) (h.toNat - l.toNat) (cap - l.toNat)),[.prop (0≤l∧l≤h∧h≤cap)])
       | _,_,_=>none
     | _=>none
   | .dv false [.sl len sz0 f]=>match P.underlying t with
     | some (.slice e)=>match size? P e,(match lo with | none=>some (0:Int) | some l=>match s.at l with | .c (.int _ n)=>some n | _=>none),(match hi with | none=>some (len:Int) | some h=>match s.at h with | .c (.int _ n)=>some n | _=>none) with
       | some sz,some l,some h=>if sz=sz0 then some (.val (.dv false [.sl (h.toNat - l.toNat) sz (fun i=>f (i+l.toNat))]),[.prop (0≤l∧l≤h∧h≤len)]) else none
       | _,_,_=>none
     | _=>none
   | _=>effPure P s o a
 | .convert t u x=>match s.at x with
   | .sl id off len _=>match row? s.m id,P.underlying t,P.underlying u,a with
     | some r,some (.slice e),some .string,some (.fix (.string str)) =>
       match P.underlying e with
       | some (.int .u8)=>some (.val (.c (.string str)),[.prop (∃ xs:List Int,str=strOfNums xs∧xs.length=len∧(r.cells.drop off).take len=xs.map fun n=>.c (.int .u8 n))])
       | _=>none
     | _,_,_,_=>none
   | .gr id len _=>match row? s.m id,P.underlying t,P.underlying u,a with
     | some r,some (.slice e),some .string,some (.fix (.string str)) =>
       match P.underlying e with
       | some (.int .u8)=>some (.val (.c (.string str)),[.prop (∃ xs:List Int,str=strOfNums xs∧xs.length=len∧r.cells.take len=xs.map fun n=>.c (.int .u8 n))])
       | _=>none
     | _,_,_,_=>none
   | _=>effPure P s o a
 | .call c=>match c.callee with
   | .value f=>match s.at f with
     | .c (.func (.func g) first captured) =>
       if callee? P g=true then
        match a with
        | some (.fix r)=>if c.args.toList.all (fun x=>(s.at x).isC)=true then some (.val (.c r),[.call g (first++c.args.map s.rho++captured) r]) else none
        | some (.read r)=>if first = #[]∧captured = #[]∧readOk s.m (c.args.toList.map s.at)=true∧flatB (roM s.m (ids (c.args.toList.map s.at)))=true then some (.val (.c r),readOb P g (c.args.toList.map s.at) s.m r) else none
        | some (.readf r)=>if first = #[]∧captured = #[]∧readOk s.m (c.args.toList.map s.at)=true then some (.val (.c r),.prop (Flat (roM s.m (ids (c.args.toList.map s.at))))::readOb P g (c.args.toList.map s.at) s.m r) else none
        | some (.data r) =>
          if first = #[]∧captured = #[]∧c.args.toList.all (fun x=>(s.at x).fre)=true∧r.fre=true then some (.val r,[.fcall g (c.args.toList.map s.at) [] r []]) else none
        | some (.call r m') =>
          if first = #[]∧captured = #[]∧keeps s.m m' = true∧r.there m' = true then some (.all m' r,[.fcall g (c.args.toList.map s.at) s.m r m']) else none
        | _=>none
       else effPure P s o a
     | .fn g id off=>match a with
       | some (.read r)=>if callee? P g=true∧readOk s.m (c.args.toList.map s.at++[.p id off])=true∧flatB (roM s.m (ids (c.args.toList.map s.at++[.p id off])))=true then some (.val (.c r),readOb P g (c.args.toList.map s.at++[.p id off]) s.m r) else none
       | _=>none
     | _=>none
   | .builtin .len=>match c.args.toList.map s.at,(c.argTypes[0]?).bind P.underlying with
     | [.sl _ _ len _],some (.slice _)=>some (.val (.c (.int .i64 len)),[])
     | [.sd _ len _],some (.slice _)=>some (.val (.c (.int .i64 len)),[])
     | [.gr _ len _],some (.slice _)=>some (.val (.c (.int .i64 len)),[])
     | [.dv false [.sl len _ _]],some (.slice _)=>some (.val (.c (.int .i64 len)),[])
     | _,_=>effPure P s o a
   | .builtin .append=>match a with
     | some .app=>appE P (c.args.toList.map s.at) c.argTypes.toList s.m
     | _=>effPure P s o a
   | _=>effPure P s o a
 | .buildSlice t len parts => if o.op.operands.toList.all (fun x => (s.at x).isC) then match sval P (litCells t len (parts.map fun (i, x) => (i, s.rho x))) with
  | some (e,cells)=>some (.new (cells.toList.map V.c) e (fun id=>.sl id 0 len len),[])
  | none=>none
   else match P.underlying t with
    | some (.slice e)=>match P.info? e with
      | some i=>match i.zero with
        | some z => if 0 < i.size ∧ len * i.size ≤ 2 ^ 24 ∧ z.cells.size = i.size then
         match fillV (fun j=>some (j*i.size,i.size)) (List.replicate len (z.cells.toList.map V.c)).flatten (parts.toList.map fun p=>(p.1,s.at p.2)) with
         | some cells=>some (.new cells e (fun id=>.sl id 0 len len),[])
         | none=>none
          else none
        | none=>none
      | none=>none
    | _=>none
 | .build t parts=>if o.op.operands.toList.all (fun x=>(s.at x).isC) then effPure P s o a else match P.underlying t with
   | some (.struct fields)=>match sval P (zeroValue t),sval P (fields.mapM fun f=>do pure (f.offset,← sizeOf f.type)) with
     | some z,some places=>match (fillV (places[·]?) (z.cells.toList.map V.c) (parts.toList.map fun p=>(p.1,s.at p.2))).bind toDs with
       | some l=>some (.val (mkA l),[])
       | none=>none
     | _,_=>none
   | _=>none
 | .field t x f=>match s.at x with
   | .dv true l=>match P.underlying t with
     | some (.struct fields)=>match fields[f]? with
       | some fd=>match agg? P fd.type,size? P fd.type with
         | some true,some n=>if ((l.drop fd.offset).take n).length=n then some (.val (mkA ((l.drop fd.offset).take n)),[]) else none
         | some false,some 1=>match l.drop fd.offset with
           | d::_=>some (.val (mk1 d),[])
           | []=>none
         | _,_=>none
       | none=>none
     | _=>none
   | _=>effPure P s o a
 | .extract x i=>match s.at x,i with
   | .ts id off len cap _,0=>some (.val (.sl id off len cap),[])
   | .ts _ _ _ _ w,1=>some (.val (.c w),[])
   | .td id len sz _,0=>some (.val (.sd id len sz),[])
   | .td _ _ _ w,1=>some (.val (.c w),[])
   | .tu l,i=>match l[i]? with
     | some (true,l)=>some (.val (mkA l),[])
     | some (false,[d])=>some (.val (mk1 d),[])
     | _=>none
   | _,_=>effPure P s o a
 | .makeFunc (.func g) first captured=>match first.toList,captured.toList.map s.at with
   | [],[.p id off]=>some (.val (.fn g id off),[])
   | _,_=>effPure P s o a
 | .index t x i=>match a with
   | some .app=>match s.at x,s.at i,P.underlying t with
     | .c (.string str),.c (.int _ n),some .string=>some (.val (.c (.int .u8 ((bAt str n.toNat:Nat):Int))),[.prop (0≤n∧n < str.size)])
     | _,_,_=>none
   | _=>effPure P s o a
 | _=>effPure P s o a
structure Keep (A A':Nat→Prop) (w w':World):Prop where
 size:w.heap.size≤w'.heap.size
 at_:∀ b,b < w.heap.size→A b→A' b∧w'.heap[b]? = w.heap[b]?
theorem Keep.refl (A:Nat→Prop) (w:World):Keep A A w w:=⟨Nat.le_refl _,fun _ _ h=>⟨h,rfl⟩⟩
theorem Keep.trans {A B D:Nat→Prop} {x y z:World} (h:Keep A B x y) (k:Keep B D y z):Keep A D x z:=⟨Nat.le_trans h.size k.size,fun b hb hA=>by
 obtain ⟨h1,h2⟩:=h.at_ b hb hA
 obtain ⟨h3,h4⟩:=k.at_ b (Nat.lt_of_lt_of_le hb h.size) h1
 exact ⟨h3,h4.trans h2⟩⟩
theorem D.Rep.keep {A A':Nat→Prop} {w w':World} (hk:Keep A A' w w'):∀ {d:D} {u:Value},d.Rep A w u→d.Rep A' w' u
 | .v x,u,h=>h
 | .sl n sz f,u,h=>by
   obtain ⟨a,cap,hu,hc,hs,hr⟩:=h
   refine ⟨a,cap,hu,hc,hs,fun i hi k hk'=>?_⟩
   obtain ⟨b,o,c,ha,hA,hb,hcell,hrep⟩:=hr i hi k hk'
   obtain ⟨h1,h2⟩:=hk.at_ b hb hA
   exact ⟨b,o,c,ha,h1,Nat.lt_of_lt_of_le hb hk.size,(by rw [← hcell]; simp only [World.cell?,h2]),D.Rep.keep hk hrep⟩
theorem RepL.keep {A A':Nat→Prop} {w w':World} (hk:Keep A A' w w'):∀ {l:List D} {us:List Value},RepL A w l us→RepL A' w' l us
 | [],[],_=>trivial
 | d::l,u::us,h=>⟨h.1.keep hk,RepL.keep hk h.2⟩
 | [],_::_,h=>h.elim
 | _::_,[],h=>h.elim
theorem RepV.keep {A A':Nat→Prop} {w w':World} (hk:Keep A A' w w') {b:Bool} {l:List D} {u:Value} (h:RepV A w b l u):RepV A' w' b l u:=by
 cases b with
 | true=>exact ⟨h.choose,h.choose_spec.1,h.choose_spec.2.keep hk⟩
 | false=>exact RepL.keep hk h
theorem RepT.keep {A A':Nat→Prop} {w w':World} (hk:Keep A A' w w'):∀ {l:List (Bool × List D)} {us:List Value},RepT A w l us→RepT A' w' l us
 | [],[],_=>trivial
 | (_,_)::l,u::us,h=>⟨RepV.keep hk h.1,RepT.keep hk h.2⟩
 | [],_::_,h=>h.elim
 | (_,_)::_,[],h=>h.elim
theorem up_same {β β':Env} {v:V} (hb:∀ id,v.id? = some id→β' id=β id):v.up β' = v.up β:=by
 cases v with
 | p id off=>simp only [V.up]; rw [hb id rfl]
 | sl id off len cap=>simp only [V.up]; rw [hb id rfl]
 | ts id off len cap w=>simp only [V.up]; rw [hb id rfl]
 | td id len sz w=>simp only [V.up]; rw [hb id rfl]
 | fn g id off=>simp only [V.up]; rw [hb id rfl]
 | sd id len sz=>simp only [V.up]; rw [hb id rfl]
 | _=>rfl
theorem V.dis.keep {β β':Env} {A A':Nat→Prop} {w w':World} {v:V} {u:Value} (h:v.dis β A w u) (hk:Keep A A' w w') (hb:∀ id,v.id? = some id→β' id=β id):v.dis β' A' w' u:=by
 cases v with
 | gr id n sz=>simp only [V.dis]; rw [hb id rfl]; exact h
 | dv b l=>exact RepV.keep hk h
 | e l =>
   obtain ⟨b,o,hu,hA,hl,hc⟩:=h
   obtain ⟨h1,h2⟩:=hk.at_ b hl hA
   refine ⟨b,o,hu,h1,Nat.lt_of_lt_of_le hl hk.size,fun k d hd=>?_⟩
   obtain ⟨c,hcell,hr⟩:=hc k d hd
   exact ⟨c,(by rw [← hcell]; simp only [World.cell?,h2]),hr.keep hk⟩
 | tu l=>exact ⟨h.choose,h.choose_spec.1,RepT.keep hk h.choose_spec.2⟩
 | _=>trivial
theorem V.is.keep {β β':Env} {A A':Nat→Prop} {w w':World} {v:V} {u:Value} (h:v.is β A w u) (hk:Keep A A' w w') (hb:∀ id,v.id? = some id→β' id=β id):v.is β' A' w' u :=
 ⟨fun hn=>by rw [h.1 hn,up_same hb],h.2.keep hk hb⟩
def V.det:V→Bool
 | .gr ..=>false
 | .dv ..=>false
 | .e _=>false
 | .tu _=>false
 | _=>true
theorem is_up {β:Env} {A:Nat→Prop} {w:World} {v:V} (h:v.det=true):v.is β A w (v.up β):=by
 refine ⟨fun _=>rfl,?_⟩
 cases v<;>first | trivial | cases h
theorem is_any {β:Env} {A:Nat→Prop} {w:World} {u:Value}:V.any.is β A w u:=⟨fun h=>(by cases h),trivial⟩
theorem is_c {β:Env} {A:Nat→Prop} {w:World} {u:Value}:(V.c u).is β A w u:=⟨fun _=>rfl,trivial⟩
theorem f2_get {I:V→Value→Prop}:∀ {l:List V} {us:List Value},F2 I l us→us.length=l.length ∧ ∀ (k:Nat) (v:V),l[k]? = some v → ∃ u,us[k]? = some u∧I v u
 | [],[],_=>⟨rfl,fun k v h=>by simp at h⟩
 | v::l,u::us,h=>by
   obtain ⟨h1,h2⟩:=f2_get h.2
   refine ⟨by simp [h1],fun k x hx=>?_⟩
   cases k with
   | zero=>simp only [List.getElem?_cons_zero,Option.some.injEq] at hx; subst hx; exact ⟨u,rfl,h.1⟩
   | succ k=>simpa using h2 k x (by simpa using hx)
 | [],_::_,h=>h.elim
 | _::_,[],h=>h.elim
theorem f2_pick {I:V→Value→Prop} {g:Nat→Option Value}:∀ (l:List V) (o:Nat),(∀ (k:Nat) (v:V),l[k]? = some v → ∃ u,g (o+k)=some u∧I v u) → ∃ us,F2 I l us ∧ ∀ k u,us[k]? = some u→g (o+k)=some u
 | [],o,_=>⟨[],trivial,fun k u h=>by simp at h⟩
 | v::l,o,h=>by
   obtain ⟨u,hu,hi⟩:=h 0 v rfl
   obtain ⟨us,h1,h2⟩:=f2_pick l (o+1) fun k x hx=>by have:=h (k+1) x (by simpa using hx); rwa [show o+(k+1)=o+1+k by omega] at this
   refine ⟨u::us,⟨hi,h1⟩,fun k x hx=>?_⟩
   cases k with
   | zero=>simp only [List.getElem?_cons_zero,Option.some.injEq] at hx; subst hx; exact hu
   | succ k=>have:=h2 k x (by simpa using hx); rwa [show o+1+k=o+(k+1) by omega] at this
theorem f2_map {α:Type} {I:V→Value→Prop} {g:α→V} {ρ:α→Value}:∀ {l:List α},(∀ x∈l,I (g x) (ρ x))→F2 I (l.map g) (l.map ρ)
 | [],_=>trivial
 | x::l,h=>⟨h x List.mem_cons_self,f2_map fun y hy=>h y (List.mem_cons_of_mem _ hy)⟩
theorem f2_append {I:V→Value→Prop}:∀ {l m:List V} {us xs:List Value},F2 I l us→F2 I m xs→F2 I (l++m) (us++xs)
 | [],m,[],xs,_,h=>h
 | v::l,m,u::us,xs,h,k=>⟨h.1,f2_append h.2 k⟩
 | [],_,_::_,_,h,_=>h.elim
 | _::_,_,[],_,h,_=>h.elim
theorem f2_c {β:Env} {A:Nat→Prop} {w:World}:∀ (us:List Value),isL β A w (us.map .c) us
 | []=>trivial
 | u::us=>⟨is_c,f2_c us⟩
theorem repL_mk {β:Env} {A:Nat→Prop} {w:World}:∀ {l:List D} {us:List Value},RepL A w l us→isL β A w (l.map mk1) us
 | [],[],_=>trivial
 | .v x::l,u::us,h=>⟨⟨fun _=>h.1,trivial⟩,repL_mk h.2⟩
 | .sl n sz f::l,u::us,h=>⟨⟨fun hn=>(by cases hn),⟨h.1,trivial⟩⟩,repL_mk h.2⟩
 | [],_::_,h=>h.elim
 | _::_,[],h=>h.elim
theorem toDs_len:∀ {vs:List V} {l:List D},toDs vs=some l→l.length=vs.length:=by
 intro vs
 induction vs with
 | nil=>intro l h; cases h; rfl
 | cons v vs ih =>
   intro l h
   simp only [toDs] at h
   split at h
   ·rename_i d l' _ hl'
    cases h
    simp [ih hl']
   cases h
theorem repL_of {β:Env} {A:Nat→Prop} {w:World}:∀ {vs:List V} {l:List D} {us:List Value},toDs vs=some l→isL β A w vs us→RepL A w l us
 | [],l,[],h,_=>by cases h; trivial
 | v::vs,l,u::us,h,k=>by
   simp only [toDs] at h
   split at h
   ·rename_i d l' hd hl
    cases h
    refine ⟨?_,repL_of hl k.2⟩
    have hi:=k.1
    unfold V.toD? at hd
    split at hd
    ·cases hd
    ·cases hd; exact hi.1 rfl
    ·cases hd; exact hi.2.1
    cases hd
   cases h
 | [],_,_::_,_,k=>k.elim
 | _::_,_,[],_,k=>k.elim
theorem is_mkA {β:Env} {A:Nat→Prop} {w:World} {l:List D} {cs:Array Value} (h:RepL A w l cs.toList):(mkA l).is β A w (.agg cs):=by
 unfold mkA
 split
 ·rename_i hp
  have:∀ {l:List D} {us:List Value},RepL A w l us→l.all D.plain=true→l.map D.val=us:=by
   intro l
   induction l with
   | nil=>intro us h _; cases us with
     | nil=>rfl
     | cons _ _=>exact h.elim
   | cons d l ih =>
     intro us h hp
     cases us with
     | nil=>exact h.elim
     | cons u us =>
       rw [List.all_cons,Bool.and_eq_true] at hp
       rw [List.map_cons,ih h.2 hp.2]
       cases d with
       | v x=>rw [show u=x from h.1]; rfl
       | sl n sz f=>cases hp.1
  have:=this h hp
  rw [this]
  exact is_c
 exact ⟨fun hn=>(by cases hn),⟨cs,rfl,h⟩⟩
theorem is_mk1 {β:Env} {A:Nat→Prop} {w:World} {d:D} {u:Value} (h:d.Rep A w u):(mk1 d).is β A w u:=by
 cases d with
 | v x=>exact ⟨fun _=>h,trivial⟩
 | sl n sz f=>exact ⟨fun hn=>(by cases hn),⟨h,trivial⟩⟩
theorem mk1_id (d:D):(mk1 d).id? = none:=by cases d<;>rfl
theorem mkA_id (l:List D):(mkA l).id? = none:=by unfold mkA; split<;>rfl
theorem repL_take {A:Nat→Prop} {w:World}:∀ {l:List D} {us:List Value} (n:Nat),RepL A w l us→RepL A w (l.take n) (us.take n)
 | _,_,0,_=>by simp [RepL]
 | [],[],_+1,_=>trivial
 | d::l,u::us,n+1,h=>⟨h.1,repL_take n h.2⟩
 | [],_::_,_+1,h=>h.elim
 | _::_,[],_+1,h=>h.elim
theorem repL_drop {A:Nat→Prop} {w:World}:∀ {l:List D} {us:List Value} (n:Nat),RepL A w l us→RepL A w (l.drop n) (us.drop n)
 | _,_,0,h=>h
 | [],[],_+1,_=>trivial
 | d::l,u::us,n+1,h=>repL_drop n h.2
 | [],_::_,_+1,h=>h.elim
 | _::_,[],_+1,h=>h.elim
theorem repL_len {A:Nat→Prop} {w:World}:∀ {l:List D} {us:List Value},RepL A w l us→us.length=l.length
 | [],[],_=>rfl
 | d::l,u::us,h=>by simp [repL_len h.2]
 | [],_::_,h=>h.elim
 | _::_,[],h=>h.elim
theorem repL_pick {A:Nat→Prop} {w:World} {g:Nat→Option Value}:∀ (l:List D) (o:Nat),(∀ (k:Nat) (d:D),l[k]? = some d → ∃ u,g (o+k)=some u∧d.Rep A w u) → ∃ us,RepL A w l us ∧ ∀ k u,us[k]? = some u→g (o+k)=some u
 | [],o,_=>⟨[],trivial,fun k u h=>by simp at h⟩
 | v::l,o,h=>by
   obtain ⟨u,hu,hi⟩:=h 0 v rfl
   obtain ⟨us,h1,h2⟩:=repL_pick l (o+1) fun k x hx=>by have:=h (k+1) x (by simpa using hx); rwa [show o+(k+1)=o+1+k by omega] at this
   refine ⟨u::us,⟨hi,h1⟩,fun k x hx=>?_⟩
   cases k with
   | zero=>simp only [List.getElem?_cons_zero,Option.some.injEq] at hx; subst hx; exact hu
   | succ k=>have:=h2 k x (by simpa using hx); rwa [show o+1+k=o+(k+1) by omega] at this
theorem lv_noid {v:V} {m:Rows} (h:v.id? = none):v.lv m:=fun id hid=>by rw [h] at hid; cases hid
theorem noid_fre {v:V} (h:v.fre=true):v.id? = none:=by
 unfold V.fre at h
 cases hv:v.id? with
 | none=>rfl
 | some id=>rw [hv] at h; cases h
theorem cells_is {β:Env} {A:Nat→Prop} {w:World} {v:V} {u:Value} (h:v.is β A w u) (hh:v.has=true):isL β A w v.cells u.cells.toList:=by
 cases v with
 | any=>cases hh
 | c x=>rw [h.1 rfl]; exact f2_c _
 | gr id n sz=>rcases h.2 with ⟨_,e⟩ | ⟨_,_,e⟩<;>(subst e; exact ⟨h,trivial⟩)
 | dv b l =>
   cases b with
   | true =>
     obtain ⟨cs,e,hr⟩:=h.2
     subst e
     exact repL_mk hr
   | false =>
     match l,hh with
     | [.sl n sz f],_ =>
       have h2:=h.2
       obtain ⟨a,cap,e,hr⟩:=h2.1
       subst e
       exact repL_mk h2
 | e l=>obtain ⟨b,o,e,_⟩:=h.2; subst e; exact ⟨h,trivial⟩
 | tu l=>obtain ⟨us,e,_⟩:=h.2; subst e; exact ⟨h,trivial⟩
 | _=>have e:=h.1 rfl; subst e; exact ⟨h,trivial⟩
theorem lv_c (v:Value) (m:Rows):(V.c v).lv m:=fun _ h=>by cases h
theorem cells_lv {v:V} {m:Rows} (h:v.lv m):∀ u:V,u∈v.cells→u.lv m:=by
 intro u hu
 cases v with
 | c v =>
   simp only [V.cells,List.mem_map] at hu
   obtain ⟨x,_,rfl⟩:=hu
   exact lv_c _ _
 | dv b l =>
   simp only [V.cells,List.mem_map] at hu
   obtain ⟨x,_,rfl⟩:=hu
   exact lv_noid (mk1_id x)
 | _=>simp only [V.cells,List.mem_singleton] at hu; rw [hu]; exact h
theorem f2_up {β:Env} {A:Nat→Prop} {w:World}:∀ {l:List V},(∀ v:V,v∈l→v.det=true)→isL β A w l (l.map (V.up β))
 | [],_=>trivial
 | v::l,h=>⟨is_up (h v List.mem_cons_self),f2_up fun x hx=>h x (List.mem_cons_of_mem _ hx)⟩
theorem f2_set {I:V→Value→Prop}:∀ {l:List V} {us:List Value} (k:Nat) {v:V} {u:Value},F2 I l us→I v u→F2 I (l.set k v) (us.set k u)
 | [],[],_,_,_,_,_=>trivial
 | _::_,_::_,0,_,_,h,hi=>⟨hi,h.2⟩
 | _::_,_::_,k+1,_,_,h,hi=>⟨h.1,f2_set k h.2 hi⟩
 | [],_::_,_,_,_,h,_=>h.elim
 | _::_,[],_,_,_,h,_=>h.elim
theorem zip_fold {I:V→Value→Prop} {off:Nat}:∀ (vs:List V) (xs:List Value) (j:Nat) (cells:List V) (us:Array Value),F2 I cells us.toList→F2 I vs xs →
 F2 I (splice cells (off+j) vs) ((xs.zipIdx j).foldl (fun cs p=>cs.setIfInBounds (off+p.2) p.1) us).toList
 | [],[],j,cells,us,h,_=>h
 | v::vs,x::xs,j,cells,us,h,hf=>by
   simp only [List.zipIdx_cons,List.foldl_cons,splice]
   have:=zip_fold (off:=off) vs xs (j+1) (cells.set (off+j) v) (us.setIfInBounds (off+j) x) (by rw [Array.toList_setIfInBounds]; exact f2_set _ h hf.1) hf.2
   simpa [Nat.add_assoc] using this
 | [],_::_,_,_,_,_,hf=>hf.elim
 | _::_,[],_,_,_,_,hf=>hf.elim
theorem fillV_sound {α:Type} {β:Env} {A:Nat→Prop} {w:World} {place:Nat→Option (Nat × Nat)} {g:α→V} {ρ:α→Value}:∀ (ps:List (Nat × α)) (cells cells':List V) (us:Array Value),fillV place cells (ps.map fun p=>(p.1,g p.2))=some cells' → (∀ p∈ps,(g p.2).is β A w (ρ p.2)) →
 isL β A w cells us.toList → ∃ us':Array Value,Instr.fill place us (ps.map fun p=>(p.1,ρ p.2))=some us' ∧ isL β A w cells' us'.toList
 | [],cells,cells',us,h,_,hu=>by
   simp only [List.map_nil,fillV,Option.some.injEq] at h
   subst h
   exact ⟨us,rfl,hu⟩
 | (i,x)::ps,cells,cells',us,h,hp,hu=>by
   simp only [List.map_cons,fillV] at h
   split at h
   ·rename_i off size hpl
    split at h
    ·rename_i hc
     have hx:=cells_is (hp _ List.mem_cons_self) hc.2.2.1
     have h1:=(f2_get hx).1
     have h2:=(f2_get hu).1
     simp only [Array.length_toList] at h1 h2
     have hz:=zip_fold (off:=off) _ _ 0 _ us hu hx
     rw [Nat.add_zero] at hz
     obtain ⟨us',hf,hi⟩:=fillV_sound ps _ cells' _ h (fun p hq=>hp p (List.mem_cons_of_mem _ hq)) hz
     refine ⟨us',?_,hi⟩
     simp only [List.map_cons,Instr.fill,hpl]
     have hg:¬ (((ρ x).cells.size≠size||off+(ρ x).cells.size > us.size)=true):=by
      simp only [h1,ne_eq,hc.1,not_true_eq_false,decide_false,Bool.false_or,decide_eq_true_eq,Nat.not_lt,gt_iff_lt]
      have:=hc.2.1
      omega
     rw [if_neg hg]
     rw [← hf]
     congr 1
     rw [← Array.foldl_toList,Array.toList_zipIdx]
    cases h
   cases h
theorem fillV_lv {place:Nat→Option (Nat × Nat)} {m:Rows}:∀ (ps:List (Nat × V)) (cells cells':List V),fillV place cells ps=some cells' → (∀ v:V,v∈cells→v.lv m) → ∀ v:V,v∈cells' → v.lv m
 | [],cells,cells',h,hc=>by
   simp only [fillV,Option.some.injEq] at h
   subst h
   exact hc
 | (i,x)::ps,cells,cells',h,hc=>by
   simp only [fillV] at h
   split at h
   ·rename_i off size hpl
    split at h
    ·rename_i hcc
     refine fillV_lv ps _ cells' h fun v hv=>?_
     have key:∀ (vs l:List V) (off:Nat),v∈splice l off vs→v∈l∨v∈vs:=by
      intro vs
      induction vs with
      | nil=>intro l off hv; exact .inl hv
      | cons y vs ih =>
        intro l off hv
        rcases ih _ _ hv with hv | hv
        ·rcases List.mem_or_eq_of_mem_set hv with hv | rfl
         ·exact .inl hv
         exact .inr List.mem_cons_self
        exact .inr (List.mem_cons_of_mem _ hv)
     rcases key _ _ _ hv with hv | hv
     ·exact hc v hv
     exact cells_lv (lv_noid (by cases hq:x.id? with | none=>rfl | some k=>rw [hq] at hcc; exact absurd hcc.2.2.2 (by simp))) v hv
    cases h
   cases h
section
variable {P:Program} {β:Env} {s:St} {o:Oper} {ans:Option Ans} {e:Eff} {obs:List Ob} {w:World} {ρ:Operand→Value}
theorem up_congr {β β':Env} {m:Rows} {v:V} (h:v.lv m) (hb:∀ i,i < m.length→β' i=β i):v.up β' = v.up β:=by
 refine up_same fun id hid=>?_
 obtain ⟨r,hr⟩:=h id hid
 refine hb id ?_
 unfold row? at hr
 cases hm:m[id]? with
 | none=>rw [hm] at hr; cases hr
 | some x=>exact (List.getElem?_eq_some_iff.1 hm).1
theorem row_lt {m:Rows} {id:Nat} {r:Row} (h:row? m id=some r):id < m.length:=by
 unfold row? at h
 cases hm:m[id]? with
 | none=>rw [hm] at h; cases h
 | some x=>exact (List.getElem?_eq_some_iff.1 hm).1
theorem val_up {v:V} (h:v.isC=true) (β:Env):v.up β=v.val:=by
 cases v with
 | c v=>rfl
 | _=>simp [V.isC] at h
theorem known_of {v:V} (h:v.isC=true):v.known=true:=by
 cases v with
 | c v=>rfl
 | _=>simp [V.isC] at h
theorem rho_of (hρ:∀ x∈o.op.operands,(s.at x).known=true→ρ x=(s.at x).up β) (hc:o.op.operands.toList.all (fun x=>(s.at x).isC)=true):∀ x∈o.op.operands,ρ x=s.rho x:=by
 intro x hx
 have h:=List.all_eq_true.1 hc x (Array.mem_toList_iff.2 hx)
 rw [hρ x hx (known_of h)]
 exact val_up h β
theorem effPure_sound (h:effPure P s o ans=some (e,obs)) (ho:Holds P obs):∃ v,e = .val (.c v) ∧
 ∀ ρ:Operand→Value,(∀ x∈o.op.operands,(s.at x).known=true→ρ x=(s.at x).up β) → ∀ w,(execOp ρ o).run P w = .ok (.value v) w:=by
 unfold effPure at h
 have hs:∀ cs b,o.op ≠ .select cs b:=by
  intro cs b hh
  rw [hh] at h
  simp at h
 have h2 : (if o.op.operands.toList.all (fun x => (s.at x).isC) then
  match ans with
  | some (.fix v)=>some (Eff.val (.c v),[Ob.val (execOp s.rho o) v])
  | some _=>none
  | none=>match eqAgg P s.rho o with
    | some v=>some (Eff.val (.c v),[])
    | none=>match sval P (execOp s.rho o) with
      | some (.value v)=>some (.val (.c v),[])
      | _=>none
  else none)=some (e,obs):=by
  revert h
  cases hh:o.op<;>first | exact fun h=>h | (exact absurd hh (hs _ _))
 clear h
 split at h2
 ·rename_i hc
  split at h2
  ·rename_i v
   simp only [Option.some.injEq,Prod.mk.injEq] at h2
   obtain ⟨rfl,rfl⟩:=h2
   refine ⟨v,rfl,fun ρ hρ w=>?_⟩
   rw [execOp_congr o hs (rho_of hρ hc)]
   exact sval_run ho.1 w
  ·cases h2
  split at h2
  ·rename_i v hv
   simp only [Option.some.injEq,Prod.mk.injEq] at h2
   obtain ⟨rfl,rfl⟩:=h2
   refine ⟨v,rfl,fun ρ hρ w=>?_⟩
   rw [execOp_congr o hs (rho_of hρ hc)]
   exact eqAgg_run hv w
  split at h2
  ·rename_i v hv
   simp only [Option.some.injEq,Prod.mk.injEq] at h2
   obtain ⟨rfl,rfl⟩:=h2
   refine ⟨v,rfl,fun ρ hρ w=>?_⟩
   rw [execOp_congr o hs (rho_of hρ hc)]
   exact sval_run hv w
  cases h2
 cases h2
theorem appE_app {l:List V} {ts:List TypeId} {m:Rows} (h:appE P l ts m=some (e,obs)):∃ k cells rf,e = .app k cells rf:=by
 unfold appE at h
 repeat' (split at h)
 all_goals first
  | (cases h; done)
  | (simp only [Option.some.injEq,Prod.mk.injEq] at h; exact ⟨_,_,_,h.1.symm⟩)
theorem add_at (b off i:Nat):(⟨b,off,none⟩:Addr).add i=⟨b,off+i,none⟩:=Addr.add_lit b off i
def Win (I:V→Value→Prop) (w:World) (x:Loc) (cells:List V):Prop:=∃ (arr:Array Value) (e:TypeId),w.heap[x.1]? = some (.cells arr e (0,0))∧x.2+x.3≤arr.size ∧ ∀ k v,cells[k]? = some v → ∃ u,arr[x.2+k]? = some u∧I v u
theorem blk_win {A:Nat→Prop} {x:Loc} {r:Row} (h:Blk β A w x r) (ho:r.own=true):Win (V.is β A w) w x r.cells:=by
 obtain ⟨_,hc,ha⟩:=h
 obtain ⟨arr,e,he,hrm⟩:=ha ho
 refine ⟨arr,e,he,hrm,fun k v hk=>?_⟩
 obtain ⟨u,hu,hi⟩:=hc k v hk
 exact ⟨u,(by simpa [World.cell?,he] using hu),hi⟩
theorem win_blk {A:Nat→Prop} {I:V→Value→Prop} {x:Loc} {cells:List V} (h:Win I w x cells) (hI:∀ v u,v∈cells→I v u→v.is β A w u) (b:Bool):Blk β A w x ⟨b,cells⟩:=by
 obtain ⟨arr,e,he,hrm,hc⟩:=h
 refine ⟨(Array.getElem?_eq_some_iff.1 he).1,fun k v hk=>?_,fun _=>⟨arr,e,he,hrm⟩⟩
 obtain ⟨u,hu,hi⟩:=hc k v hk
 exact ⟨u,(by simpa [World.cell?,he] using hu),hI v u (List.mem_of_getElem? hk) hi⟩
theorem win_frozen {I:V→Value→Prop} {x:Loc} {cells:List V} (h:Win I w x cells) (k:Nat):w.frozen? ⟨x.1,k,none⟩=false:=by
 obtain ⟨arr,e,he,_⟩:=h
 simp [World.frozen?,he]
theorem win_cell {I:V→Value→Prop} {x:Loc} {cells:List V} {k:Nat} {v:V} (h:Win I w x cells) (hk:cells[k]? = some v):∃ u,w.cell? ⟨x.1,x.2+k,none⟩=some u∧I v u:=by
 obtain ⟨arr,e,he,_,hc⟩:=h
 obtain ⟨u,hu,hi⟩:=hc k v hk
 exact ⟨u,(by simpa [World.cell?,he] using hu),hi⟩
theorem win_set {I:V→Value→Prop} {x:Loc} {cells:List V} {k:Nat} {v:V} {u:Value} (h:Win I w x cells) (hk:k < cells.length) (hi:I v u):Win I (w.setCell ⟨x.1,x.2+k,none⟩ u) x (cells.set k v):=by
 obtain ⟨arr,e,he,hrm,hc⟩:=h
 refine ⟨arr.setIfInBounds (x.2+k) u,e,?_,by simpa using hrm,fun j y hj=>?_⟩
 ·simp only [World.setCell,Array.getElem?_modify,if_true,he,Option.map_some,Option.isSome_none,Bool.false_eq_true,if_false]
 by_cases hjk:j=k
 ·subst hjk
  rw [List.getElem?_set_self hk] at hj
  cases hj
  obtain ⟨u1,h1,_⟩:=hc j _ (List.getElem?_eq_getElem hk)
  have h2:=(Array.getElem?_eq_some_iff.1 h1).1
  rw [Array.getElem?_setIfInBounds_self_of_lt h2]
  exact ⟨u,rfl,hi⟩
 rw [List.getElem?_set_ne (Ne.symm hjk)] at hj
 rw [Array.getElem?_setIfInBounds_ne (by omega)]
 exact hc j y hj
structure Only (b:Nat) (w w':World):Prop where
 os:w'.os=w.os
 tape:w'.tape=w.tape
 output:w'.output=w.output
 size:w'.heap.size=w.heap.size
 block:∀ k,k≠b→w'.heap[k]? = w.heap[k]?
theorem Only.refl (b:Nat) (w:World):Only b w w:=⟨rfl,rfl,rfl,rfl,fun _ _=>rfl⟩
theorem Only.trans {b:Nat} {x y z:World} (h:Only b x y) (k:Only b y z):Only b x z :=
 ⟨k.os.trans h.os,k.tape.trans h.tape,k.output.trans h.output,k.size.trans h.size,fun i hi=>(k.block i hi).trans (h.block i hi)⟩
theorem Only.fr {b:Nat} {w w':World} (h:Only b w w'):Fr (fun k=>k=b) w w':=⟨h.os,h.tape,h.output,by rw [h.size]; exact Nat.le_refl _,fun k _ hk=>h.block k hk⟩
theorem only_setCell (w:World) (b k:Nat) (v:Value):Only b w (w.setCell ⟨b,k,none⟩ v):=by
 refine ⟨rfl,rfl,rfl,by simp [World.setCell],fun i hi=>?_⟩
 simp only [World.setCell,Array.getElem?_modify]
 rw [if_neg (Ne.symm hi)]
theorem one_is {A:Nat→Prop} {v:V} {u:Value} (h:one v=true) (hi:v.is β A w u):(∀ c,u ≠ .agg c)∧(∀ c,u ≠ .tuple c):=by
 cases v with
 | any=>cases h
 | c v=>rw [hi.1 rfl]; cases v<;>simp [one,V.up] at h ⊢
 | p i j=>rw [hi.1 rfl]; simp [V.up]
 | sl i j k l=>rw [hi.1 rfl]; simp [V.up]
 | sd i j k=>rw [hi.1 rfl]; simp [V.up]
 | fn g i j=>rw [hi.1 rfl]; simp [V.up]
 | gr i n z=>rcases hi.2 with ⟨_,e⟩ | ⟨_,_,e⟩<;>(subst e; simp)
 | e l=>obtain ⟨b,o,e,_⟩:=hi.2; subst e; simp
 | dv b l =>
   unfold one at h
   split at h
   all_goals first
    | (cases h; done)
    | (rename_i heq; exact (heq _ _ rfl).elim)
    | skip
   all_goals rename_i heq
   all_goals first
    | (cases heq; done)
    | (cases heq; obtain ⟨a,cap,e,_⟩:=hi.2.1; subst e; simp)
 | _=>simp [one] at h
theorem run_store1 {a:Addr} {v u:Value} (h1:∀ c,v ≠ .agg c) (h2:∀ c,v ≠ .tuple c) (hc:w.cell? a=some u) (hf:w.frozen? a=false) :
 (Go.store a v).run P w = .ok () (w.setCell a v):=by
 unfold Go.store
 cases v<;>first
  | (exact absurd rfl (h1 _))
  | (exact absurd rfl (h2 _))
  | (simp only [Sem.run,hc,hf]; rfl)
theorem run_storeCells {I:V→Value→Prop} (hI:∀ v u,one v=true→I v u→(∀ c,u ≠ .agg c)∧(∀ c,u ≠ .tuple c)) {x:Loc} {off:Nat}:∀ (vs:List V) (us:List Value) (i:Nat) (w:World) (cells:List V),Win I w x cells→F2 I vs us→vs.all one=true→off+i+vs.length≤cells.length →
 ∃ w',(storeCells ⟨x.1,x.2+off,none⟩ us i).run P w = .ok () w' ∧ Win I w' x (splice cells (off+i) vs)∧Only x.1 w w'
 | [],[],i,w,cells,hb,_,_,_=>⟨w,rfl,hb,.refl _ _⟩
 | v::r,u::us,i,w,cells,hb,hf,ho,hl=>by
   rw [List.all_cons,Bool.and_eq_true] at ho
   simp only [List.length_cons] at hl
   obtain ⟨h1,h2⟩:=hI v u ho.1 hf.1
   have hk:off+i < cells.length:=by omega
   obtain ⟨_,hc,_⟩:=win_cell hb (List.getElem?_eq_getElem hk)
   have hs:=run_store1 (P:=P) (a:=⟨x.1,x.2+(off+i),none⟩) h1 h2 hc (win_frozen hb _)
   obtain ⟨w',hr,hb',hon⟩:=run_storeCells hI (off:=off) r us (i+1) (w.setCell ⟨x.1,x.2+(off+i),none⟩ u) (cells.set (off+i) v) (win_set hb hk hf.1) hf.2 ho.2 (by simp only [List.length_set]; omega)
   refine ⟨w',?_,?_,(only_setCell _ _ _ _).trans hon⟩
   ·simp only [storeCells,Sem.run_bind,add_at,Nat.add_assoc,hs,Result.andThen_ok]
    exact hr
   simpa [splice,Nat.add_assoc] using hb'
 | [],_::_,_,_,_,_,hf,_,_=>hf.elim
 | _::_,[],_,_,_,_,hf,_,_=>hf.elim
theorem size_run {t n:Nat} (h:size? P t=some n):∀ w,(sizeOf t).run P w = .ok n w:=by
 intro w
 unfold size? at h
 cases hi:P.info? t with
 | none=>rw [hi] at h; cases h
 | some i =>
   rw [hi] at h
   simp only [Option.map_some,Option.some.injEq] at h
   simp [sizeOf,typeInfo,program,hi,h,Sem.run]
theorem eff_put_sound {id off:Nat} {vs:List V} (h:eff0 P s o ans=some (.put id off vs,obs)) (ho:Holds P obs):(∀ cs b,o.op ≠ .select cs b) ∧ ∃ r t x y,row? s.m id=some r∧r.own=true∧o.op = .store t x y∧s.at x = .p id off∧vs=(s.at y).cells∧off+vs.length≤r.cells.length ∧
 ∀ A:Nat→Prop,((∀ x∈o.op.operands,(s.at x).is β A w (ρ x))→Win (V.is β A w) w (β id) r.cells → ∃ w',(execOp ρ o).run P w = .ok .skip w' ∧ Win (V.is β A w) w' (β id) (splice r.cells off vs)∧Only (β id).1 w w'):=by
 have fin : ∀ t x y id off r n, o.op = .store t x y → s.at x = .p id off → row? s.m id = some r → size? P t = some n → (r.own = true ∧ (s.at y).cells.length = n ∧ (s.at y).cells.all one = true ∧ (s.at y).has = true) → off + (s.at y).cells.length ≤ r.cells.length →
  (∀ cs b,o.op ≠ .select cs b) ∧ ∃ r t x y',row? s.m id=some r∧r.own=true∧o.op = .store t x y' ∧ s.at x = .p id off∧(s.at y).cells=(s.at y').cells∧off+(s.at y).cells.length≤r.cells.length ∧
  ∀ A:Nat→Prop,((∀ x∈o.op.operands,(s.at x).is β A w (ρ x))→Win (V.is β A w) w (β id) r.cells → ∃ w',(execOp ρ o).run P w = .ok .skip w' ∧ Win (V.is β A w) w' (β id) (splice r.cells off (s.at y).cells)∧Only (β id).1 w w'):=by
  intro t x y id off r n hop hx hm hz hc hlen
  refine ⟨(by rw [hop]; intro cs b hh; cases hh),r,t,x,y,hm,hc.1,hop,hx,rfl,hlen,fun A hι hb=>?_⟩
  have hcl:=cells_is (hι y (by rw [hop]; simp [Op.operands])) hc.2.2.2
  obtain ⟨w',hr,hb',hon⟩:=run_storeCells (P:=P) (I:=V.is β A w) (fun v u h1 h2=>one_is h1 h2) (off:=off) (s.at y).cells _ 0 w r.cells hb hcl hc.2.2.1 (by simpa using hlen)
  refine ⟨w',?_,by simpa using hb',hon⟩
  have h1:ρ x = .pointer (some ⟨(β id).1,(β id).2+off,none⟩):=by rw [(hι x (by rw [hop]; simp [Op.operands])).1 (by rw [hx]; rfl),hx]; rfl
  have h3:(ρ y).cells.size=n:=by
   have:=(f2_get hcl).1
   rw [← hc.2.1,← this,Array.length_toList]
  simp [execOp,hop,Instr.storeAt,h1,Instr.sureAddr,storeVar,size_run hz,h3,hr]
 unfold eff0 at h
 split at h
 case h_7 t x y hop =>
  split at h
  ·rename_i id' off' hx
   split at h
   ·rename_i r n hm hz
    split at h
    ·rename_i hc
     split at h
     ·split at h
      ·rename_i hl
       cases h
       exact fin t x y _ _ r n hop hx hm hz hc hl
      cases h
     cases h
     exact fin t x y _ _ r n hop hx hm hz hc ho.1
    cases h
   cases h
  cases h
 all_goals exfalso
 all_goals (repeat' (split at h))
 all_goals first
  | (obtain ⟨v,hv,_⟩:=effPure_sound (β:=β) h ho; cases hv; done)
  | (obtain ⟨_,_,_,hv⟩:=appE_app h; cases hv; done)
  | (simp at h; done)
  | (cases h; done)
end
section
variable {P:Program} {β:Env} {s:St} {o:Oper} {ans:Option Ans} {e:Eff} {obs:List Ob} {w:World} {ρ:Operand→Value}
theorem range_one (z:Value) (n:Nat):((Array.range n).map fun i=>(#[z]:Array Value)[i%(#[z]:Array Value).size]!)=(List.replicate n z).toArray:=by
 apply Array.ext
 ·simp
 intro i h1 h2
 have hm:i%1=0:=Nat.mod_one i
 simp [hm]
theorem range_many (z:Array Value) (hz:0 < z.size):∀ n:Nat,((Array.range (n*z.size)).map fun i=>z[i%z.size]!)=((List.replicate n z.toList).flatten).toArray:=by
 intro n
 apply Array.ext
 ·simp
 intro i h1 h2
 simp only [Array.size_map,Array.size_range] at h1
 simp only [Array.getElem_map,Array.getElem_range,List.getElem_toArray]
 have hm:=Nat.mod_lt i hz
 have key:∀ (n i:Nat) (h:i < (List.replicate n z.toList).flatten.length),(List.replicate n z.toList).flatten[i]=z[i%z.size]'(Nat.mod_lt i hz):=by
  intro n
  induction n with
  | zero=>intro i h; simp at h
  | succ n ih =>
    intro i h
    simp only [List.replicate_succ,List.flatten_cons] at h ⊢
    rw [List.getElem_append]
    split
    ·rename_i hi
     have hi':i < z.size:=by simpa using hi
     simp only [Array.getElem_toList,Nat.mod_eq_of_lt hi']
    rename_i hi
    have hi':z.size≤i:=by simpa using hi
    rw [ih]
    congr 1
    simp only [Array.length_toList]
    exact (Nat.mod_eq_sub_mod hi').symm
 rw [key n i (by simpa using h2)]
 exact getElem!_pos z _ hm
theorem eff_new_sound {A:Nat→Prop} {cells:List V} {t:TypeId} {rf:Nat→V} (h:eff0 P s o ans=some (.new cells t rf,obs)) (ho:Holds P obs) (hι:∀ x∈o.op.operands,(s.at x).is β A w (ρ x)) :
 (∀ cs b,o.op ≠ .select cs b)∧(∃ us:List Value,isL β A w cells us ∧ ∀ β':Env,∀ n,β' n=⟨w.heap.size,0,0⟩→(execOp ρ o).run P w = .ok (.value ((rf n).up β')) (w.alloc (.cells us.toArray t (0,0)))) ∧
 (∀ n,(rf n).id? = some n∧(rf n).det=true) ∧
 ∀ m,(∀ x∈o.op.operands,(s.at x).lv m) → ∀ v:V,v∈cells→v.lv m:=by
 have lvc:∀ (u:Value) (m:Rows),(V.c u).lv m:=fun u m id hid=>by cases hid
 have hρ:∀ x∈o.op.operands,(s.at x).known=true→ρ x=(s.at x).up β:=fun x hx=>(hι x hx).1
 unfold eff0 at h
 split at h
 case h_8 t' hop =>
  split at h
  ·rename_i z hz
   cases h
   refine ⟨(by rw [hop]; intro cs b hh; cases hh),⟨z.cells.toList,f2_c _,fun β' n hβ=>?_⟩,fun n=>⟨rfl,rfl⟩,?_⟩
   ·simp [execOp,hop,Instr.alloc,sval_run hz,newVar,newRow,V.up,hβ]
   intro m _ v hv
   simp only [V.cells,List.mem_map] at hv
   obtain ⟨u,_,rfl⟩:=hv
   exact lvc u m
  cases h
 case h_9 t' x hop =>
  split at h
  ·rename_i hk
   cases h
   refine ⟨(by rw [hop]; intro cs b hh; cases hh),⟨_,cells_is (hι x (by rw [hop]; simp [Op.operands])) hk,fun β' n hβ=>?_⟩,fun n=>⟨rfl,rfl⟩,?_⟩
   ·simp [execOp,hop,Instr.box,newVar,newRow,V.up,hβ]
   intro m hm v hv
   exact cells_lv (hm x (by rw [hop]; simp [Op.operands])) v hv
  cases h
 case h_10 t' x y hop =>
  split at h
  ·rename_i n c hx hy
   split at h
   ·rename_i e' hu
    split at h
    ·rename_i i hi
     split at h
     ·rename_i z hz
      split at h
      ·rename_i hsz
       cases h
       obtain ⟨hp,_⟩:=ho
       obtain ⟨h0,hnc,hb,hcb⟩:=hp
       refine ⟨(by rw [hop]; intro cs b hh; cases hh),⟨_,f2_up fun v hv=>(by rw [List.eq_of_mem_replicate hv]; rfl),fun β' k hβ=>?_⟩,fun n=>⟨rfl,rfl⟩,?_⟩
       ·have h1:ρ x = .int .i64 n:=by rw [hρ x (by rw [hop]; simp [Op.operands]) (by rw [hx]; rfl),hx]; rfl
        have h2:ρ y = .int .i64 c:=by rw [hρ y (by rw [hop]; simp [Op.operands]) (by rw [hy]; rfl),hy]; rfl
        obtain ⟨zv,hzv⟩:∃ zv,z.cells = #[zv]:=by
         obtain ⟨a,ha⟩:=List.length_eq_one_iff.1 (show z.cells.toList.length=1 by simpa using hsz.2)
         exact ⟨a,by rw [← Array.toList_inj]; simpa using ha⟩
        have hcells:(((List.replicate c.toNat (V.c (z.cells.getD 0 undef))).map (V.up β)).toArray)=madeCells z.cells (c.toNat*i.size):=by
         rw [hsz.1,Nat.mul_one,hzv]
         unfold madeCells
         rw [range_one]
         simp [V.up]
        have hr:=run_make (P:=P) w t' t i z hu hi hz .i64 .i64 n c h0 hnc hb (by omega)
        rw [hcells]
        simp [execOp,hop,h1,h2,hr,V.up,hβ]
       intro m _ v hv
       rw [List.eq_of_mem_replicate hv]
       exact lvc _ m
      split at h
      ·rename_i hsz
       cases h
       obtain ⟨hp,_⟩:=ho
       obtain ⟨h0,hnc,hb,hcb⟩:=hp
       have hmem:∀ v:V,v∈(List.replicate c.toNat (z.cells.toList.map V.c)).flatten → ∃ u,v=V.c u:=fun v hv=>by
        obtain ⟨l,hl,hv⟩:=List.mem_flatten.1 hv
        rw [List.eq_of_mem_replicate hl] at hv
        obtain ⟨u,_,rfl⟩:=List.mem_map.1 hv
        exact ⟨u,rfl⟩
       refine ⟨(by rw [hop]; intro cs b hh; cases hh),⟨_,f2_up fun v hv=>(by obtain ⟨u,rfl⟩:=hmem v hv; rfl),fun β' k hβ=>?_⟩,fun n=>⟨rfl,rfl⟩,?_⟩
       ·have h1:ρ x = .int .i64 n:=by rw [hρ x (by rw [hop]; simp [Op.operands]) (by rw [hx]; rfl),hx]; rfl
        have h2:ρ y = .int .i64 c:=by rw [hρ y (by rw [hop]; simp [Op.operands]) (by rw [hy]; rfl),hy]; rfl
        have hcells:(((List.replicate c.toNat (z.cells.toList.map V.c)).flatten.map (V.up β)).toArray)=madeCells z.cells (c.toNat*i.size):=by
         unfold madeCells
         rw [hsz.1,range_many z.cells (by omega)]
         congr 1
         rw [List.map_flatten,List.map_replicate,List.map_map]
         have:(V.up β ∘ V.c)=id:=rfl
         rw [this,List.map_id]
        have hr:=run_make (P:=P) w t' t i z hu hi hz .i64 .i64 n c h0 hnc hb (by omega)
        rw [hcells]
        simp [execOp,hop,h1,h2,hr,V.up,hβ]
       intro m _ v hv
       obtain ⟨u,rfl⟩:=hmem v hv
       exact lvc _ m
      cases h
     cases h
    cases h
   cases h
  cases h
 case h_14 t' len parts hop =>
  split at h
  ·rename_i hc
   split at h
   ·rename_i e' cs hz
    cases h
    refine ⟨(by rw [hop]; intro cs b hh; cases hh),⟨cs.toList,f2_c _,fun β' k hβ=>?_⟩,fun n=>⟨rfl,rfl⟩,?_⟩
    ·have hr:=rho_of hρ hc
     have hp:(parts.map fun (i,x)=>(i,ρ x))=parts.map fun (i,x)=>(i,s.rho x):=by
      apply Array.map_congr_left
      rintro ⟨i,x⟩ hx
      simp only
      rw [hr x (by rw [hop]; simp only [Op.operands,List.mem_toArray,List.mem_map]; exact ⟨(i,x),Array.mem_toList_iff.2 hx,rfl⟩)]
     unfold execOp
     simp only [hop,hp,Sem.run_bind,buildSlice_run hz,Result.andThen_ok]
     simp [V.up,hβ,Sem.run]
    intro m _ v hv
    obtain ⟨u,_,rfl⟩:=List.mem_map.1 hv
    exact lvc u m
   cases h
  split at h
  case h_2=>cases h
  rename_i e' hu
  split at h
  case h_2=>cases h
  rename_i i hi
  split at h
  case h_2=>cases h
  rename_i z hz
  split at h
  case isFalse=>cases h
  rename_i hcc
  obtain ⟨h0,hlim,hzs⟩:=hcc
  split at h
  case h_2=>cases h
  rename_i cells2 hfl
  cases h
  have hmem:∀ v:V,v∈(List.replicate len (z.cells.toList.map V.c)).flatten → ∃ u,v=V.c u:=fun v hv=>by
   obtain ⟨l,hl,hv⟩:=List.mem_flatten.1 hv
   rw [List.eq_of_mem_replicate hl] at hv
   obtain ⟨u,_,rfl⟩:=List.mem_map.1 hv
   exact ⟨u,rfl⟩
  have hbase:isL β A w (List.replicate len (z.cells.toList.map V.c)).flatten ((List.replicate len z.cells.toList).flatten):=by
   have:=f2_up (β:=β) (A:=A) (w:=w) (l:=(List.replicate len (z.cells.toList.map V.c)).flatten) fun v hv=>(by obtain ⟨u,rfl⟩:=hmem v hv; rfl)
   rw [List.map_flatten,List.map_replicate,List.map_map] at this
   rw [show (V.up β ∘ V.c)=id from rfl,List.map_id] at this
   exact this
  obtain ⟨us',hfill,hi'⟩:=fillV_sound (g:=s.at) (ρ:=ρ) parts.toList _ _ ((List.replicate len z.cells.toList).flatten).toArray hfl (fun p hp=>hι p.2 (by rw [hop]; simp only [Op.operands,List.mem_toArray,List.mem_map]; exact ⟨p,hp,rfl⟩)) hbase
  refine ⟨(by rw [hop]; intro cs b hh; cases hh),⟨us'.toList,hi',fun β' k hβ=>?_⟩,fun n=>⟨rfl,rfl⟩,?_⟩
  ·have hzv:∀ w,(zeroValue t).run P w = .ok z w:=fun w=>by simp [zeroValue,typeInfo,hi,hz,Sem.run,program]
   have hrange:(Array.range (len*i.size)).map (fun x=>z.cells[x%z.cells.size]!)=((List.replicate len z.cells.toList).flatten).toArray:=by
    rw [← hzs,range_many z.cells (by omega)]
   have hparts:(parts.map fun (i,x)=>(i,ρ x)).toList=parts.toList.map fun p=>(p.1,ρ p.2):=by
    rw [Array.toList_map]
   have hb:(Instr.buildSlice t' len (parts.map fun (i,x)=>(i,ρ x))).run P w = .ok (.slice (some ⟨w.heap.size,0,none⟩) len len) (w.alloc (.cells us' t (0,0))):=by
    unfold Instr.buildSlice
    simp only [Sem.run_bind,run_underlying hu,Result.andThen_ok,size_run (show size? P t=some i.size by simp [size?,hi]),if_neg (show ¬ len*i.size > 2^24 by omega)]
    by_cases hz0:len*i.size=0
    ·have hl0 : len = 0 := by
      rcases Nat.mul_eq_zero.1 hz0 with h | h
      ·exact h
      omega
     subst hl0
     simp only [List.replicate_zero,List.flatten_nil] at hfill
     simp only [Nat.zero_mul,if_true,Sem.run_bind,Sem.run_pure,Result.andThen_ok,hparts,show ∀ f:Nat→Value,(Array.range 0).map f = #[] from fun f=>by apply Array.ext<;>simp,hfill]
     simp [newRow,Sem.run]
    simp only [if_neg hz0,Sem.run_bind,hzv,Sem.run_pure,Result.andThen_ok,hrange,hparts,hfill]
    simp [newRow,Sem.run]
   unfold execOp
   simp only [hop,Sem.run_bind,hb,Result.andThen_ok]
   simp [V.up,hβ,Sem.run]
  intro m _ v hv
  exact fillV_lv _ _ _ hfl (fun v hv=>by obtain ⟨u,rfl⟩:=hmem v hv; exact lvc u m) v hv
 all_goals exfalso
 all_goals (repeat' (split at h))
 all_goals first
  | (obtain ⟨v,hv,_⟩:=effPure_sound (β:=β) h ho; cases hv; done)
  | (obtain ⟨_,_,_,hv⟩:=appE_app h; cases hv; done)
  | (simp at h; done)
  | (cases h; done)
end
section
variable {P:Program} {β:Env} {s:St} {o:Oper} {ans:Option Ans} {e:Eff} {obs:List Ob} {w:World} {ρ:Operand→Value}
theorem bound_ok {x:Int} {y:Nat} {k:IntKind} {code:BoundsCode} (h:0≤x∧x≤y):(Instr.sliceBound (.int k x) y code).run P w = .ok x.toNat w:=by
 simp [Instr.sliceBound,asIntOf,h]
theorem enter_run {o:Oper} {ρ:Operand→Value} {c:Call} {f:Operand} {g:FuncId} {al:List Value} {cap:Array Value} (hop:o.op = .call c) (hc:c.callee = .value f) (hf:ρ f = .func (.func g) #[] cap) (hcal:callee? P g=true) (ha:(c.args.map ρ++cap)=al.toArray):(execOp ρ o).run P w = .ok (.enter g al.toArray) w:=by
 unfold callee? at hcal
 split at hcal
 ·rename_i fn hfn
  simp only [Bool.and_eq_true,bne_iff_ne,ne_eq] at hcal
  obtain ⟨b,hbb⟩:=Option.isSome_iff_exists.1 hcal.2
  rw [← ha]
  unfold execOp
  simp [hop,resolve,hc,hf,Deferred.ofValue,invoke,callFunc,hfn,hcal.1,hbb]
 cases hcal
theorem args_up {c:Call} {o:Oper} (hop:o.op = .call c) (hρ:∀ x∈o.op.operands,(s.at x).known=true→ρ x=(s.at x).up β) (hk:(c.args.toList.map s.at).all V.known=true):c.args.map ρ=((c.args.toList.map s.at).map (V.up β)).toArray:=by
 rw [List.map_map]
 apply Array.ext'
 rw [Array.toList_map]
 exact List.map_congr_left fun x hx=>hρ x (by rw [hop]; simp [Op.operands,Call.operands]; exact .inr (Array.mem_toList_iff.1 hx)) (List.all_eq_true.1 hk _ (List.mem_map_of_mem hx))
theorem read_run {A:Nat→Prop} {g:FuncId} {al:List V} {m:Rows} {r:Value} (hk:readOk m al=true) (hf:Flat (roM m (ids al))) (ho:Holds P (readOb P g al m r))
 (hm:∀ id q,row? m id=some q→id∈al.filterMap V.id? → Blk β A w (β id) q) (hlaid:Laid w):Calls P g (al.map (V.up β)).toArray w fun e w'=>e = .returned r∧Below w.heap.size w w':=by
 have hF:FSpec P g (al.map (unrd (ids al) fun id sz=>(β id).3/sz)) (roM m (ids al)) (.c r) (roM m (ids al)):=by
  unfold readOb at ho
  split at ho
  ·rename_i hg
   have e:al.map (unrd (ids al) fun id sz=>(β id).3/sz)=al.map (unrd (ids al) fun _ _=>0):=List.map_congr_left fun v hv=>by
    have:v.grows=false:=by
     cases hh:v.grows with
     | false=>rfl
     | true=>rw [List.any_eq_true.2 ⟨v,hv,hh⟩] at hg; cases hg
    cases v<;>first | rfl | cases this
   rw [e]
   exact ho.1
  exact ho.1 _
 have hrow:∀ i ri,row? (roM m (ids al)) i=some ri → ∃ id q,(ids al)[i]? = some id∧row? m id=some q∧ri=⟨false,q.cells⟩:=by
  intro i ri hi
  unfold roM row? at hi
  rw [List.getElem?_map] at hi
  cases hx:(ids al)[i]? with
  | none=>rw [hx] at hi; cases hi
  | some id =>
    rw [hx] at hi
    simp only [Option.map_some,Option.bind_some,Option.map_eq_some_iff] at hi
    obtain ⟨q,hq,rfl⟩:=hi
    exact ⟨id,q,rfl,hq,rfl⟩
 have hnown:∀ i ri,row? (roM m (ids al)) i=some ri→ri.own=false:=fun i ri hi=>by
  obtain ⟨_,_,_,_,rfl⟩:=hrow i ri hi
  rfl
 have hal:Keep A (alw A (fun i=>β ((ids al).getD i 0)) (roM m (ids al))) w w:=⟨Nat.le_refl _,fun b _ hb=>⟨⟨hb,fun i ri hi ho=>(by rw [hnown i ri hi] at ho; cases ho)⟩,rfl⟩⟩
 have hM:Mem (fun i=>β ((ids al).getD i 0)) A (roM m (ids al)) w:=by
  refine ⟨fun i ri hi=>?_,fun i j ri rj hi hj hown=>(by rw [hnown i ri hi] at hown; cases hown),fun i ri hi v hv=>lv_noid (flat_at hf i ri hi v hv)⟩
  have hfl:=flat_at hf i ri hi
  obtain ⟨id,q,h1,h2,rfl⟩:=hrow i ri hi
  have hb:=hm id q h2 (mem_dd.1 (List.mem_of_getElem? h1))
  have e:(ids al).getD i 0=id:=by rw [List.getD_eq_getElem?_getD,h1]; rfl
  simp only [e]
  refine ⟨hb.1,fun k v hk=>?_,fun hh=>by cases hh⟩
  obtain ⟨u,hu,hi'⟩:=hb.2.1 k v hk
  exact ⟨u,hu,hi'.keep hal fun id hid=>by rw [hfl v (List.mem_of_getElem? hk)] at hid; cases hid⟩
 have ha:(al.map (unrd (ids al) fun id sz=>(β id).3/sz)).map (V.up fun i=>β ((ids al).getD i 0))=al.map (V.up β):=by
  rw [List.map_map]
  refine List.map_congr_left fun v hv=>?_
  have key:∀ id,v.id? = some id→β ((ids al).getD ((idx id (ids al) 0).getD 0) 0)=β id:=fun id hid=>by
   have hin:id∈ids al:=mem_dd.2 (List.mem_filterMap.2 ⟨v,hv,hid⟩)
   cases hi:idx id (ids al) 0 with
   | none=>exact (idx_none hi hin).elim
   | some j =>
     obtain ⟨_,h2⟩:=idx_some hi
     rw [Option.getD_some,List.getD_eq_getElem?_getD,show j=j - 0 from rfl,h2]
     rfl
  cases v with
  | any=>rfl
  | c v=>rfl
  | p id off=>simp only [Function.comp,unrd,V.up,key id rfl]
  | sl id off len cap=>simp only [Function.comp,unrd,V.up,key id rfl]
  | sd id len sz=>simp only [Function.comp,unrd,V.up,key id rfl,Nat.add_zero]
  | ts id off len cap w=>simp only [Function.comp,unrd,V.up,key id rfl]
  | td id len sz w=>simp only [Function.comp,unrd,V.up,key id rfl,Nat.add_zero]
  | fn g id off=>simp only [Function.comp,unrd,V.up,key id rfl]
  | _=>rfl
 have hdet:∀ v:V,v∈al.map (unrd (ids al) fun id sz=>(β id).3/sz)→v.det=true:=by
  intro v hv
  obtain ⟨x,hx,rfl⟩:=List.mem_map.1 hv
  have hkx:x.known=true:=List.all_eq_true.1 (Bool.and_eq_true _ _▸hk).1 x hx
  cases x<;>first | rfl | cases hkx
 have hcall:=hF w _ A _ hlaid (fun i ri hi hown=>by rw [hnown i ri hi] at hown; cases hown) hM (f2_up hdet)
 rw [ha] at hcall
 refine hcall.mono fun e w' hh=>?_
 obtain ⟨β',u,_,_,he,hu,_,hfr,_⟩:=hh
 have hur:u=r:=hu.1 rfl
 subst hur
 exact ⟨he,⟨hfr.os,hfr.tape,hfr.output,hfr.size,fun k hk=>hfr.block k hk (fun ⟨i,ri,hi,ho,_⟩=>by rw [hnown i ri hi] at ho; cases ho)⟩⟩
def Val1 (P:Program) (β:Env) (A:Nat→Prop) (w:World) (ρ:Operand→Value) (o:Oper) (v:V):Prop:=∃ u,v.is β A w u∧(execOp ρ o).run P w = .ok (.value u) w
def Call1 (P:Program) (β:Env) (A:Nat→Prop) (w:World) (f:FuncId) (args:Array Value) (v:V):Prop:=Calls P f args w fun e w'=>∃ u,e = .returned u∧Below w.heap.size w w' ∧ v.is β (fun b=>A b∨w.heap.size≤b) w' u
theorem val1 {A:Nat→Prop} {v:V} (hv:v.det=true) (h:(execOp ρ o).run P w = .ok (.value (v.up β)) w):Val1 P β A w ρ o v:=⟨_,is_up hv,h⟩
theorem call1 {A:Nat→Prop} {f:FuncId} {args:Array Value} {r:Value} (h:Calls P f args w fun e w'=>e = .returned r∧Below w.heap.size w w'):Call1 P β A w f args (.c r):=h.mono fun e w' hh=>⟨r,hh.1,hh.2,is_c⟩
set_option maxHeartbeats 2000000 in
theorem eff_val_sound {A:Nat→Prop} {v:V} (hlaid:Laid w) (h:eff0 P s o ans=some (.val v,obs)) (ho:Holds P obs) (hι:∀ x∈o.op.operands,(s.at x).is β A w (ρ x))
 (hm:∀ id r,row? s.m id=some r→id∈touch s o→Blk β A w (β id) r) :
 (∀ cs b,o.op ≠ .select cs b)∧(Val1 P β A w ρ o v ∨ ∃ f args,Call1 P β A w f args v∧(execOp ρ o).run P w = .ok (.enter f args) w) ∧
 (∀ m,(∀ x∈o.op.operands,(s.at x).lv m)→(∀ id r,row? s.m id=some r→id∈touch s o → ∀ v:V,v∈r.cells→v.lv m)→v.lv m):=by
 have hρ:∀ x∈o.op.operands,(s.at x).known=true→ρ x=(s.at x).up β:=fun x hx=>(hι x hx).1
 have pure_case:effPure P s o ans=some (.val v,obs)→(∀ cs b,o.op ≠ .select cs b)→(∀ cs b,o.op ≠ .select cs b)∧(Val1 P β A w ρ o v ∨ ∃ f args,Call1 P β A w f args v∧(execOp ρ o).run P w = .ok (.enter f args) w) ∧
  (∀ m,(∀ x∈o.op.operands,(s.at x).lv m)→(∀ id r,row? s.m id=some r→id∈touch s o → ∀ v:V,v∈r.cells→v.lv m)→v.lv m):=by
  intro h hs
  obtain ⟨u,hu,hr⟩:=effPure_sound (β:=β) h ho
  cases hu
  exact ⟨hs,.inl (val1 rfl (hr ρ hρ w)),fun _ _ _=>lv_c _ _⟩
 unfold eff0 at h
 split at h
 case h_1 x hop =>
  split at h
  ·rename_i hk
   cases h
   exact ⟨(by rw [hop]; intro cs b hh; cases hh),.inl ⟨ρ x,hι x (by rw [hop]; simp [Op.operands]),by simp [execOp,hop]⟩,fun m hn _=>hn x (by rw [hop]; simp [Op.operands])⟩
  cases h
 case h_2 x hop =>
  split at h
  ·rename_i hk
   cases h
   exact ⟨(by rw [hop]; intro cs b hh; cases hh),.inl ⟨ρ x,hι x (by rw [hop]; simp [Op.operands]),by simp [execOp,hop]⟩,fun m hn _=>hn x (by rw [hop]; simp [Op.operands])⟩
  cases h
 case h_3 x hop =>
  split at h
  ·rename_i i j hx
   cases h
   have h1:ρ x=(V.p i j).up β:=by rw [hρ x (by rw [hop]; simp [Op.operands]) (by rw [hx]; rfl),hx]
   refine ⟨(by rw [hop]; intro cs b hh; cases hh),.inl (val1 rfl (by simp [execOp,hop,h1,V.up])),fun m hn _=>by have:=hn x (by rw [hop]; simp [Op.operands]); rw [hx] at this; exact this⟩
  ·rename_i l hx
   cases h
   have h1:=hι x (by rw [hop]; simp [Op.operands])
   rw [hx] at h1
   refine ⟨(by rw [hop]; intro cs b hh; cases hh),.inl ⟨ρ x,h1,?_⟩,fun m _ _=>lv_noid rfl⟩
   obtain ⟨b,o',hu,_⟩:=h1.2
   simp [execOp,hop,hu]
  exact pure_case h (by rw [hop]; intro cs b hh; cases hh)
 case h_4 t x f hop =>
  split at h
  ·rename_i id off hx
   split at h
   ·rename_i fields hu
    split at h
    ·rename_i fd hf
     split at h
     ·rename_i k hk
      cases h
      have h1:ρ x=(V.p id off).up β:=by rw [hρ x (by rw [hop]; simp [Op.operands]) (by rw [hx]; rfl),hx]
      refine ⟨(by rw [hop]; intro cs b hh; cases hh),.inl (val1 rfl ?_),fun m hn _=>by have:=hn x (by rw [hop]; simp [Op.operands]); rw [hx] at this; exact this⟩
      simp [execOp,hop,h1,V.up,Instr.fieldAt,underlying,program,Sem.run,hu,hf,Instr.sureAddr,fieldPlace,size_run hk,add_at,Nat.add_assoc]
     cases h
    cases h
   cases h
  ·rename_i l hx
   split at h
   ·rename_i fields hu
    split at h
    ·rename_i fd hf
     split at h
     ·rename_i k hk
      cases h
      have h1:=hι x (by rw [hop]; simp [Op.operands])
      rw [hx] at h1
      obtain ⟨b,o',hu',hA,hl,hc⟩:=h1.2
      refine ⟨(by rw [hop]; intro cs b hh; cases hh),.inl ⟨.pointer (some ⟨b,o' + fd.offset,none⟩),⟨fun hn=>(by cases hn),b,o' + fd.offset,rfl,hA,hl,fun k d hd=>?_⟩,?_⟩,fun m _ _=>lv_noid rfl⟩
      ·rw [List.getElem?_drop] at hd
       rw [Nat.add_assoc]
       exact hc _ d hd
      simp [execOp,hop,hu',Instr.fieldAt,underlying,program,Sem.run,hu,hf,Instr.sureAddr,fieldPlace,size_run hk,add_at]
     cases h
    cases h
   cases h
  cases h
 case h_5 t x i hop =>
  split at h
  ·rename_i m sz f k n hx hi
   split at h
   ·rename_i e' hu
    split at h
    ·rename_i sz' hz
     split at h
     case isFalse=>cases h
     rename_i hcc
     obtain ⟨rfl,hpos⟩:=hcc
     cases h
     have hn:0≤n∧n < (m:Int):=ho.1
     have h1:=hι x (by rw [hop]; simp [Op.operands])
     rw [hx] at h1
     obtain ⟨a,cap,hu',_,_,hr⟩:=h1.2.1
     have h2:ρ i = .int k n:=by rw [hρ i (by rw [hop]; simp [Op.operands]) (by rw [hi]; rfl),hi]; rfl
     obtain ⟨b,o',c0,ha,hA,hl,_⟩:=hr n.toNat (by omega) 0 hpos
     refine ⟨(by rw [hop]; intro cs b hh; cases hh),.inl ⟨.pointer (some ⟨b,o' + n.toNat*sz',none⟩),⟨fun hn=>(by cases hn),b,_,rfl,hA,hl,fun k d hd=>?_⟩,?_⟩,fun m _ _=>lv_noid rfl⟩
     ·rw [List.getElem?_map,Option.map_eq_some_iff] at hd
      obtain ⟨k',hk',rfl⟩:=hd
      have hlt:=(List.getElem?_eq_some_iff.1 hk').1
      rw [List.length_range] at hlt
      rw [List.getElem?_range hlt] at hk'
      cases hk'
      obtain ⟨b2,o2,c,ha2,_,_,hcell,hrep⟩:=hr n.toNat (by omega) k hlt
      rw [ha] at ha2
      cases ha2
      exact ⟨c,by rw [Nat.add_assoc]; exact hcell,hrep⟩
     have hu2:∀ w,(underlying t).run P w = .ok (.slice e') w:=fun w=>by simp [underlying,program,Sem.run,hu]
     simp [execOp,hop,hu',ha,h2,Instr.indexAt,asIntOf,hu2,hn,size_run hz,add_at]
    cases h
   cases h
  ·rename_i id off len cap k n hx hi
   split at h
   ·rename_i e' hu
    split at h
    ·rename_i sz hz
     cases h
     have hn:0≤n∧n < (len:Int):=ho.1
     have h1:ρ x = .slice (some ⟨(β id).1,(β id).2+off,none⟩) len cap:=by rw [hρ x (by rw [hop]; simp [Op.operands]) (by rw [hx]; rfl),hx]; rfl
     have h2:ρ i = .int k n:=by rw [hρ i (by rw [hop]; simp [Op.operands]) (by rw [hi]; rfl),hi]; rfl
     refine ⟨(by rw [hop]; intro cs b hh; cases hh),.inl (val1 rfl ?_),fun m hn _=>by have:=hn x (by rw [hop]; simp [Op.operands]); rw [hx] at this; exact this⟩
     have hu':∀ w,(underlying t).run P w = .ok (.slice e') w:=fun w=>by simp [underlying,program,Sem.run,hu]
     simp [execOp,hop,h1,h2,V.up,Instr.indexAt,asIntOf,hu',hn,size_run hz,add_at,Nat.add_assoc]
    cases h
   cases h
  ·rename_i id len sz0 k n hx hi
   split at h
   ·rename_i e' hu
    split at h
    ·rename_i sz hz
     cases h
     have hn:0≤n∧n < (len:Int):=ho.1
     have h1:ρ x = .slice (some ⟨(β id).1,(β id).2,none⟩) len ((β id).3/sz0):=by rw [hρ x (by rw [hop]; simp [Op.operands]) (by rw [hx]; rfl),hx]; rfl
     have h2:ρ i = .int k n:=by rw [hρ i (by rw [hop]; simp [Op.operands]) (by rw [hi]; rfl),hi]; rfl
     refine ⟨(by rw [hop]; intro cs b hh; cases hh),.inl (val1 rfl ?_),fun m hn _=>by have:=hn x (by rw [hop]; simp [Op.operands]); rw [hx] at this; exact this⟩
     have hu':∀ w,(underlying t).run P w = .ok (.slice e') w:=fun w=>by simp [underlying,program,Sem.run,hu]
     simp [execOp,hop,h1,h2,V.up,Instr.indexAt,asIntOf,hu',hn,size_run hz,add_at,Nat.add_assoc]
    cases h
   cases h
  ·rename_i id len sz0 k n hx hi
   split at h
   ·rename_i e' hu
    split at h
    ·rename_i sz hz
     cases h
     have hn:0≤n∧n < (len:Int):=ho.1
     have h0:=hι x (by rw [hop]; simp [Op.operands])
     rw [hx] at h0
     have h1:ρ x = .slice (some ⟨(β id).1,(β id).2,none⟩) len ((β id).3/sz0):=by
      rcases h0.2 with ⟨h,_⟩ | ⟨_,_,h⟩
      ·omega
      exact h
     have h2:ρ i = .int k n:=by rw [hρ i (by rw [hop]; simp [Op.operands]) (by rw [hi]; rfl),hi]; rfl
     refine ⟨(by rw [hop]; intro cs b hh; cases hh),.inl (val1 rfl ?_),fun m hn _=>by have:=hn x (by rw [hop]; simp [Op.operands]); rw [hx] at this; exact this⟩
     have hu':∀ w,(underlying t).run P w = .ok (.slice e') w:=fun w=>by simp [underlying,program,Sem.run,hu]
     simp [execOp,hop,h1,h2,V.up,Instr.indexAt,asIntOf,hu',hn,size_run hz,add_at,Nat.add_assoc]
    cases h
   cases h
  exact pure_case h (by rw [hop]; intro cs b hh; cases hh)
 case h_6 t x hop =>
  split at h
  ·rename_i id off hx
   split at h
   ·rename_i r hc
    have hb:=hm id r hc (by simp [touch,hop,hx])
    have h1:ρ x = .pointer (some ⟨(β id).1,(β id).2+off,none⟩):=by rw [hρ x (by rw [hop]; simp [Op.operands]) (by rw [hx]; rfl),hx]; rfl
    have aggc:∀ n,agg? P t=some true→size? P t=some n→((r.cells.drop off).take n).length=n → ∃ us:List Value,isL β A w ((r.cells.drop off).take n) us∧(execOp ρ o).run P w = .ok (.value (.agg us.toArray)) w:=by
     intro n ha hz hq
     obtain ⟨us,h2,h3⟩:=f2_pick (I:=V.is β A w) (g:=fun k=>w.cell? ⟨(β id).1,(β id).2+off+k,none⟩) ((r.cells.drop off).take n) 0 fun k v hv=>by
      rw [List.getElem?_take] at hv
      split at hv
      ·rw [List.getElem?_drop] at hv
       obtain ⟨u,hu,hi⟩:=hb.2.1 _ v hv
       exact ⟨u,by rw [Nat.zero_add,Nat.add_assoc]; exact hu,hi⟩
      cases hv
     refine ⟨us,h2,?_⟩
     have hl:=run_loadCells_list (P:=P) w ⟨(β id).1,(β id).2+off,none⟩ us (fun j v hv=>by
      rw [add_at]
      have:=h3 j v hv
      rwa [Nat.zero_add] at this)
     rw [(f2_get h2).1,hq] at hl
     simp [execOp,hop,Instr.loadAt,h1,Instr.sureAddr,loadVar,sval_run ha,size_run hz,hl]
    have cellc:∀ v,agg? P t=some false→r.cells[off]? = some v→Val1 P β A w ρ o v:=by
     intro v ha hv
     obtain ⟨u,hcell,hi⟩:=hb.2.1 _ _ hv
     exact ⟨u,hi,by simp [execOp,hop,Instr.loadAt,h1,Instr.sureAddr,loadVar,sval_run ha,hcell]⟩
    split at h
    ·rename_i n ha hz
     split at h
     ·rename_i hq
      cases h
      obtain ⟨us,h2,h3⟩:=aggc n ha hz hq.1
      refine ⟨(by rw [hop]; intro cs b hh; cases hh),.inl (val1 rfl ?_),fun _ _ _=>lv_c _ _⟩
      rw [h3]
      have:∀ {l:List V} {us:List Value},isL β A w l us→l.all V.isC=true→l.map V.val=us:=by
       intro l
       induction l with
       | nil=>intro us h _; cases us with
         | nil=>rfl
         | cons _ _=>exact h.elim
       | cons d l ih =>
         intro us h hp
         cases us with
         | nil=>exact h.elim
         | cons u us =>
           rw [List.all_cons,Bool.and_eq_true] at hp
           rw [List.map_cons,ih h.2 hp.2,h.1.1 (known_of hp.1),val_up hp.1]
      rw [← this h2 hq.2]
      rfl
     split at h
     ·rename_i l hl
      split at h
      ·rename_i hln
       cases h
       have hq:((r.cells.drop off).take n).length=n:=by rw [← toDs_len hl,hln]
       obtain ⟨us,h2,h3⟩:=aggc n ha hz hq
       exact ⟨(by rw [hop]; intro cs b hh; cases hh),.inl ⟨_,is_mkA (cs:=us.toArray) (repL_of hl h2),h3⟩,fun _ _ _=>lv_noid (mkA_id _)⟩
      cases h
     cases h
    ·rename_i n cs ha hz
     cases h
     obtain ⟨⟨hp,hs⟩,_⟩:=ho
     obtain ⟨us,h2,h3⟩:=aggc n ha hz (by rw [hp]; simpa using hs)
     refine ⟨(by rw [hop]; intro cs b hh; cases hh),.inl (val1 rfl ?_),fun _ _ _=>lv_c _ _⟩
     rw [h3]
     rw [hp] at h2
     have:∀ {l us:List Value},isL β A w (l.map V.c) us→us=l:=by
      intro l
      induction l with
      | nil=>intro us h; cases us with
        | nil=>rfl
        | cons _ _=>exact h.elim
      | cons d l ih =>
        intro us h
        cases us with
        | nil=>exact h.elim
        | cons u us=>rw [ih h.2,show u=d from h.1.1 rfl]
     rw [this h2]
     rfl
    ·rename_i ha
     split at h
     ·rename_i v' hv
      cases h
      exact ⟨(by rw [hop]; intro cs b hh; cases hh),.inl (cellc v ha hv),fun m _ hn=>hn id r hc (by simp [touch,hop,hx]) _ (List.mem_of_getElem? hv)⟩
     cases h
    ·rename_i u ha
     cases h
     exact ⟨(by rw [hop]; intro cs b hh; cases hh),.inl (cellc _ ha ho.1),fun _ _ _=>lv_c _ _⟩
    ·rename_i n l ha hz
     cases h
     obtain ⟨⟨hl,hln⟩,_⟩:=ho
     have hq:((r.cells.drop off).take n).length=n:=by rw [← toDs_len hl,hln]
     obtain ⟨us,h2,h3⟩:=aggc n ha hz hq
     exact ⟨(by rw [hop]; intro cs b hh; cases hh),.inl ⟨_,is_mkA (cs:=us.toArray) (repL_of hl h2),h3⟩,fun _ _ _=>lv_noid (mkA_id _)⟩
    ·rename_i v ha
     cases h
     exact ⟨(by rw [hop]; intro cs b hh; cases hh),.inl (cellc v ha ho.1),fun m _ hn=>hn id r hc (by simp [touch,hop,hx]) _ (List.mem_of_getElem? ho.1)⟩
    cases h
   cases h
  ·rename_i ad hx
   split at h
   ·rename_i u
    cases h
    have h1:ρ x = .pointer (some ad):=by rw [hρ x (by rw [hop]; simp [Op.operands]) (by rw [hx]; rfl),hx]; rfl
    have h2:=ho.1 w hlaid
    exact ⟨(by rw [hop]; intro cs b hh; cases hh),.inl (val1 rfl (by simp [execOp,hop,h1,h2,V.up])),fun _ _ _=>lv_c _ _⟩
   cases h
  ·rename_i l hx
   have h1:=hι x (by rw [hop]; simp [Op.operands])
   rw [hx] at h1
   obtain ⟨b,o',hu',hA,hl,hc⟩:=h1.2
   split at h
   ·rename_i l1 o1 o2 l2 n ha hz
    split at h
    ·rename_i hq
     cases h
     obtain ⟨us,h2,h3⟩:=repL_pick (A:=A) (w:=w) (g:=fun k=>w.cell? ⟨b,o' + k,none⟩) (List.take n l1) 0 fun k d hd=>by
      rw [List.getElem?_take] at hd
      split at hd
      ·rw [Nat.zero_add]; exact hc k d hd
      cases hd
     have hl2:=run_loadCells_list (P:=P) w ⟨b,o',none⟩ us (fun j v hv=>by
      rw [add_at]
      have:=h3 j v hv
      rwa [Nat.zero_add] at this)
     rw [repL_len h2,hq] at hl2
     exact ⟨(by rw [hop]; intro cs b hh; cases hh),.inl ⟨_,is_mkA (cs:=us.toArray) h2,by simp [execOp,hop,Instr.loadAt,hu',Instr.sureAddr,loadVar,sval_run ha,size_run hz,hl2]⟩,fun _ _ _=>lv_noid (mkA_id _)⟩
    cases h
   ·rename_i d l' ha
    cases h
    obtain ⟨c,hcell,hr⟩:=hc 0 d rfl
    rw [Nat.add_zero] at hcell
    exact ⟨(by rw [hop]; intro cs b hh; cases hh),.inl ⟨c,is_mk1 hr,by simp [execOp,hop,Instr.loadAt,hu',Instr.sureAddr,loadVar,sval_run ha,hcell]⟩,fun _ _ _=>lv_noid (mk1_id _)⟩
   cases h
  cases h
 case h_11 t x lo hi hop =>
  split at h
  ·rename_i id off len cap hx
   split at h
   ·rename_i e' hu
    split at h
    ·rename_i sz l hh hz hl hhi
     cases h
     obtain ⟨⟨h0,hlh,hhc⟩,_⟩:=ho
     have h1:ρ x = .slice (some ⟨(β id).1,(β id).2+off,none⟩) len cap:=by rw [hρ x (by rw [hop]; simp [Op.operands]) (by rw [hx]; rfl),hx]; rfl
     refine ⟨(by rw [hop]; intro cs b hh; cases hh),.inl (val1 rfl ?_),fun m hn _=>by have:=hn x (by rw [hop]; simp [Op.operands]); rw [hx] at this; exact this⟩
     have hu':∀ w,(underlying t).run P w = .ok (.slice e') w:=fun w=>by simp [underlying,program,Sem.run,hu]
     have hlo:(∃ y k,lo=some y∧ρ y = .int k l)∨(lo=none∧l=0):=by
      cases lo with
      | none=>simp only [Option.some.injEq] at hl; exact .inr ⟨rfl,hl.symm⟩
      | some y =>
        simp only at hl
        split at hl
        ·rename_i k n hy
         simp only [Option.some.injEq] at hl
         subst hl
         exact .inl ⟨y,k,rfl,by rw [hρ y (by rw [hop]; simp [Op.operands]) (by rw [hy]; rfl),hy]; rfl⟩
        cases hl
     have hho:(∃ y k,hi=some y∧ρ y = .int k hh)∨(hi=none∧hh=len):=by
      cases hi with
      | none=>simp only [Option.some.injEq] at hhi; exact .inr ⟨rfl,hhi.symm⟩
      | some y =>
        simp only at hhi
        split at hhi
        ·rename_i k n hy
         simp only [Option.some.injEq] at hhi
         subst hhi
         exact .inl ⟨y,k,rfl,by rw [hρ y (by rw [hop]; simp [Op.operands]) (by rw [hy]; rfl),hy]; rfl⟩
        cases hhi
     have hb:(Instr.sliceBounds true len cap (lo.map ρ) (hi.map ρ) none).run P w = .ok (l.toNat,hh.toNat,cap) w:=by
      have b1:∀ k code,(Instr.sliceBound (.int k hh) cap code).run P w = .ok hh.toNat w:=fun k code=>bound_ok ⟨by omega,hhc⟩
      have b2:∀ k code,(Instr.sliceBound (.int k l) hh.toNat code).run P w = .ok l.toNat w:=fun k code=>bound_ok ⟨h0,by omega⟩
      rcases hlo with ⟨y,k,rfl,hy⟩ | ⟨rfl,rfl⟩<;>rcases hho with ⟨y',k',rfl,hy'⟩ | ⟨rfl,rfl⟩
      ·simp [Instr.sliceBounds,hy,hy',b1,b2]
      ·simp only [Int.toNat_natCast] at b2 ⊢
       simp [Instr.sliceBounds,hy,b2]
      ·simp [Instr.sliceBounds,hy',b1]
      simp [Instr.sliceBounds]
     by_cases hcl:cap=l.toNat
     ·have hct:(cap=l.toNat)=True:=eq_true hcl
      simp only [execOp,hop,h1,V.up,Instr.sliceAt,Instr.slice,pure_bind,Sem.run_bind,hu',hb,size_run hz,Result.andThen_ok,hct,if_true,Option.map_none,Nat.add_zero]
      rfl
     have hcf:(cap=l.toNat)=False:=eq_false hcl
     simp only [execOp,hop,h1,V.up,Instr.sliceAt,Instr.slice,pure_bind,Sem.run_bind,hu',hb,size_run hz,Result.andThen_ok,hcf,if_false,Option.map_none,Option.map_some,add_at,Nat.add_assoc]
     rfl
    cases h
   cases h
  ·rename_i len sz0 f hx
   split at h
   ·rename_i e' hu
    split at h
    ·rename_i sz l hh hz hl hhi
     split at h
     case isFalse=>cases h
     rename_i hcc
     subst hcc
     cases h
     obtain ⟨⟨h0,hlh,hhc⟩,_⟩:=ho
     have hx1:=hι x (by rw [hop]; simp [Op.operands])
     rw [hx] at hx1
     obtain ⟨a,cap,h1,hcap,hsp,hr⟩:=hx1.2.1
     have hu':∀ w,(underlying t).run P w = .ok (.slice e') w:=fun w=>by simp [underlying,program,Sem.run,hu]
     have hlo:(∃ y k,lo=some y∧ρ y = .int k l)∨(lo=none∧l=0):=by
      cases lo with
      | none=>simp only [Option.some.injEq] at hl; exact .inr ⟨rfl,hl.symm⟩
      | some y =>
        simp only at hl
        split at hl
        ·rename_i k n hy
         simp only [Option.some.injEq] at hl
         subst hl
         exact .inl ⟨y,k,rfl,by rw [hρ y (by rw [hop]; simp [Op.operands]) (by rw [hy]; rfl),hy]; rfl⟩
        cases hl
     have hho:(∃ y k,hi=some y∧ρ y = .int k hh)∨(hi=none∧hh=len):=by
      cases hi with
      | none=>simp only [Option.some.injEq] at hhi; exact .inr ⟨rfl,hhi.symm⟩
      | some y =>
        simp only at hhi
        split at hhi
        ·rename_i k n hy
         simp only [Option.some.injEq] at hhi
         subst hhi
         exact .inl ⟨y,k,rfl,by rw [hρ y (by rw [hop]; simp [Op.operands]) (by rw [hy]; rfl),hy]; rfl⟩
        cases hhi
     have hb:(Instr.sliceBounds true len cap (lo.map ρ) (hi.map ρ) none).run P w = .ok (l.toNat,hh.toNat,cap) w:=by
      have b1:∀ k code,(Instr.sliceBound (.int k hh) cap code).run P w = .ok hh.toNat w:=fun k code=>bound_ok ⟨by omega,by omega⟩
      have b2:∀ k code,(Instr.sliceBound (.int k l) hh.toNat code).run P w = .ok l.toNat w:=fun k code=>bound_ok ⟨h0,by omega⟩
      rcases hlo with ⟨y,k,rfl,hy⟩ | ⟨rfl,rfl⟩<;>rcases hho with ⟨y',k',rfl,hy'⟩ | ⟨rfl,rfl⟩
      ·simp [Instr.sliceBounds,hy,hy',b1,b2]
      ·simp only [Int.toNat_natCast] at b2 ⊢
       simp [Instr.sliceBounds,hy,b2]
      ·simp [Instr.sliceBounds,hy',b1]
      simp [Instr.sliceBounds]
     have hrun:(execOp ρ o).run P w = .ok (.value (.slice (if cap=l.toNat then a else a.map (·.add (l.toNat*sz))) (hh.toNat - l.toNat) (cap - l.toNat))) w:=by
      simp only [execOp,hop,h1,Instr.sliceAt,Instr.slice,pure_bind,Sem.run_bind,hu',hb,size_run hz,Result.andThen_ok,Option.map_none]
      rfl
     refine ⟨(by rw [hop]; intro cs b hh; cases hh),.inl ⟨_,⟨fun hn=>(by cases hn),⟨_,_,rfl,by omega,?_,?_⟩,trivial⟩,hrun⟩,fun m _ _=>lv_noid rfl⟩
     ·intro ad had
      split at had
      ·exact hsp ad had
      rw [Option.map_eq_some_iff] at had
      obtain ⟨ad0,had0,rfl⟩:=had
      unfold Addr.add
      split
      ·exact hsp ad0 had0
      rfl
     intro i hi k hk
     obtain ⟨b,o',c,ha,hA,hbl,hcell,hrep⟩:=hr (i+l.toNat) (by omega) k hk
     have hne:cap≠l.toNat:=by omega
     refine ⟨b,o' + l.toNat*sz,c,?_,hA,hbl,?_,hrep⟩
     ·rw [if_neg hne,ha]
      simp [add_at]
     rw [← hcell,Nat.add_mul]
     congr 2
     omega
    cases h
   cases h
  exact pure_case h (by rw [hop]; intro cs b hh; cases hh)
 case h_12 t u x hop =>
  split at h
  ·rename_i id off len cap hx
   split at h
   ·rename_i r e' str hr hu1 hu2
    split at h
    ·rename_i he
     cases h
     obtain ⟨⟨xs,rfl,hlen,hcells⟩,_⟩:=ho
     have hb:=hm id r hr (by simp [touch,hop,hx])
     have h1:ρ x = .slice (some ⟨(β id).1,(β id).2+off,none⟩) len cap:=by rw [hρ x (by rw [hop]; simp [Op.operands]) (by rw [hx]; rfl),hx]; rfl
     refine ⟨(by rw [hop]; intro cs b hh; cases hh),.inl (val1 rfl ?_),fun _ _ _=>lv_c _ _⟩
     have hrun:=run_convert_bytes_arg (P:=P) w t e' hu1 he (β id).1 ((β id).2+off) len cap xs hlen (fun i hi=>by
      rw [Nat.add_assoc]
      have hg:r.cells[off+i]? = some (.c (.int .u8 (xs.getD i 0))):=by
       have h2:((r.cells.drop off).take len)[i]? = (xs.map fun n=>V.c (.int .u8 n))[i]?:=by rw [hcells]
       rw [List.getElem?_take,if_pos hi,List.getElem?_drop,List.getElem?_map] at h2
       rw [h2,List.getElem?_eq_getElem (by omega)]
       simp [List.getD_eq_getElem?_getD,List.getElem?_eq_getElem (show i < xs.length by omega)]
      obtain ⟨y,hy,hi⟩:=hb.2.1 _ _ hg
      rw [hy,hi.1 rfl]
      rfl) u hu2
     simp [execOp,hop,h1,hrun,V.up]
    cases h
   cases h
  ·rename_i id len sz0 hx
   split at h
   ·rename_i r e' str hr hu1 hu2
    split at h
    ·rename_i he
     cases h
     obtain ⟨⟨xs,rfl,hlen,hcells⟩,_⟩:=ho
     have hb:=hm id r hr (by simp [touch,hop,hx])
     have h0:=hι x (by rw [hop]; simp [Op.operands])
     rw [hx] at h0
     rcases h0.2 with ⟨hz,h1⟩ | ⟨_,_,h1⟩
     ·subst hz
      have hxs:xs=[]:=List.eq_nil_of_length_eq_zero hlen
      subst hxs
      refine ⟨(by rw [hop]; intro cs b hh; cases hh),.inl (val1 rfl ?_),fun _ _ _=>lv_c _ _⟩
      have hrun:(convert t u (.slice none 0 0)).run P w = .ok (.string .empty) w:=by
       simp [convert,underlying,program,Sem.run,hu1,hu2,he,Conv.bytesToString]
      simp [execOp,hop,h1,hrun,V.up,strOfNums]; rfl
     refine ⟨(by rw [hop]; intro cs b hh; cases hh),.inl (val1 rfl ?_),fun _ _ _=>lv_c _ _⟩
     have hrun:=run_convert_bytes_arg (P:=P) w t e' hu1 he (β id).1 (β id).2 len ((β id).3/sz0) xs hlen (fun i hi=>by
      have hg:r.cells[i]? = some (.c (.int .u8 (xs.getD i 0))):=by
       have h2:(r.cells.take len)[i]? = (xs.map fun n=>V.c (.int .u8 n))[i]?:=by rw [hcells]
       rw [List.getElem?_take,if_pos hi,List.getElem?_map] at h2
       rw [h2,List.getElem?_eq_getElem (by omega)]
       simp [List.getD_eq_getElem?_getD,List.getElem?_eq_getElem (show i < xs.length by omega)]
      obtain ⟨y,hy,hi⟩:=hb.2.1 _ _ hg
      rw [hy,hi.1 rfl]
      rfl) u hu2
     simp [execOp,hop,h1,hrun,V.up]
    cases h
   cases h
  exact pure_case h (by rw [hop]; intro cs b hh; cases hh)
 case h_13 c hop =>
  split at h
  ·rename_i f hc
   split at h
   ·rename_i g first captured hf
    split at h
    ·rename_i hcal
     split at h
     ·rename_i r
      split at h
      ·rename_i hcc
       cases h
       refine ⟨(by rw [hop]; intro cs b hh; cases hh),.inr ⟨g,first++c.args.map s.rho++captured,call1 (ho.1 w hlaid),?_⟩,fun _ _ _=>lv_c _ _⟩
       have hf1:ρ f = .func (.func g) first captured:=by
        rw [hρ f (by rw [hop]; simp [Op.operands,Call.operands,hc]) (by rw [hf]; rfl),hf]; rfl
       have ha:c.args.map ρ=c.args.map s.rho:=Array.map_congr_left fun x hx=>by
        have hcx:=List.all_eq_true.1 hcc x (Array.mem_toList_iff.2 hx)
        rw [hρ x (by rw [hop]; simp [Op.operands,Call.operands,hx]) (known_of hcx)]
        exact val_up hcx β
       unfold callee? at hcal
       split at hcal
       ·rename_i fn hfn
        simp only [Bool.and_eq_true,bne_iff_ne,ne_eq] at hcal
        obtain ⟨b,hbb⟩:=Option.isSome_iff_exists.1 hcal.2
        unfold execOp
        simp [hop,resolve,hc,hf1,Deferred.ofValue,invoke,ha,callFunc,hfn,hcal.1,hbb]
       cases hcal
      cases h
     ·rename_i r
      split at h
      ·rename_i hcc
       obtain ⟨rfl,rfl,hk,hfl⟩:=hcc
       cases h
       refine ⟨(by rw [hop]; intro cs b hh; cases hh),.inr ⟨g,((c.args.toList.map s.at).map (V.up β)).toArray,call1 (read_run hk (flatB_flat hfl) ho (fun id q hq hi=>hm id q hq (by simp only [touch,hop,hc]; exact List.mem_append_right _ hi)) hlaid),?_⟩,fun _ _ _=>lv_c _ _⟩
       have hf1:ρ f = .func (.func g) #[] #[]:=by
        rw [hρ f (by rw [hop]; simp [Op.operands,Call.operands,hc]) (by rw [hf]; rfl),hf]; rfl
       exact enter_run hop hc hf1 hcal (by rw [args_up hop hρ (Bool.and_eq_true _ _▸hk).1]; simp)
      cases h
     ·rename_i r
      split at h
      ·rename_i hcc
       obtain ⟨rfl,rfl,hk⟩:=hcc
       cases h
       obtain ⟨hfl,ho⟩:=ho
       refine ⟨(by rw [hop]; intro cs b hh; cases hh),.inr ⟨g,((c.args.toList.map s.at).map (V.up β)).toArray,call1 (read_run hk hfl ho (fun id q hq hi=>hm id q hq (by simp only [touch,hop,hc]; exact List.mem_append_right _ hi)) hlaid),?_⟩,fun _ _ _=>lv_c _ _⟩
       have hf1:ρ f = .func (.func g) #[] #[]:=by
        rw [hρ f (by rw [hop]; simp [Op.operands,Call.operands,hc]) (by rw [hf]; rfl),hf]; rfl
       exact enter_run hop hc hf1 hcal (by rw [args_up hop hρ (Bool.and_eq_true _ _▸hk).1]; simp)
      cases h
     ·rename_i r
      split at h
      ·rename_i hcc
       obtain ⟨rfl,rfl,hfre,hrf⟩:=hcc
       cases h
       have hkeep:Keep A (alw A β []) w w:=⟨Nat.le_refl _,fun b _ hb=>⟨⟨hb,fun id r hr=>(by simp [row?] at hr)⟩,rfl⟩⟩
       have hcall:=ho.1 w β A (c.args.toList.map ρ) hlaid (fun i ri hi=>by simp [row?] at hi) ⟨fun i r hr=>(by simp [row?] at hr),fun i j ri rj hi=>(by simp [row?] at hi),fun i r hr=>(by simp [row?] at hr)⟩
        (f2_map fun x hx=>(hι x (by rw [hop]; simp [Op.operands,Call.operands]; exact .inr (Array.mem_toList_iff.1 hx))).keep hkeep fun _ _=>rfl)
       refine ⟨(by rw [hop]; intro cs b hh; cases hh),.inr ⟨g,(c.args.toList.map ρ).toArray,hcall.mono fun e w' hh=>?_,?_⟩,fun _ _ _=>lv_noid (noid_fre hrf)⟩
       ·obtain ⟨β',y,_,_,he,hy,_,hfr,_⟩:=hh
        refine ⟨y,he,⟨hfr.os,hfr.tape,hfr.output,hfr.size,fun k hk=>hfr.block k hk (fun ⟨i,ri,hi,_⟩=>by simp [row?] at hi)⟩,hy.keep ⟨Nat.le_refl _,fun b _ hb=>⟨?_,rfl⟩⟩ fun id hid=>?_⟩
        ·rcases hb.1 with hb | ⟨i,ri,hi,_⟩ | hb
         ·exact .inl hb
         ·simp [row?] at hi
         exact .inr hb
        rw [noid_fre hrf] at hid
        cases hid
       have hf1:ρ f = .func (.func g) #[] #[]:=by
        rw [hρ f (by rw [hop]; simp [Op.operands,Call.operands,hc]) (by rw [hf]; rfl),hf]; rfl
       exact enter_run hop hc hf1 hcal (by apply Array.ext'; simp)
      cases h
     ·split at h
      ·cases h
      cases h
     cases h
    exact pure_case h (by rw [hop]; intro cs b hh; cases hh)
   ·rename_i g id off hf
    split at h
    ·rename_i r
     split at h
     ·rename_i hcc
      obtain ⟨hcal,hk,hfl⟩:=hcc
      cases h
      have hin:∀ i,i∈(c.args.toList.map s.at++[V.p id off]).filterMap V.id? → i∈touch s o:=by
       intro i hi
       have ht:touch s o=id::(c.args.toList.map s.at).filterMap V.id?:=by
        unfold touch
        rw [hop]
        simp only [hc]
        rw [hf]
        rfl
       rw [ht]
       rw [List.filterMap_append] at hi
       rcases List.mem_append.1 hi with hi | hi
       ·exact List.mem_cons_of_mem _ hi
       have:i=id:=by simpa [V.id?] using hi
       rw [this]
       exact List.mem_cons_self
      have hrun:=read_run (β:=β) (w:=w) hk (flatB_flat hfl) ho (fun i q hq hi=>hm i q hq (hin i hi)) hlaid
      refine ⟨(by rw [hop]; intro cs b hh; cases hh),.inr ⟨g,_,call1 hrun,?_⟩,fun _ _ _=>lv_c _ _⟩
      have hf1:ρ f = .func (.func g) #[] #[.pointer (some ⟨(β id).1,(β id).2+off,none⟩)]:=by
       rw [hρ f (by rw [hop]; simp [Op.operands,Call.operands,hc]) (by rw [hf]; rfl),hf]; rfl
      have hk1:(c.args.toList.map s.at).all V.known=true:=by
       have:=(Bool.and_eq_true _ _▸hk).1
       rw [List.all_append,Bool.and_eq_true] at this
       exact this.1
      exact enter_run hop hc hf1 hcal (by rw [args_up hop hρ hk1]; simp [V.up])
     cases h
    cases h
   cases h
  ·rename_i hc
   split at h
   ·rename_i id off len cap e' hargs hty
    cases h
    refine ⟨(by rw [hop]; intro cs b hh; cases hh),.inl (val1 rfl ?_),fun _ _ _=>lv_c _ _⟩
    obtain ⟨x,hx⟩:∃ x,c.args = #[x]:=by
     have:(c.args.toList.map s.at).length=1:=by rw [hargs]; rfl
     rw [List.length_map] at this
     obtain ⟨x,hx⟩:=List.length_eq_one_iff.1 this
     exact ⟨x,by rw [← Array.toList_inj]; simpa using hx⟩
    rw [hx] at hargs
    simp only [List.map_cons,List.map_nil,List.cons.injEq,and_true] at hargs
    have h1:ρ x = .slice (some ⟨(β id).1,(β id).2+off,none⟩) len cap:=by rw [hρ x (by rw [hop]; simp [Op.operands,Call.operands,hx]) (by rw [hargs]; rfl),hargs]; rfl
    rw [Option.bind_eq_some_iff] at hty
    obtain ⟨t,ht,hu⟩:=hty
    unfold execOp
    simp [hop,resolve,hc,invoke,builtin,Builtin.len_,hx,h1,ht,underlying,program,Sem.run,hu,V.up,goInt]
   ·rename_i id len sz0 e' hargs hty
    cases h
    refine ⟨(by rw [hop]; intro cs b hh; cases hh),.inl (val1 rfl ?_),fun _ _ _=>lv_c _ _⟩
    obtain ⟨x,hx⟩:∃ x,c.args = #[x]:=by
     have:(c.args.toList.map s.at).length=1:=by rw [hargs]; rfl
     rw [List.length_map] at this
     obtain ⟨x,hx⟩:=List.length_eq_one_iff.1 this
     exact ⟨x,by rw [← Array.toList_inj]; simpa using hx⟩
    rw [hx] at hargs
    simp only [List.map_cons,List.map_nil,List.cons.injEq,and_true] at hargs
    have h1:ρ x = .slice (some ⟨(β id).1,(β id).2,none⟩) len ((β id).3/sz0):=by rw [hρ x (by rw [hop]; simp [Op.operands,Call.operands,hx]) (by rw [hargs]; rfl),hargs]; rfl
    rw [Option.bind_eq_some_iff] at hty
    obtain ⟨t,ht,hu⟩:=hty
    unfold execOp
    simp [hop,resolve,hc,invoke,builtin,Builtin.len_,hx,h1,ht,underlying,program,Sem.run,hu,V.up,goInt]
   ·rename_i id len sz0 e' hargs hty
    cases h
    refine ⟨(by rw [hop]; intro cs b hh; cases hh),.inl (val1 rfl ?_),fun _ _ _=>lv_c _ _⟩
    obtain ⟨x,hx⟩:∃ x,c.args = #[x]:=by
     have:(c.args.toList.map s.at).length=1:=by rw [hargs]; rfl
     rw [List.length_map] at this
     obtain ⟨x,hx⟩:=List.length_eq_one_iff.1 this
     exact ⟨x,by rw [← Array.toList_inj]; simpa using hx⟩
    rw [hx] at hargs
    simp only [List.map_cons,List.map_nil,List.cons.injEq,and_true] at hargs
    have h0:=hι x (by rw [hop]; simp [Op.operands,Call.operands,hx])
    rw [hargs] at h0
    rw [Option.bind_eq_some_iff] at hty
    obtain ⟨t,ht,hu⟩:=hty
    rcases h0.2 with ⟨hz,h1⟩ | ⟨hz,_,h1⟩
    ·unfold execOp
     simp [hop,resolve,hc,invoke,builtin,Builtin.len_,hx,h1,ht,underlying,program,Sem.run,hu,V.up,goInt,hz]
    unfold execOp
    simp [hop,resolve,hc,invoke,builtin,Builtin.len_,hx,h1,ht,underlying,program,Sem.run,hu,V.up,goInt]
   ·rename_i len sz0 f0 e' hargs hty
    cases h
    refine ⟨(by rw [hop]; intro cs b hh; cases hh),.inl (val1 rfl ?_),fun _ _ _=>lv_c _ _⟩
    obtain ⟨x,hx⟩:∃ x,c.args = #[x]:=by
     have:(c.args.toList.map s.at).length=1:=by rw [hargs]; rfl
     rw [List.length_map] at this
     obtain ⟨x,hx⟩:=List.length_eq_one_iff.1 this
     exact ⟨x,by rw [← Array.toList_inj]; simpa using hx⟩
    rw [hx] at hargs
    simp only [List.map_cons,List.map_nil,List.cons.injEq,and_true] at hargs
    have h0:=hι x (by rw [hop]; simp [Op.operands,Call.operands,hx])
    rw [hargs] at h0
    rw [Option.bind_eq_some_iff] at hty
    obtain ⟨t,ht,hu⟩:=hty
    obtain ⟨a,cap,h1,_⟩:=h0.2.1
    unfold execOp
    simp [hop,resolve,hc,invoke,builtin,Builtin.len_,hx,h1,ht,underlying,program,Sem.run,hu,V.up,goInt]
   exact pure_case h (by rw [hop]; intro cs b hh; cases hh)
  ·split at h
   ·obtain ⟨_,_,_,hv⟩:=appE_app h; cases hv
   exact pure_case h (by rw [hop]; intro cs b hh; cases hh)
  exact pure_case h (by rw [hop]; intro cs b hh; cases hh)
 case h_15 t parts hop =>
  split at h
  ·exact pure_case h (by rw [hop]; intro cs b hh; cases hh)
  split at h
  case h_2=>cases h
  rename_i fields hu
  split at h
  case h_2=>cases h
  rename_i z places hz hpl
  split at h
  case h_2=>cases h
  rename_i l hl
  cases h
  rw [Option.bind_eq_some_iff] at hl
  obtain ⟨cells,hfl,hds⟩:=hl
  obtain ⟨us',hfill,hi'⟩:=fillV_sound (g:=s.at) (ρ:=ρ) parts.toList _ _ z.cells hfl (fun p hp=>hι p.2 (by rw [hop]; simp only [Op.operands,List.mem_toArray,List.mem_map]; exact ⟨p,hp,rfl⟩)) (f2_c _)
  refine ⟨(by rw [hop]; intro cs b hh; cases hh),.inl ⟨_,is_mkA (cs:=us') (repL_of hds hi'),?_⟩,fun _ _ _=>lv_noid (mkA_id _)⟩
  have hparts:(parts.map fun (i,x)=>(i,ρ x)).toList=parts.toList.map fun p=>(p.1,ρ p.2):=by
   rw [Array.toList_map]
  have hb:(Instr.build t (parts.map fun (i,x)=>(i,ρ x))).run P w = .ok (.agg us') w:=by
   unfold Instr.build
   simp only [Sem.run_bind,sval_run hz,Result.andThen_ok,run_underlying hu,sval_run hpl,hparts,hfill]
   rfl
  unfold execOp
  simp only [hop,Sem.run_bind,hb,Result.andThen_ok]
  rfl
 case h_16 t x f hop =>
  split at h
  ·rename_i l hx
   split at h
   case h_2=>cases h
   rename_i fields hu
   split at h
   case h_2=>cases h
   rename_i fd hf
   have h1:=hι x (by rw [hop]; simp [Op.operands])
   rw [hx] at h1
   obtain ⟨cs,hu',hr⟩:=h1.2
   split at h
   ·rename_i n ha hz
    split at h
    case isFalse=>cases h
    rename_i hq
    cases h
    have hr2:=repL_take n (repL_drop fd.offset hr)
    refine ⟨(by rw [hop]; intro cs b hh; cases hh),.inl ⟨_,is_mkA (cs:=((cs.toList.drop fd.offset).take n).toArray) hr2,?_⟩,fun _ _ _=>lv_noid (mkA_id _)⟩
    have he:cs.extract fd.offset (fd.offset+n)=((cs.toList.drop fd.offset).take n).toArray:=by
     rw [← Array.toList_inj]
     simp [Array.toList_extract,List.extract]
    unfold execOp
    simp [hop,Instr.field,hu',underlying,program,Sem.run,hu,hf,asAgg,part,sval_run ha,size_run hz,he]
   ·rename_i ha hz
    split at h
    ·rename_i d l' hd
     cases h
     have hr2:=repL_drop fd.offset hr
     rw [hd] at hr2
     cases hcs:cs.toList.drop fd.offset with
     | nil=>rw [hcs] at hr2; exact hr2.elim
     | cons c cs' =>
       rw [hcs] at hr2
       have hc0:cs[fd.offset]? = some c:=by
        have:(cs.toList.drop fd.offset)[0]? = some c:=by rw [hcs]; rfl
        rw [List.getElem?_drop] at this
        simpa using this
       refine ⟨(by rw [hop]; intro cs b hh; cases hh),.inl ⟨c,is_mk1 hr2.1,?_⟩,fun _ _ _=>lv_noid (mk1_id _)⟩
       unfold execOp
       simp [hop,Instr.field,hu',underlying,program,Sem.run,hu,hf,asAgg,part,sval_run ha,hc0]
    cases h
   cases h
  exact pure_case h (by rw [hop]; intro cs b hh; cases hh)
 case h_17 x i hop =>
  split at h
  ·rename_i id off len cap w' hx
   cases h
   have h1:ρ x = .tuple #[.slice (some ⟨(β id).1,(β id).2+off,none⟩) len cap,w']:=by rw [hρ x (by rw [hop]; simp [Op.operands]) (by rw [hx]; rfl),hx]; rfl
   exact ⟨(by rw [hop]; intro cs b hh; cases hh),.inl (val1 rfl (by simp [execOp,hop,h1,Instr.extract,V.up])),fun m hn _=>by have:=hn x (by rw [hop]; simp [Op.operands]); rw [hx] at this; exact this⟩
  ·rename_i id off len cap w' hx
   cases h
   have h1:ρ x = .tuple #[.slice (some ⟨(β id).1,(β id).2+off,none⟩) len cap,w']:=by rw [hρ x (by rw [hop]; simp [Op.operands]) (by rw [hx]; rfl),hx]; rfl
   exact ⟨(by rw [hop]; intro cs b hh; cases hh),.inl (val1 rfl (by simp [execOp,hop,h1,Instr.extract,V.up])),fun _ _ _=>lv_c _ _⟩
  ·rename_i id len sz w' hx
   cases h
   have h1:ρ x = .tuple #[.slice (some ⟨(β id).1,(β id).2,none⟩) len ((β id).3/sz),w']:=by rw [hρ x (by rw [hop]; simp [Op.operands]) (by rw [hx]; rfl),hx]; rfl
   exact ⟨(by rw [hop]; intro cs b hh; cases hh),.inl (val1 rfl (by simp [execOp,hop,h1,Instr.extract,V.up])),fun m hn _=>by have:=hn x (by rw [hop]; simp [Op.operands]); rw [hx] at this; exact this⟩
  ·rename_i id len sz w' hx
   cases h
   have h1:ρ x = .tuple #[.slice (some ⟨(β id).1,(β id).2,none⟩) len ((β id).3/sz),w']:=by rw [hρ x (by rw [hop]; simp [Op.operands]) (by rw [hx]; rfl),hx]; rfl
   exact ⟨(by rw [hop]; intro cs b hh; cases hh),.inl (val1 rfl (by simp [execOp,hop,h1,Instr.extract,V.up])),fun _ _ _=>lv_c _ _⟩
  ·rename_i l hx
   have h1:=hι x (by rw [hop]; simp [Op.operands])
   rw [hx] at h1
   obtain ⟨us,hu',hr⟩:=h1.2
   have hat:∀ (l:List (Bool × List D)) (us:List Value) (i:Nat) (p:Bool × List D),RepT A w l us→l[i]? = some p → ∃ y,us[i]? = some y∧RepV A w p.1 p.2 y:=by
    intro l
    induction l with
    | nil=>intro us i p _ hp; simp at hp
    | cons q l ih =>
      intro us i p hr hp
      obtain ⟨qb,ql⟩:=q
      cases us with
      | nil=>exact hr.elim
      | cons y us =>
        cases i with
        | zero=>simp only [List.getElem?_cons_zero,Option.some.injEq] at hp; subst hp; exact ⟨y,rfl,hr.1⟩
        | succ i=>simpa using ih us i p hr.2 (by simpa using hp)
   split at h
   ·rename_i l2 hl
    cases h
    obtain ⟨y,hy,hv⟩:=hat _ _ _ _ hr hl
    obtain ⟨cs,rfl,hr2⟩:=hv
    exact ⟨(by rw [hop]; intro cs b hh; cases hh),.inl ⟨_,is_mkA hr2,by simp only [Array.getElem?_toList] at hy; simp [execOp,hop,hu',Instr.extract,hy]⟩,fun _ _ _=>lv_noid (mkA_id _)⟩
   ·rename_i d hl
    cases h
    obtain ⟨y,hy,hv⟩:=hat _ _ _ _ hr hl
    exact ⟨(by rw [hop]; intro cs b hh; cases hh),.inl ⟨y,is_mk1 hv.1,by simp only [Array.getElem?_toList] at hy; simp [execOp,hop,hu',Instr.extract,hy]⟩,fun _ _ _=>lv_noid (mk1_id _)⟩
   cases h
  exact pure_case h (by rw [hop]; intro cs b hh; cases hh)
 case h_18 g first captured hop =>
  split at h
  ·rename_i id off hfi hca
   cases h
   have e1:first = #[]:=by rw [← Array.toList_inj]; exact hfi
   obtain ⟨x,hx⟩:∃ x,captured = #[x]:=by
    have:(captured.toList.map s.at).length=1:=by rw [hca]; rfl
    rw [List.length_map] at this
    obtain ⟨x,hx⟩:=List.length_eq_one_iff.1 this
    exact ⟨x,by rw [← Array.toList_inj]; simpa using hx⟩
   rw [hx] at hca
   simp only [List.map_cons,List.map_nil,List.cons.injEq,and_true] at hca
   have h1:ρ x = .pointer (some ⟨(β id).1,(β id).2+off,none⟩):=by rw [hρ x (by rw [hop,hx]; simp [Op.operands]) (by rw [hca]; rfl),hca]; rfl
   exact ⟨(by rw [hop]; intro cs b hh; cases hh),.inl (val1 rfl (by simp [execOp,hop,e1,hx,h1,Instr.makeFunc,V.up])),fun m hn _=>by have:=hn x (by rw [hop,hx]; simp [Op.operands]); rw [hca] at this; exact this⟩
  exact pure_case h (by rw [hop]; intro cs b hh; cases hh)
 case h_19 t x i hop =>
  split at h
  ·split at h
   ·rename_i str k n hx hi hu
    cases h
    obtain ⟨⟨h0,h1⟩,_⟩:=ho
    have e1:ρ x = .string str:=by rw [hρ x (by rw [hop]; simp [Op.operands]) (by rw [hx]; rfl),hx]; rfl
    have e2:ρ i = .int k n:=by rw [hρ i (by rw [hop]; simp [Op.operands]) (by rw [hi]; rfl),hi]; rfl
    refine ⟨(by rw [hop]; intro cs b hh; cases hh),.inl (val1 rfl ?_),fun _ _ _=>lv_c _ _⟩
    have hlt:n.toNat < str.size:=by omega
    have hb:str[n.toNat]? = some (str[n.toNat]'hlt):=getElem?_pos str n.toNat hlt
    have hv:(bAt str n.toNat:Int)=((str[n.toNat]'hlt).toNat:Int):=by
     unfold bAt
     rw [List.getD_eq_getElem?_getD,Array.getElem?_toList,Array.getElem?_eq_getElem (by exact hlt)]
     rfl
    unfold execOp
    simp [hop,e1,e2,Instr.index,asIntOf,underlying,program,Sem.run,hu,h0,hb,V.up,hv]
   cases h
  exact pure_case h (by rw [hop]; intro cs b hh; cases hh)
 case h_20 =>
  refine pure_case h ?_
  intro cs b hh
  unfold effPure at h
  rw [hh] at h
  cases h
 all_goals exfalso
 all_goals (repeat' (split at h))
 all_goals (cases h; done)
end
def unrow (m:Rows):Option Nat→Rows
 | none=>m
 | some k=>m.set k ((row? m k).map fun _=>⟨false,[]⟩)
def stepSt (s:St) (d:Option Tmp):Eff→St
 | .val v=>s.put d v
 | .new cells _ rf=>{ t:=(s.put d (rf s.m.length)).t,m:=s.m++[some ⟨true,cells⟩] }
 | .put id off vs=>{ t:=(s.put d (.c undef)).t,m:=s.m.set id ((row? s.m id).map fun r=>⟨r.own,splice r.cells off vs⟩) }
 | .all m v=>{ t:=(s.put d v).t,m:=m }
 | .app kill cells rf=>{ t:=(s.put d (rf s.m.length)).t,m:=unrow s.m kill++[some ⟨true,cells⟩] }
structure Tm (β:Env) (t:List V) (x:Array Value):Prop where
 size:x.size=t.length
 get:∀ (i:Nat) (v:V),t[i]? = some v→v.known=true→x[i]? = some (v.up β)
structure Cx where
 D:Nat→Prop
 A:Nat→Prop
 m0:Rows
 b0:Env
def Cx.B (C:Cx) (w0:World) (b:Nat):Prop:=C.A b∨C.D b∨w0.heap.size≤b
def Cx.n0 (C:Cx):Nat:=C.m0.length
structure Ok (C:Cx) (β:Env) (w0:World) (s:St) (a:Act) (w:World):Prop where
 tmps:Tm β s.t a.tmps
 defers:a.defers=[]
 mem:Mem β (C.B w0) s.m w
 dirty:∀ id r,row? s.m id=some r→r.own=true→w0.heap.size≤(β id).1∨C.D (β id).1
 frame:Fr C.D w0 w
 ltt:∀ v:V,v∈s.t→v.lv s.m
 pin:(∀ i,i < C.n0→β i=C.b0 i)∧C.n0≤s.m.length∧RO C.m0 s.m
 laid:Laid w0 ∧ ¬ C.D tabG
 dat:∀ (i:Nat) (v:V),s.t[i]? = some v → ∃ u,a.tmps[i]? = some u∧v.dis β (alw (C.B w0) β s.m) w u
section
variable {P:Program} {C:Cx} {β:Env} {s:St} {o:Oper} {ans:Option Ans} {e:Eff} {obs:List Ob} {w w0:World} {a:Act} {K:Act→World→Prop} {Q:Exit→Act→World→Prop}
theorem Ok.here (h:Ok C β w0 s a w):Laid w:=h.laid.1.fr h.frame h.laid.2
theorem Ok.apart (h:Ok C β w0 s a w):∀ i ri,row? s.m i=some ri→ri.own=true→(β i).1≠tabG:=fun i ri hi ho he=>by
 rcases h.dirty i ri hi ho with h1 | h1
 ·have:=h.laid.1.lt
  omega
 rw [he] at h1
 exact h.laid.2 h1
theorem Tm.eval (h:Tm β s.t a.tmps) (x:Operand) (hk:(s.at x).known=true):a.eval x=(s.at x).up β:=by
 cases x with
 | tmp t =>
   simp only [Act.eval,St.at,Array.getD_eq_getD_getElem?,List.getD_eq_getElem?_getD] at hk ⊢
   cases ht:s.t[t]? with
   | none =>
     have h1:s.t.length≤t:=List.getElem?_eq_none_iff.1 ht
     rw [Array.getElem?_eq_none (by rw [h.size]; exact h1)]
     rfl
   | some v =>
     rw [ht] at hk
     rw [h.get t v ht hk]
     rfl
 | const v=>rfl
 | global g=>rfl
 | func f=>rfl
theorem Ok.is (h:Ok C β w0 s a w) (x:Operand):(s.at x).is β (alw (C.B w0) β s.m) w (a.eval x):=by
 refine ⟨fun hk=>h.tmps.eval x hk,?_⟩
 cases x with
 | tmp t =>
   simp only [Act.eval,St.at,Array.getD_eq_getD_getElem?,List.getD_eq_getElem?_getD]
   cases ht:s.t[t]? with
   | none=>trivial
   | some v =>
     obtain ⟨u,hu,hd⟩:=h.dat t v ht
     rw [hu]
     exact hd
 | _=>trivial
theorem Ok.dats {β':Env} {w':World} {m':Rows} {v:V} {u:Value} {d:Option Tmp} (h:Ok C β w0 s a w) (hk:Keep (alw (C.B w0) β s.m) (alw (C.B w0) β' m') w w') (hb:∀ v:V,v.lv s.m → ∀ id,v.id? = some id→β' id=β id)
 (hv:v.dis β' (alw (C.B w0) β' m') w' u):∀ (i:Nat) (x:V),(s.put d v).t[i]? = some x → ∃ y,(a.put d u).tmps[i]? = some y∧x.dis β' (alw (C.B w0) β' m') w' y:=by
 intro i x hi
 have old:∀ (i:Nat) (x:V),s.t[i]? = some x → ∃ y,a.tmps[i]? = some y∧x.dis β' (alw (C.B w0) β' m') w' y:=fun i x hi=>by
  obtain ⟨y,hy,hd⟩:=h.dat i x hi
  exact ⟨y,hy,hd.keep hk (hb x (h.ltt x (List.mem_of_getElem? hi)))⟩
 cases d with
 | none=>exact old i x hi
 | some d =>
   simp only [St.put] at hi
   simp only [Act.put]
   by_cases hid:i=d
   ·subst hid
    have hl:i < s.t.length:=by
     have:=(List.getElem?_eq_some_iff.1 hi).1
     simpa using this
    rw [List.getElem?_set_self hl] at hi
    cases hi
    rw [Array.getElem?_setIfInBounds_self_of_lt (by rw [h.tmps.size]; exact hl)]
    exact ⟨u,rfl,hv⟩
   rw [List.getElem?_set_ne (Ne.symm hid)] at hi
   rw [Array.getElem?_setIfInBounds_ne (Ne.symm hid)]
   exact old i x hi
theorem Tm.put {v:V} (h:Tm β s.t a.tmps) (d:Option Tmp) {u:Value} (hu:v.known=true→u=v.up β):Tm β (s.put d v).t (a.put d u).tmps:=by
 cases d with
 | none=>exact h
 | some d =>
   refine ⟨by simp [Act.put,St.put,h.size],fun i x hi hk=>?_⟩
   simp only [St.put] at hi
   simp only [Act.put]
   by_cases hid:i=d
   ·subst hid
    have hl:i < s.t.length:=by
     have:=(List.getElem?_eq_some_iff.1 hi).1
     simpa using this
    rw [List.getElem?_set_self hl] at hi
    cases hi
    rw [Array.getElem?_setIfInBounds_self_of_lt (by rw [h.size]; exact hl),hu hk]
   rw [List.getElem?_set_ne (Ne.symm hid)] at hi
   rw [Array.getElem?_setIfInBounds_ne (Ne.symm hid)]
   exact h.get i x hi hk
theorem Tm.congr {β':Env} {t:List V} {x:Array Value} {m:Rows} (h:Tm β t x) (hl:∀ v:V,v∈t→v.lv m) (hb:∀ i,i < m.length→β' i=β i):Tm β' t x :=
 ⟨h.size,fun i v hi hk=>by rw [h.get i v hi hk,up_congr (hl v (List.mem_of_getElem? hi)) hb]⟩
theorem put_defers {v:Value} (d:Option Tmp):(a.put d v).defers=a.defers:=by cases d<;>rfl
theorem put_mem {v u:V} {d:Option Tmp} (h:u∈(s.put d v).t):u∈s.t∨u=v:=by
 cases d with
 | none=>exact .inl h
 | some d=>exact List.mem_or_eq_of_mem_set h
theorem put_m {v:V} {d:Option Tmp}:(s.put d v).m=s.m:=by cases d<;>rfl
theorem at_lv (h:∀ v:V,v∈s.t→v.lv s.m) (x:Operand):(s.at x).lv s.m:=by
 cases x with
 | tmp t =>
   simp only [St.at,List.getD_eq_getElem?_getD]
   cases ht:s.t[t]? with
   | none=>exact lv_c _ _
   | some v=>exact h v (List.mem_of_getElem? ht)
 | const v=>exact lv_c _ _
 | global g=>exact lv_c _ _
 | func f=>exact lv_c _ _
theorem Blk.keep {β':Env} {A A':Nat→Prop} {w':World} {x:Loc} {r:Row} (h:Blk β A w x r) (hs:w.heap.size≤w'.heap.size) (hb:(r.own=true∨r.cells≠[])→w'.heap[x.1]? = w.heap[x.1]?)
 (hk:Keep A A' w w') (hβ:∀ v:V,v∈r.cells → ∀ id,v.id? = some id→β' id=β id):Blk β' A' w' x r:=by
 obtain ⟨h1,h2,h3⟩:=h
 refine ⟨Nat.lt_of_lt_of_le h1 hs,fun k v hv=>?_,fun ho=>?_⟩
 ·obtain ⟨u,hu,hi⟩:=h2 k v hv
  have hm:=List.mem_of_getElem? hv
  refine ⟨u,?_,hi.keep hk (hβ v hm)⟩
  rw [← hu]
  simp only [World.cell?,hb (.inr fun e=>by rw [e] at hm; cases hm)]
 obtain ⟨arr,e,he,hrm⟩:=h3 ho
 exact ⟨arr,e,by rw [hb (.inl ho)]; exact he,hrm⟩
theorem splice_mem {u:V}:∀ {vs l:List V} {off:Nat},u∈splice l off vs→u∈l∨u∈vs
 | [],l,off,h=>.inl h
 | v::r,l,off,h=>by
   rcases splice_mem (vs:=r) h with h | h
   ·rcases List.mem_or_eq_of_mem_set h with h | rfl
    ·exact .inl h
    exact .inr List.mem_cons_self
   exact .inr (List.mem_cons_of_mem _ h)
theorem row_append {m:Rows} {x:Option Row} {id:Nat} {r:Row} (h:row? (m++[x]) id=some r):row? m id=some r∨(id=m.length∧x=some r):=by
 unfold row? at h ⊢
 by_cases hid:id < m.length
 ·rw [List.getElem?_append_left hid] at h
  exact .inl h
 rw [List.getElem?_append_right (by omega)] at h
 cases hz:id - m.length with
 | zero =>
   rw [hz] at h
   simp only [List.getElem?_cons_zero,Option.bind_some] at h
   exact .inr ⟨by omega,h⟩
 | succ k =>
   rw [hz] at h
   simp at h
theorem row_append_old {m:Rows} {x:Option Row} {id:Nat} {r:Row} (h:row? m id=some r):row? (m++[x]) id=some r:=by
 have hl:=row_lt h
 unfold row? at h ⊢
 rw [List.getElem?_append_left hl]
 exact h
theorem row_append_new {m:Rows} {x:Option Row}:row? (m++[x]) m.length=x:=by simp [row?]
theorem lv_append {m:Rows} {x:Option Row} {v:V} (h:v.lv m):v.lv (m++[x]):=fun id hid=>by
 obtain ⟨r,hr⟩:=h id hid
 exact ⟨r,row_append_old hr⟩
theorem row_set {m:Rows} {id i:Nat} {x:Option Row} {r:Row} (h:row? (m.set id x) i=some r):(i≠id∧row? m i=some r)∨(i=id∧x=some r):=by
 unfold row? at h ⊢
 by_cases hi:i=id
 ·subst hi
  by_cases hl:i < m.length
  ·rw [List.getElem?_set_self hl] at h
   exact .inr ⟨rfl,h⟩
  rw [List.getElem?_eq_none (by simpa using hl)] at h
  cases h
 rw [List.getElem?_set_ne (Ne.symm hi)] at h
 exact .inl ⟨hi,h⟩
theorem row_set_old {m:Rows} {id i:Nat} {R:Row} {r:Row} (h0:row? m id=some R) (r':Row) (h:row? m i=some r):∃ r2,row? (m.set id (some r')) i=some r2:=by
 unfold row? at h ⊢
 by_cases hi:i=id
 ·subst hi
  rw [List.getElem?_set_self (row_lt h0)]
  exact ⟨r',rfl⟩
 rw [List.getElem?_set_ne (Ne.symm hi)]
 exact ⟨r,h⟩
theorem lv_set {m:Rows} {id:Nat} {R r':Row} (h0:row? m id=some R) {v:V} (h:v.lv m):v.lv (m.set id (some r')):=fun i hi=>by
 obtain ⟨r,hr⟩:=h i hi
 exact row_set_old h0 r' hr
theorem keeps_len {m m':Rows} (h:keeps m m' = true):m.length≤m'.length:=of_decide_eq_true (Bool.and_eq_true _ _▸h).1
theorem keeps_at {m m':Rows} (h:keeps m m' = true) {i:Nat} {r:Row} (hr:row? m i=some r):∃ r',row? m' i=some r' ∧ r'.own=r.own:=by
 have:=List.all_eq_true.1 (Bool.and_eq_true _ _▸h).2 i (List.mem_range.2 (row_lt hr))
 rw [hr] at this
 simp only [Option.map_some,beq_iff_eq] at this
 cases hm:row? m' i with
 | none=>rw [hm] at this; cases this
 | some r' =>
   rw [hm] at this
   simp only [Option.map_some,Option.some.injEq] at this
   exact ⟨r',rfl,this.symm⟩
theorem keeps_back {m m':Rows} (h:keeps m m' = true) {i:Nat} {r':Row} (hi:i < m.length) (hr:row? m' i=some r'):∃ r,row? m i=some r∧r'.own=r.own:=by
 have:=List.all_eq_true.1 (Bool.and_eq_true _ _▸h).2 i (List.mem_range.2 hi)
 rw [hr] at this
 simp only [Option.map_some,beq_iff_eq] at this
 cases hm:row? m i with
 | none=>rw [hm] at this; cases this
 | some r =>
   rw [hm] at this
   simp only [Option.map_some,Option.some.injEq] at this
   exact ⟨r,rfl,this.symm⟩
theorem eff_all_sound {A:Nat→Prop} {m':Rows} {v:V} {ρ:Operand→Value} (h:eff0 P s o ans=some (.all m' v,obs)) (ho:Holds P obs) (hι:∀ x∈o.op.operands,(s.at x).is β A w (ρ x)) :
 (∃ f args vals,FSpec P f args s.m v m' ∧ isL β A w args vals∧(execOp ρ o).run P w = .ok (.enter f vals.toArray) w)∧keeps s.m m' = true∧v.lv m':=by
 have hρ:∀ x∈o.op.operands,(s.at x).known=true→ρ x=(s.at x).up β:=fun x hx=>(hι x hx).1
 unfold eff0 at h
 split at h
 case h_13 c hop =>
  split at h
  ·rename_i f hc
   split at h
   ·rename_i g first captured hf
    split at h
    ·rename_i hcal
     split at h
     ·split at h
      ·cases h
      cases h
     ·split at h
      ·cases h
      cases h
     ·split at h
      ·cases h
      cases h
     ·split at h
      ·cases h
      cases h
     ·rename_i r mm
      split at h
      ·rename_i hcc
       cases h
       obtain ⟨rfl,rfl,hks,hth⟩:=hcc
       refine ⟨⟨g,c.args.toList.map s.at,c.args.toList.map ρ,ho.1,f2_map fun x hx=>hι x (by rw [hop]; simp [Op.operands,Call.operands]; exact .inr (Array.mem_toList_iff.1 hx)),?_⟩,hks,fun id hid=>?_⟩
       ·have hf1 : ρ f = .func (.func g) #[] #[] := by
         rw [hρ f (by rw [hop]; simp [Op.operands,Call.operands,hc]) (by rw [hf]; rfl),hf]; rfl
        exact enter_run hop hc hf1 hcal (by apply Array.ext'; simp)
       unfold V.there at hth
       rw [hid] at hth
       exact Option.isSome_iff_exists.1 hth
      cases h
     cases h
    obtain ⟨v,hv,_⟩:=effPure_sound (β:=β) h ho; cases hv
   ·split at h
    ·split at h
     ·cases h
     cases h
    cases h
   cases h
  ·split at h
   all_goals first
    | (cases h; done)
    | (obtain ⟨v,hv,_⟩:=effPure_sound (β:=β) h ho; cases hv)
  ·split at h
   ·obtain ⟨_,_,_,hv⟩:=appE_app h; cases hv
   obtain ⟨v,hv,_⟩:=effPure_sound (β:=β) h ho; cases hv
  obtain ⟨v,hv,_⟩:=effPure_sound (β:=β) h ho; cases hv
 all_goals exfalso
 all_goals (repeat' (split at h))
 all_goals first
  | (obtain ⟨v,hv,_⟩:=effPure_sound (β:=β) h ho; cases hv; done)
  | (obtain ⟨_,_,_,hv⟩:=appE_app h; cases hv; done)
  | (simp at h; done)
  | (cases h; done)
end
def ren (pl:List Nat) (n N:Nat):V→V
 | .any=>.any
 | .c v=>.c v
 | .p id off=>.p (if id < n then pl.getD id 0 else N+(id - n)) off
 | .sl id off len cap=>.sl (if id < n then pl.getD id 0 else N+(id - n)) off len cap
 | .sd id len sz=>.sd (if id < n then pl.getD id 0 else N+(id - n)) len sz
 | .ts id off len cap w=>.ts (if id < n then pl.getD id 0 else N+(id - n)) off len cap w
 | .td id len sz w=>.td (if id < n then pl.getD id 0 else N+(id - n)) len sz w
 | .fn g id off=>.fn g (if id < n then pl.getD id 0 else N+(id - n)) off
 | .gr id len sz=>.gr (if id < n then pl.getD id 0 else N+(id - n)) len sz
 | v=>v
def others (pl:List Nat) (n:Nat):List Nat:=(List.range n).filter fun i=>!pl.contains i
def okE (pl:List Nat) (n:Nat) (m m':Rows) (args:List V):Bool :=
 decide pl.Nodup&&pl.all (fun i=>decide (i < n))&&keeps m m' && (m'.drop m.length).all (fun r=>match r with | some r=>r.own | none=>true)&&args.all (fun v=>v.there m)
theorem is_ren {β β1:Env} {A:Nat→Prop} {w:World} {u:Value} {pl:List Nat} {n N:Nat} {v:V} (h:∀ id,v.id? = some id→β (if id < n then pl.getD id 0 else N+(id - n))=β1 id) (hi:v.is β1 A w u):(ren pl n N v).is β A w u:=by
 cases v with
 | any=>exact hi
 | c v=>exact hi
 | p id off=>exact ⟨fun _=>by rw [hi.1 rfl]; simp only [ren,V.up,h id rfl],trivial⟩
 | sl id off len cap=>exact ⟨fun _=>by rw [hi.1 rfl]; simp only [ren,V.up,h id rfl],trivial⟩
 | sd id len sz=>exact ⟨fun _=>by rw [hi.1 rfl]; simp only [ren,V.up,h id rfl],trivial⟩
 | ts id off len cap w=>exact ⟨fun _=>by rw [hi.1 rfl]; simp only [ren,V.up,h id rfl],trivial⟩
 | td id len sz w=>exact ⟨fun _=>by rw [hi.1 rfl]; simp only [ren,V.up,h id rfl],trivial⟩
 | fn g id off=>exact ⟨fun _=>by rw [hi.1 rfl]; simp only [ren,V.up,h id rfl],trivial⟩
 | gr id len sz=>exact ⟨fun hn=>(by cases hn),by simp only [ren,V.dis,h id rfl]; exact hi.2⟩
 | dv b l=>exact hi
 | e l=>exact hi
 | tu l=>exact hi
theorem row_at {m:Rows} {i:Nat}:row? m i=(m[i]?).bind fun x=>x:=rfl
theorem FSpec.embed {P:Program} {f:FuncId} {args:List V} {m m' M M':Rows} {r:V} (pl:List Nat) (h:FSpec P f args m r m')
 (he:(pl.map (row? M),pl.map (row? M'),M'.drop M.length,(others pl M.length).map (row? M'))=(m,m'.take m.length,m'.drop m.length,(others pl M.length).map (row? M)))
 (hb:okE pl M.length m m' args=true) (hf:Flat m) (hf':Flat m'):FSpec P f (args.map (ren pl m.length M.length)) M (ren pl m.length M.length r) M':=by
 intro w β A vals hlaid hapart hmem hargs
 simp only [Prod.mk.injEq] at he
 obtain ⟨e1,e2,e3,e4⟩:=he
 unfold okE at hb
 simp only [Bool.and_eq_true] at hb
 obtain ⟨⟨⟨⟨hnd,hlt⟩,hks⟩,hown⟩,hth⟩:=hb
 have hnd:pl.Nodup:=of_decide_eq_true hnd
 have hpl:pl.length=m.length:=by rw [← e1,List.length_map]
 have hml:=keeps_len hks
 have hg:∀ {j},j < m.length→pl[j]? = some (pl.getD j 0):=fun {j} hj=>by
  rw [List.getD_eq_getElem?_getD,List.getElem?_eq_getElem (by omega)]; rfl
 have hlt:∀ {j},j < m.length→pl.getD j 0 < M.length:=fun {j} hj=>of_decide_eq_true (List.all_eq_true.1 hlt _ (List.mem_of_getElem? (hg hj)))
 have hrow:∀ {j},j < m.length→row? m j=row? M (pl.getD j 0):=fun {j} hj=>by
  have:m[j]? = some (row? M (pl.getD j 0)):=by
   conv=>lhs; rw [← e1]
   rw [List.getElem?_map,hg hj]; rfl
  rw [row_at,this]; rfl
 have hrow':∀ {j},j < m.length→row? m' j=row? M' (pl.getD j 0):=fun {j} hj=>by
  have:(m'.take m.length)[j]? = some (row? M' (pl.getD j 0)):=by
   rw [← e2,List.getElem?_map,hg hj]; rfl
  rw [List.getElem?_take,if_pos hj] at this
  rw [row_at,this]; rfl
 have hnew:∀ k,row? m' (m.length+k)=row? M' (M.length+k):=fun k=>by
  have:=congrArg (fun l=>l[k]?) e3
  simp only [List.getElem?_drop] at this
  rw [row_at,row_at,this]
 have hoth:∀ {i},i < M.length→i ∉ pl→row? M' i=row? M i:=fun {i} hi hn=>by
  have hm:i∈others pl M.length:=List.mem_filter.2 ⟨List.mem_range.2 hi,by simpa using hn⟩
  exact List.map_inj_left.1 e4 i hm
 have hinj:∀ {i j},i < m.length→j < m.length→pl.getD i 0=pl.getD j 0→i=j:=fun {i j} hi hj hh=>by
  have h1:=hg hi
  have h2:=hg hj
  rw [hh] at h1
  obtain ⟨p1,q1⟩:=List.getElem?_eq_some_iff.1 h1
  obtain ⟨p2,q2⟩:=List.getElem?_eq_some_iff.1 h2
  exact (List.getElem_inj hnd).1 (q1.trans q2.symm)
 have hflat:=flat_at hf
 have hflat':=flat_at hf'
 have hown':∀ {j r},row? m j=some r→r.own=true→row? M (pl.getD j 0)=some r:=fun {j r} hr _=>(hrow (row_lt hr)).symm.trans hr
 have hin:Keep (alw A β M) (alw (alw A β M) (fun i=>β (pl.getD i 0)) m) w w:=⟨Nat.le_refl _,fun b _ hb=>⟨⟨hb,fun id r hr ho=>hb.2 _ r (hown' hr ho) ho⟩,rfl⟩⟩
 have hmemc:Mem (fun i=>β (pl.getD i 0)) (alw A β M) m w:=by
  refine ⟨fun id r hr=>?_,fun i j ri rj hi hj ho hz hij=>?_,fun id r hr v hv=>lv_noid (hflat id r hr v hv)⟩
  ·exact (hmem.blk _ r ((hrow (row_lt hr)).symm.trans hr)).keep (Nat.le_refl _) (fun _=>rfl) hin fun v hv id' hid=>by rw [hflat id r hr v hv] at hid; cases hid
  have h1:=row_lt hi
  have h2:=row_lt hj
  rw [hrow h1] at hi
  rw [hrow h2] at hj
  exact hinj h1 h2 (hmem.inj _ _ ri rj hi hj ho hz hij)
 have hargs':isL (fun i=>β (pl.getD i 0)) (alw (alw A β M) (fun i=>β (pl.getD i 0)) m) w args vals:=by
  have key:∀ {l:List V} {us:List Value},l.all (fun v=>v.there m)=true→isL β (alw A β M) w (l.map (ren pl m.length M.length)) us→isL (fun i=>β (pl.getD i 0)) (alw (alw A β M) (fun i=>β (pl.getD i 0)) m) w l us:=by
   intro l
   induction l with
   | nil=>intro us _ h; cases us with
     | nil=>trivial
     | cons _ _=>exact h.elim
   | cons v l ih =>
     intro us ht h
     rw [List.all_cons,Bool.and_eq_true] at ht
     cases us with
     | nil=>exact h.elim
     | cons x us =>
       refine ⟨?_,ih ht.2 h.2⟩
       have hv:∀ id,v.id? = some id→id < m.length:=fun id hid=>by
        have:=ht.1
        unfold V.there at this
        rw [hid] at this
        obtain ⟨rr,hrr⟩:=Option.isSome_iff_exists.1 this
        exact row_lt hrr
       have h1:=h.1
       cases v with
       | any=>exact is_any
       | c v=>exact ⟨h1.1,trivial⟩
       | p id off=>refine ⟨fun _=>?_,trivial⟩; rw [h1.1 rfl]; simp only [ren,V.up,if_pos (hv id rfl)]
       | sl id off len cap=>refine ⟨fun _=>?_,trivial⟩; rw [h1.1 rfl]; simp only [ren,V.up,if_pos (hv id rfl)]
       | sd id len sz=>refine ⟨fun _=>?_,trivial⟩; rw [h1.1 rfl]; simp only [ren,V.up,if_pos (hv id rfl)]
       | ts id off len cap w=>refine ⟨fun _=>?_,trivial⟩; rw [h1.1 rfl]; simp only [ren,V.up,if_pos (hv id rfl)]
       | td id len sz w=>refine ⟨fun _=>?_,trivial⟩; rw [h1.1 rfl]; simp only [ren,V.up,if_pos (hv id rfl)]
       | fn g id off=>refine ⟨fun _=>?_,trivial⟩; rw [h1.1 rfl]; simp only [ren,V.up,if_pos (hv id rfl)]
       | gr id len sz=>refine ⟨fun hn=>(by cases hn),?_⟩; have:=h1.2; simp only [ren,V.dis,if_pos (hv id rfl)] at this; exact this
       | dv b l=>exact ⟨h1.1,h1.2.keep hin fun _ hid=>(by cases hid)⟩
       | e l=>exact ⟨h1.1,h1.2.keep hin fun _ hid=>(by cases hid)⟩
       | tu l=>exact ⟨h1.1,h1.2.keep hin fun _ hid=>(by cases hid)⟩
  exact key hth hargs
 have h1:=h w (fun i=>β (pl.getD i 0)) (alw A β M) vals hlaid (fun i ri hi ho=>by
  rw [hrow (row_lt hi)] at hi
  exact hapart _ ri hi ho) hmemc hargs'
 refine h1.mono fun e w' hw=>?_
 obtain ⟨β1,u,hb1,hfresh,rfl,hu,hm1,hfr,hro⟩:=hw
 have horig:∀ i ri,row? M' i=some ri→(∃ j,j < m.length∧i=pl.getD j 0∧row? m' j=some ri∧i < M.length)∨(i < M.length∧i ∉ pl∧row? M i=some ri)∨(M.length≤i∧row? m' (m.length+(i - M.length))=some ri):=by
  intro i ri hi
  by_cases hl:i < M.length
  ·by_cases hp:i∈pl
   ·obtain ⟨j,hj,hji⟩:=List.getElem_of_mem hp
    have hj':j < m.length:=by omega
    have hji':pl.getD j 0=i:=by rw [List.getD_eq_getElem?_getD,List.getElem?_eq_getElem hj]; exact hji
    exact .inl ⟨j,hj',hji'.symm,by rw [hrow' hj',hji']; exact hi,hl⟩
   exact .inr (.inl ⟨hl,hp,(hoth hl hp).symm.trans hi⟩)
  refine .inr (.inr ⟨by omega,?_⟩)
  rw [hnew,show M.length+(i - M.length)=i by omega]
  exact hi
 have hbB:∀ i ri,i < M.length→i ∉ pl→row? M i=some ri→(ri.own=true∨ri.cells≠[])→w'.heap[(β i).1]? = w.heap[(β i).1]?:=by
  intro i ri hl hp hi hz
  refine hfr.block _ (hmem.blk i ri hi).1 ?_
  rintro ⟨j,rj,hj,ho,hk⟩
  have hjl:=row_lt hj
  rw [hrow hjl] at hj
  have:=hmem.inj _ _ rj ri hj hi ho hz hk.symm
  exact hp (this▸List.mem_of_getElem? (hg hjl))
 have hback:∀ {j rj},j < m.length→row? m' j=some rj → ∃ r0,row? M (pl.getD j 0)=some r0∧rj.own=r0.own:=fun {j rj} hj hr=>by
  obtain ⟨r0,h0,ho⟩:=keeps_back hks hj hr
  exact ⟨r0,(hrow hj).symm.trans h0,ho⟩
 have hnown:∀ {i ri},M.length≤i→row? m' (m.length+(i - M.length))=some ri→ri.own=true:=fun {i ri} hi hr=>by
  have hd:(m'.drop m.length)[i - M.length]? = some (some ri):=by
   rw [List.getElem?_drop]
   unfold row? at hr
   cases hx:m'[m.length+(i - M.length)]? with
   | none=>rw [hx] at hr; cases hr
   | some x=>rw [hx] at hr; simp only [Option.bind_some] at hr; rw [hr]
  exact List.all_eq_true.1 hown _ (List.mem_of_getElem? hd)
 obtain ⟨β2,hlo,hhi⟩:∃ β2:Env,(∀ i,i < M.length→β2 i=β i) ∧ ∀ i,M.length≤i→β2 i=β1 (m.length+(i - M.length)) :=
  ⟨fun i=>if i < M.length then β i else β1 (m.length+(i - M.length)),fun i hi=>if_pos hi,fun i hi=>if_neg (by omega)⟩
 have hk1:Keep (alw (more (alw A β M) (fun i=>β (pl.getD i 0)) m w) β1 m') (alw (more A β M w) β2 M') w' w':=by
  refine ⟨Nat.le_refl _,fun b _ hb=>⟨⟨?_,fun i ri hi ho=>?_⟩,rfl⟩⟩
  ·rcases hb.1 with h | ⟨j,rj,hj,ho,he⟩ | h
   ·exact .inl h.1
   ·exact .inr (.inl ⟨_,rj,hown' hj ho,ho,he⟩)
   exact .inr (.inr h)
  rcases horig i ri hi with ⟨j,hj,rfl,hr,hl⟩ | ⟨hl,hp,hr⟩ | ⟨hl,hr⟩
  ·rw [hlo _ hl]
   have:=hb.2 j ri hr ho
   rwa [hb1 j hj] at this
  ·rw [hlo _ hl]
   intro he
   rcases hb.1 with h | ⟨j,rj,hj,hoj,hej⟩ | h
   ·exact h.2 i ri hr ho he
   ·have:=hmem.inj i _ ri rj hr (hown' hj hoj) ho (.inl hoj) (he.trans hej)
    exact hp (this▸List.mem_of_getElem? (hg (row_lt hj)))
   have:=(hmem.blk i ri hr).1
   omega
  rw [hhi _ hl]
  exact hb.2 _ ri hr ho
 have hk2:Keep (alw A β M) (alw (more A β M w) β2 M') w w':=by
  refine ⟨hfr.size,fun b hbl hb=>⟨⟨.inl hb.1,fun i ri hi ho=>?_⟩,hfr.block b hbl fun ⟨j,rj,hj,hoj,he⟩=>hb.2 _ rj (hown' hj hoj) hoj he.symm⟩⟩
  rcases horig i ri hi with ⟨j,hj,rfl,hr,hl⟩ | ⟨hl,hp,hr⟩ | ⟨hl,hr⟩
  ·rw [hlo _ hl]
   obtain ⟨r0,h0,ho0⟩:=hback hj hr
   exact hb.2 _ r0 h0 (ho0▸ho)
  ·rw [hlo _ hl]
   exact hb.2 i ri hr ho
  rw [hhi _ hl]
  have:=hfresh _ ri (by omega) hr ho
  omega
 refine ⟨β2,u,hlo,?_,rfl,?_,?_,?_⟩
 ·intro i ri hi hr ho
  rw [hhi i hi]
  refine hfresh _ ri (by omega) ?_ ho
  rw [hnew,show M.length+(i - M.length)=i by omega]
  exact hr
 ·refine is_ren (β1:=β1) (fun id _=>?_) ⟨hu.1,hu.2.keep hk1 fun _ _=>rfl⟩
  by_cases hid:id < m.length
  ·simp only [if_pos hid]
   rw [hlo _ (hlt hid)]
   exact (hb1 id hid).symm
  simp only [if_neg hid]
  rw [hhi _ (by omega)]
  congr 1
  omega
 ·refine ⟨fun i ri hi=>?_,fun i j ri rj hi hj ho hz hij=>?_,fun i ri hi v hv=>?_⟩
  ·rcases horig i ri hi with ⟨j,hj,rfl,hr,hl⟩ | ⟨hl,hp,hr⟩ | ⟨hl,hr⟩
   ·rw [hlo _ hl]
    have:=hm1.blk j ri hr
    rw [hb1 j hj] at this
    exact this.keep (Nat.le_refl _) (fun _=>rfl) hk1 fun v hv id hid=>by rw [hflat' j ri hr v hv] at hid; cases hid
   ·rw [hlo _ hl]
    refine (hmem.blk i ri hr).keep hfr.size (hbB i ri hl hp hr) hk2 fun v hv id hid=>?_
    obtain ⟨rr,hrr⟩:=hmem.lv i ri hr v hv id hid
    exact hlo id (row_lt hrr)
   rw [hhi _ hl]
   exact (hm1.blk _ ri hr).keep (Nat.le_refl _) (fun _=>rfl) hk1 fun v hv id hid=>by rw [hflat' _ ri hr v hv] at hid; cases hid
  ·rcases horig i ri hi with ⟨a,ha,rfl,hri,hl⟩ | ⟨hl,hp,hri⟩ | ⟨hl,hri⟩<;>rcases horig j rj hj with ⟨b,hbl,rfl,hrj,hl2⟩ | ⟨hl2,hp2,hrj⟩ | ⟨hl2,hrj⟩
   ·rw [hlo _ hl,hlo _ hl2] at hij
    rw [hm1.inj a b ri rj hri hrj ho hz (by rw [hb1 a ha,hb1 b hbl]; exact hij)]
   ·rw [hlo _ hl,hlo _ hl2] at hij
    obtain ⟨r0,h0,ho0⟩:=hback ha hri
    exact hmem.inj _ _ r0 rj h0 hrj (ho0▸ho) hz hij
   ·rw [hlo _ hl,hhi _ hl2] at hij
    have:=hm1.inj a _ ri rj hri hrj ho hz (by rw [hb1 a ha]; exact hij)
    omega
   ·rw [hlo _ hl,hlo _ hl2] at hij
    obtain ⟨r0,h0,ho0⟩:=hback hbl hrj
    refine hmem.inj _ _ ri r0 hri h0 ho ?_ hij
    cases hro0:r0.own with
    | true=>exact .inl rfl
    | false =>
      have:=hro b r0 ((hrow hbl).trans h0) hro0
      rw [hrj] at this
      cases this
      rcases hz with hz | hz
      ·rw [hro0] at hz; cases hz
      exact .inr hz
   ·rw [hlo _ hl,hlo _ hl2] at hij
    exact hmem.inj _ _ ri rj hri hrj ho hz hij
   ·rw [hlo _ hl,hhi _ hl2] at hij
    have h2:=hfresh _ rj (by omega) hrj (hnown hl2 hrj)
    have h3:=(hmem.blk i ri hri).1
    omega
   ·rw [hhi _ hl,hlo _ hl2] at hij
    have:=hm1.inj _ b ri rj hri hrj ho hz (by rw [hb1 b hbl]; exact hij)
    omega
   ·rw [hhi _ hl,hlo _ hl2] at hij
    have h2:=hfresh _ ri (by omega) hri ho
    have h3:=(hmem.blk j rj hrj).1
    omega
   rw [hhi _ hl,hhi _ hl2] at hij
   have:=hm1.inj _ _ ri rj hri hrj ho hz hij
   omega
  rcases horig i ri hi with ⟨j,hj,rfl,hr,hl⟩ | ⟨hl,hp,hr⟩ | ⟨hl,hr⟩
  ·exact lv_noid (hflat' j ri hr v hv)
  ·have h1:=hmem.lv i ri hr v hv
   intro id hid
   obtain ⟨rr,hrr⟩:=h1 id hid
   by_cases hp:id∈pl
   ·obtain ⟨j,hj,hji⟩:=List.getElem_of_mem hp
    have hj':j < m.length:=by omega
    have hji':pl.getD j 0=id:=by rw [List.getD_eq_getElem?_getD,List.getElem?_eq_getElem hj]; exact hji
    have hmj:row? m j=some rr:=by rw [hrow hj',hji']; exact hrr
    obtain ⟨r2,hr2,_⟩:=keeps_at hks hmj
    exact ⟨r2,by rw [← hji',← hrow' hj']; exact hr2⟩
   exact ⟨rr,(hoth (row_lt hrr) hp).trans hrr⟩
  exact lv_noid (hflat' _ ri hr v hv)
 refine ⟨⟨hfr.os,hfr.tape,hfr.output,hfr.size,fun k hk hn=>hfr.block k hk ?_⟩,fun i r hi ho=>?_⟩
 ·rintro ⟨j,rj,hj,ho,he⟩
  have hjl:=row_lt hj
  rw [hrow hjl] at hj
  exact hn ⟨_,rj,hj,ho,he⟩
 by_cases hp:i∈pl
 ·obtain ⟨j,hj,hji⟩:=List.getElem_of_mem hp
  have hj':j < m.length:=by omega
  have hji':pl.getD j 0=i:=by rw [List.getD_eq_getElem?_getD,List.getElem?_eq_getElem hj]; exact hji
  have:=hro j r (by rw [hrow hj',hji']; exact hi) ho
  rw [hrow' hj',hji'] at this
  exact this
 exact (hoth (row_lt hi) hp).trans hi
def unren (pl:List Nat):V→V
 | .any=>.any
 | .c v=>.c v
 | .p id off=>.p ((idx id pl 0).getD 0) off
 | .sl id off len cap=>.sl ((idx id pl 0).getD 0) off len cap
 | .sd id len sz=>.sd ((idx id pl 0).getD 0) len sz
 | .ts id off len cap w=>.ts ((idx id pl 0).getD 0) off len cap w
 | .td id len sz w=>.td ((idx id pl 0).getD 0) len sz w
 | .fn g id off=>.fn g ((idx id pl 0).getD 0) off
 | .gr id len sz=>.gr ((idx id pl 0).getD 0) len sz
 | v=>v
def place (pl:List Nat) (M m1:Rows):Rows :=
 (List.range M.length).map (fun i=>match idx i pl 0 with
  | some j=>row? m1 j
  | none=>row? M i)++m1.drop pl.length
theorem idx_at {l:List Nat} (hn:l.Nodup) {j:Nat} (hj:j < l.length):idx l[j] l 0=some j:=by
 cases h:idx l[j] l 0 with
 | none=>exact (idx_none h (List.getElem_mem hj)).elim
 | some i =>
   obtain ⟨_,h2⟩:=idx_some h
   obtain ⟨p,q⟩:=List.getElem?_eq_some_iff.1 h2
   have:i - 0=j:=(List.getElem_inj hn).1 q
   congr 1
theorem ren_unren {pl:List Nat} {v:V} {N:Nat} (h:∀ id,v.id? = some id→id∈pl):ren pl pl.length N (unren pl v)=v:=by
 have key:∀ id,v.id? = some id→(if (idx id pl 0).getD 0 < pl.length then pl.getD ((idx id pl 0).getD 0) 0 else N+((idx id pl 0).getD 0 - pl.length))=id:=by
  intro id hid
  cases hi:idx id pl 0 with
  | none=>exact (idx_none hi (h id hid)).elim
  | some j =>
    obtain ⟨_,h2⟩:=idx_some hi
    obtain ⟨p,q⟩:=List.getElem?_eq_some_iff.1 h2
    have hj:j - 0=j:=Nat.sub_zero j
    simp only [hj] at p q
    simp only [Option.getD_some,if_pos p]
    rw [List.getD_eq_getElem?_getD,List.getElem?_eq_getElem p]
    exact q
 cases v with
 | any=>rfl
 | c v=>rfl
 | p id off=>simp only [unren,ren,key id rfl]
 | sl id off len cap=>simp only [unren,ren,key id rfl]
 | sd id len sz=>simp only [unren,ren,key id rfl]
 | ts id off len cap w=>simp only [unren,ren,key id rfl]
 | td id len sz w=>simp only [unren,ren,key id rfl]
 | fn g id off=>simp only [unren,ren,key id rfl]
 | gr id len sz=>simp only [unren,ren,key id rfl]
 | _=>rfl
def okS (chk:Bool) (pl:List Nat) (M m0 m1:Rows) (args a0:List V):Bool :=
 okE pl M.length m0 m1 a0&&args.all (fun v=>match v.id? with
  | some id=>pl.contains id
  | none=>true)&&(!chk||(flatB m0&&flatB m1))
theorem okS_spec {P:Program} {f:FuncId} {args:List V} {M m1:Rows} {r:V} {pl:List Nat} {chk:Bool} (h:FSpec P f (args.map (unren pl)) (pl.map (row? M)) r m1) (hf:chk=true∨(Flat (pl.map (row? M))∧Flat m1))
 (hk:okS chk pl M (pl.map (row? M)) m1 args (args.map (unren pl))=true):FSpec P f args M (ren pl pl.length M.length r) (place pl M m1):=by
 unfold okS at hk
 rw [Bool.and_eq_true,Bool.and_eq_true] at hk
 obtain ⟨⟨hE,hids⟩,hc⟩:=hk
 have hflat:Flat (pl.map (row? M))∧Flat m1:=by
  rcases hf with rfl | hf
  ·simp only [Bool.not_true,Bool.false_or,Bool.and_eq_true] at hc
   exact ⟨flatB_flat hc.1,flatB_flat hc.2⟩
  exact hf
 have hE':=hE
 unfold okE at hE'
 simp only [Bool.and_eq_true] at hE'
 obtain ⟨⟨⟨⟨hnd,hlt⟩,hks⟩,_⟩,_⟩:=hE'
 have hnd:pl.Nodup:=of_decide_eq_true hnd
 have hkl:=keeps_len hks
 rw [List.length_map] at hkl
 have hlt:∀ {j},(hj:j < pl.length)→pl[j] < M.length:=fun {j} hj=>of_decide_eq_true (List.all_eq_true.1 hlt _ (List.getElem_mem hj))
 have pl_len:(List.range M.length |>.map (fun i=>match idx i pl 0 with
  | some j=>row? m1 j
  | none=>row? M i)).length=M.length:=by simp
 have rowlt:∀ i,i < M.length→row? (place pl M m1) i=(match idx i pl 0 with
  | some j=>row? m1 j
  | none=>row? M i):=by
  intro i hi
  unfold place
  show ((_++_)[i]?).bind _=_
  rw [List.getElem?_append_left (by rw [pl_len]; exact hi)]
  simp only [List.getElem?_map,List.getElem?_range hi,Option.map_some,Option.bind_some]
 have e1:pl.map (row? (place pl M m1))=m1.take (pl.map (row? M)).length:=by
  apply List.ext_getElem?
  intro j
  rw [List.getElem?_map,List.length_map,List.getElem?_take]
  by_cases hj:j < pl.length
  ·rw [if_pos hj,List.getElem?_eq_getElem hj,Option.map_some,rowlt _ (hlt hj),idx_at hnd hj,List.getElem?_eq_getElem (by omega)]
   simp only [row?]
   rw [List.getElem?_eq_getElem (by omega)]
   rfl
  rw [if_neg hj,List.getElem?_eq_none (by omega)]
  rfl
 have e2:(place pl M m1).drop M.length=m1.drop (pl.map (row? M)).length:=by
  unfold place
  rw [List.length_map]
  have:=List.drop_left' (l₂:=m1.drop pl.length) pl_len
  exact this
 have e3:(others pl M.length).map (row? (place pl M m1))=(others pl M.length).map (row? M):=by
  apply List.map_congr_left
  intro i hi
  obtain ⟨h1,h2⟩:=List.mem_filter.1 hi
  have h1:=List.mem_range.1 h1
  rw [rowlt i h1]
  cases hx:idx i pl 0 with
  | none=>rfl
  | some j =>
    obtain ⟨_,hq⟩:=idx_some hx
    have:=List.mem_of_getElem? hq
    simp [this] at h2
 have hemb:=FSpec.embed (M:=M) (M':=place pl M m1) pl h (by rw [e1,e2,e3]) (by exact hE) hflat.1 hflat.2
 have hargs:(args.map (unren pl)).map (ren pl (pl.map (row? M)).length M.length)=args:=by
  rw [List.map_map,List.length_map]
  conv=>rhs; rw [← List.map_id args]
  refine List.map_congr_left fun v hv=>?_
  refine ren_unren fun id hid=>?_
  have:=List.all_eq_true.1 hids v hv
  rw [hid] at this
  simpa using this
 rw [hargs] at hemb
 rw [List.length_map] at hemb
 exact hemb
def eff (P:Program) (s:St) (o:Oper) (a:Option Ans):Option (Eff × List Ob) :=
 match a with
 | some (.is v)=>match eff0 P s o none with
   | some (.val v',obs)=>some (.val v,.prop (v' = v)::obs)
   | _=>none
 | some .eqs=>match eqSame P s o with
   | some (b,p)=>some (.val (.c (.bool b)),[.prop p])
   | none=>none
 | some (.sub chk pl r mo)=>match eff0 P s o (some (.call (ren pl pl.length s.m.length r) (place pl s.m (mo.getD (pl.map (row? s.m)))))) with
   | some (.all mm v,[.fcall g args _ _ _]) =>
     match okS chk pl s.m (pl.map (row? s.m)) (mo.getD (pl.map (row? s.m))) args (args.map (unren pl)) with
     | true=>some (.all mm v,.fcall g (args.map (unren pl)) (pl.map (row? s.m)) r (mo.getD (pl.map (row? s.m)))::(match chk with
       | true=>[]
       | false=>[.prop (Flat (pl.map (row? s.m))∧Flat (mo.getD (pl.map (row? s.m))))]))
     | false=>none
   | _=>none
 | _=>eff0 P s o a
theorem effPure_all {P:Program} {s:St} {o:Oper} {a:Option Ans} {mm:Rows} {v:V} {obs:List Ob} (h:effPure P s o a=some (.all mm v,obs)):False:=by
 unfold effPure at h
 repeat' (split at h)
 all_goals first
  | (cases h; done)
  | (simp at h; done)
theorem eff0_call {P:Program} {s:St} {o:Oper} {r:V} {m' mm M M':Rows} {v r':V} {g:FuncId} {args:List V} (h:eff0 P s o (some (.call r m'))=some (.all mm v,[.fcall g args M r' M'])):M=s.m∧r' = r∧M' = m':=by
 unfold eff0 at h
 split at h
 case h_13 c hop =>
  split at h
  ·split at h
   ·split at h
    ·simp only at h
     split at h
     ·cases h
      exact ⟨rfl,rfl,rfl⟩
     cases h
    exact (effPure_all h).elim
   ·cases h
   cases h
  ·split at h
   all_goals first
    | (cases h; done)
    | (exact (effPure_all h).elim)
  ·exact (effPure_all h).elim
  exact (effPure_all h).elim
 all_goals exfalso
 all_goals first
  | (exact effPure_all h; done)
  | skip
 all_goals (repeat' (split at h))
 all_goals first
  | (exact effPure_all h; done)
  | (simp at h; done)
  | (cases h; done)
theorem eqSame_eff {P:Program} {s:St} {o:Oper} {b:Bool} {p:Prop} (h:eqSame P s o=some (b,p)) (hp:p):eff0 P s o none=some (.val (.c (.bool b)),[]):=by
 unfold eqSame at h
 split at h
 ·rename_i op t x y yt hop
  have h0:eff0 P s o none=effPure P s o none:=by unfold eff0; rw [hop]
  have ops:o.op.operands = #[x,y]:=by rw [hop]; rfl
  split at h
  ·rename_i xs ys hx hy
   split at h
   ·rename_i hc
    cases h
    cases hp
    obtain ⟨b,hb⟩:=Option.isSome_iff_exists.1 hc.2
    have hbt:=eqV_self _ _ _ _ hb
    subst hbt
    have he:eqAgg P s.rho o=some (.bool true):=by
     unfold eqAgg
     rw [hop]
     simp only [St.rho,hx,hy,V.val]
     rw [if_pos hc.1,hb]
     rfl
    rw [h0]
    unfold effPure
    rw [ops,hop]
    simp only [List.all_cons,hx,hy,V.isC,List.all_nil,Bool.and_self,if_true,he]
   cases h
  ·rename_i xs ys hx hy
   split at h
   ·rename_i hc
    cases h
    cases hp
    obtain ⟨b,hb⟩:=Option.isSome_iff_exists.1 hc.2
    have hbt:=eqV_self _ _ _ _ hb
    subst hbt
    have he:eqAgg P s.rho o=some (.bool false):=by
     unfold eqAgg
     rw [hop]
     simp only [St.rho,hx,hy,V.val]
     rw [if_pos hc.1,hb]
     rfl
    rw [h0]
    unfold effPure
    rw [ops,hop]
    simp only [List.all_cons,hx,hy,V.isC,List.all_nil,Bool.and_self,if_true,he]
   cases h
  cases h
 cases h
theorem eff_cases {P:Program} {s:St} {o:Oper} {a:Option Ans} {e:Eff} {obs:List Ob} (h:eff P s o a=some (e,obs)) (ho:Holds P obs):∃ a' obs',eff0 P s o a' = some (e,obs')∧Holds P obs':=by
 unfold eff at h
 split at h
 ·split at h
  ·rename_i v' obs' he
   cases h
   have hv:v' = _:=ho.1
   subst hv
   exact ⟨none,obs',he,ho.2⟩
  cases h
 ·split at h
  ·rename_i b p he
   cases h
   exact ⟨none,[],eqSame_eff he ho.1,trivial⟩
  cases h
 ·split at h
  ·rename_i g args x1 x2 x3 he
   split at h
   ·rename_i hk
    simp only [Option.some.injEq,Prod.mk.injEq] at h
    obtain ⟨rfl,rfl⟩:=h
    refine ⟨_,_,he,?_⟩
    obtain ⟨e1,e2,e3⟩:=eff0_call he
    subst e1 e2 e3
    refine ⟨okS_spec ho.1 ?_ hk,trivial⟩
    rename_i chk _ _ _ _ _ _ _
    cases chk with
    | true=>exact .inl rfl
    | false=>exact .inr ho.2.1
   cases h
  cases h
 exact ⟨_,obs,h,ho⟩
section
variable {P:Program} {C:Cx} {β:Env} {s:St} {o:Oper} {ans:Option Ans} {e:Eff} {obs:List Ob} {w w0:World} {a:Act} {K:Act→World→Prop} {Q:Exit→Act→World→Prop}
theorem splice_end:∀ (news cells tail:List V),tail.length=news.length→splice (cells++tail) cells.length news=cells++news
 | [],cells,tail,h=>by
   have:tail=[]:=List.eq_nil_of_length_eq_zero (by simpa using h)
   simp [splice,this]
 | v::r,cells,[],h=>by simp at h
 | v::r,cells,u::tail,h=>by
   have h1:=splice_end r (cells++[v]) tail (by simpa using h)
   have h2:(cells++u::tail).set cells.length v=(cells++[v])++tail:=by
    rw [List.set_append_right _ _ (Nat.le_refl _)]
    simp
   simp only [splice,h2]
   rw [show cells.length+1=(cells++[v]).length by simp,h1]
   simp
theorem run_app_room {I:V→Value→Prop} (hI:∀ v u,one v=true→I v u→(∀ c,u ≠ .agg c)∧(∀ c,u ≠ .tuple c)) (hIc:∀ u,I (.c u) u) {x:Loc} {cells news:List V} {us:List Value} {n m cc:Nat} {i:TypeInfo} {t ty e:TypeId} {ad:Addr} (ht:P.underlying t=some (.slice e)) (hi:P.info? e=some i) (hb:Win I w x cells)
 (hlen:cells.length=n*i.size) (hone:news.all one=true) (hnl:news.length=m*i.size) (hf:F2 I news us) (hnews:∀ j v,us[j]? = some v→w.cell? (ad.add j)=some v) (hroom:n+m≤x.3/i.size) :
 ∃ w',(Builtin.append_ #[t,t] ty #[.slice (some ⟨x.1,x.2,none⟩) n (x.3/i.size),.slice (some ad) m cc]).run P w = .ok (.slice (some ⟨x.1,x.2,none⟩) (n+m) (x.3/i.size)) w' ∧ Win I w' x (cells++news)∧Only x.1 w w':=by
 obtain ⟨arr,e',he,hrm,hc⟩:=hb
 have hfit:(n+m)*i.size≤x.3:=Nat.le_trans (Nat.mul_le_mul_right _ hroom) (Nat.div_mul_le_self _ _)
 rw [Nat.add_mul] at hfit
 obtain ⟨tail,htl,hw⟩:∃ tail:List V,tail.length=news.length∧Win I w x (cells++tail):=by
  refine ⟨((arr.toList.drop (x.2+cells.length)).take news.length).map V.c,?_,arr,e',he,hrm,fun k v hk=>?_⟩
  ·simp only [List.length_map,List.length_take,List.length_drop,Array.length_toList]
   omega
  by_cases hkc:k < cells.length
  ·rw [List.getElem?_append_left hkc] at hk
   exact hc k v hk
  rw [List.getElem?_append_right (by omega),List.getElem?_map,Option.map_eq_some_iff] at hk
  obtain ⟨u,hu,rfl⟩:=hk
  rw [List.getElem?_take] at hu
  split at hu
  ·rw [List.getElem?_drop,Array.getElem?_toList] at hu
   rw [show x.2+k=x.2+cells.length+(k - cells.length) by omega]
   exact ⟨u,hu,hIc u⟩
  cases hu
 obtain ⟨w',hr,hb',hon⟩:=run_storeCells (P:=P) hI (off:=n*i.size) news us 0 w (cells++tail) hw hf hone (by simp [htl,hlen])
 refine ⟨w',?_,?_,hon⟩
 ·have hf:=run_firstCells_some (P:=P) w i.size m ad m cc us (by rw [(f2_get hf).1]; exact hnl) hnews
  simp [Builtin.append_,run_underlying ht,sizeOf,typeInfo,hi,Builtin.lenOf,hroom,hf,Addr.add_lit,hr]
 rw [Nat.add_zero,← hlen,splice_end news cells tail htl] at hb'
 exact hb'
theorem new_win {I:V→Value→Prop} {cells:List V} {us:List Value} {arr:Array Value} {room:Nat} {e:TypeId} {more:Array Value} (hf:F2 I cells us) (ha:arr=us.toArray++more) (hs:room≤arr.size) :
 Win I (w.drew.alloc (.cells arr e)) ⟨w.heap.size,0,room⟩ cells∧Fr (fun _=>False) w (w.drew.alloc (.cells arr e)):=by
 refine ⟨⟨arr,e,heap_alloc_new w.drew _,by simpa using hs,fun k v hk=>?_⟩,⟨rfl,rfl,rfl,by simp,fun k hk _=>heap_alloc_old w.drew _ k hk⟩⟩
 obtain ⟨u,hu,hi⟩:=(f2_get hf).2 k v hk
 have hl:=(List.getElem?_eq_some_iff.1 hu).1
 subst ha
 refine ⟨u,?_,hi⟩
 rw [Nat.zero_add,Array.getElem?_append_left (by simpa using hl)]
 simp [hu]
theorem run_app_new {I:V→Value→Prop} {olds news:List V} {os us:List Value} {n m cc cap:Nat} {i:TypeInfo} {z:Value} {t ty e:TypeId} {b ad:Addr} (ht:P.underlying t=some (.slice e)) (hi:P.info? e=some i) (hz:i.zero=some z) (hzs:z.cells.size=i.size) (hs:0 < i.size)
 (hol:olds.length=n*i.size) (hfo:F2 I olds os) (holds:∀ j v,os[j]? = some v→w.cell? (b.add j)=some v) (hnl:news.length=m*i.size) (hf:F2 I news us) (hnews:∀ j v,us[j]? = some v→w.cell? (ad.add j)=some v)
 (hg:cap < n+m) (h63:n+m≤9223372036854775807) (hb:(n+m)*i.bytes≤140737488355328) :
 ∃ room w',n+m≤room/i.size∧(Builtin.append_ #[t,t] ty #[.slice (some b) n cap,.slice (some ad) m cc]).run P w = .ok (.slice (some ⟨w.heap.size,0,none⟩) (n+m) (room/i.size)) w' ∧ Win I w' ⟨w.heap.size,0,room⟩ (olds++news)∧Fr (fun _=>False) w w':=by
 have hr:=run_append_grow (P:=P) w t ty e i z ht hi hz b n cap os (by rw [(f2_get hfo).1]; exact hol) holds ad m cc us (by rw [(f2_get hf).1]; exact hnl) hnews hg (by omega) (growslice_fits hg hb)
 have hge:=grownCap_ge w (n+m) cap e
 refine ⟨grownCap w (n+m) cap e*i.size,_,(by rw [Nat.mul_div_cancel _ hs]; omega),by rw [Nat.mul_div_cancel _ hs]; exact hr,new_win (us:=os++us) (more:=Builtin.zeroCells z.cells (grownCap w (n+m) cap e - (n+m))) (f2_append hfo hf) (by simp) ?_⟩
 simp only [Array.size_append,List.size_toArray,size_zeroCells,hzs,(f2_get hfo).1,(f2_get hf).1,hol,hnl,← Nat.add_mul]
 exact Nat.mul_le_mul_right _ (by omega)
theorem run_app_nil {I:V→Value→Prop} {news:List V} {us:List Value} {m cc:Nat} {i:TypeInfo} {z:Value} {t ty e:TypeId} {ad:Addr} (ht:P.underlying t=some (.slice e)) (hi:P.info? e=some i) (hz:i.zero=some z) (hzs:z.cells.size=i.size) (hs:0 < i.size)
 (hnl:news.length=m*i.size) (hf:F2 I news us) (hnews:∀ j v,us[j]? = some v→w.cell? (ad.add j)=some v) (h0:0 < m) (h63:m≤9223372036854775807) (hb:m*i.bytes≤140737488355328) :
 ∃ room w',m≤room/i.size∧(Builtin.append_ #[t,t] ty #[.slice none 0 0,.slice (some ad) m cc]).run P w = .ok (.slice (some ⟨w.heap.size,0,none⟩) m (room/i.size)) w' ∧ Win I w' ⟨w.heap.size,0,room⟩ news∧Fr (fun _=>False) w w':=by
 have hr:=run_append_nil (P:=P) w t ty e i z ht hi hz ad m cc us (by rw [(f2_get hf).1]; exact hnl) hnews h0 (by omega) (by omega)
 have hge:=grownCap_ge w m 0 e
 refine ⟨grownCap w m 0 e*i.size,_,(by rw [Nat.mul_div_cancel _ hs]; omega),by rw [Nat.mul_div_cancel _ hs]; exact hr,new_win (more:=Builtin.zeroCells z.cells (grownCap w m 0 e - m)) hf rfl ?_⟩
 simp only [Array.size_append,List.size_toArray,size_zeroCells,hzs,(f2_get hf).1,hnl,← Nat.add_mul]
 exact Nat.mul_le_mul_right _ (by omega)
theorem win_at {l:List V} {off n k:Nat} {v:V} (h:(win l off n)[k]? = some v):l[off+k]? = some v:=by
 unfold win at h
 rw [List.getElem?_take] at h
 split at h
 ·rw [List.getElem?_drop] at h; exact h
 cases h
theorem pick_win {A:Nat→Prop} {l:List V} {b o off n:Nat} (hb:∀ k v,l[k]? = some v → ∃ u,w.cell? ⟨b,o+k,none⟩=some u∧v.is β A w u):∃ us,isL β A w (win l off n) us ∧ ∀ k u,us[k]? = some u→w.cell? ((⟨b,o+off,none⟩:Addr).add k)=some u:=by
 obtain ⟨us,h1,h2⟩:=f2_pick (I:=V.is β A w) (g:=fun k=>w.cell? ((⟨b,o+off,none⟩:Addr).add k)) (win l off n) 0 fun k v hv=>by
  obtain ⟨u,hu,hi⟩:=hb _ v (win_at hv)
  refine ⟨u,?_,hi⟩
  rw [Nat.zero_add,add_at,Nat.add_assoc]
  exact hu
 exact ⟨us,h1,fun k u hk=>by have:=h2 k u hk; rwa [Nat.zero_add] at this⟩
theorem pick_elems {A:Nat→Prop} {n sz:Nat} {f:Nat→Nat→D} {a:Option Addr} {b o:Nat} (ha:a=some ⟨b,o,none⟩)
 (hr:∀ i,i < n → ∀ k,k < sz → ∃ b o c,a=some ⟨b,o,none⟩∧A b∧b < w.heap.size∧w.cell? ⟨b,o+(i*sz+k),none⟩=some c∧(f i k).Rep A w c) :
 ∃ us,isL β A w (elems n sz f) us ∧ ∀ k u,us[k]? = some u→w.cell? ((⟨b,o,none⟩:Addr).add k)=some u:=by
 have row:∀ i,i < n → ∃ us,us.length=sz∧isL β A w ((List.range sz).map fun k=>mk1 (f i k)) us ∧ ∀ k u,us[k]? = some u→w.cell? ⟨b,o+(i*sz+k),none⟩=some u:=by
  intro i hi
  obtain ⟨us,h1,h2⟩:=f2_pick (I:=V.is β A w) (g:=fun k=>w.cell? ⟨b,o+(i*sz+k),none⟩) ((List.range sz).map fun k=>mk1 (f i k)) 0 fun k v hv=>by
   rw [List.getElem?_map,Option.map_eq_some_iff] at hv
   obtain ⟨k',hk',rfl⟩:=hv
   have hlt:=(List.getElem?_eq_some_iff.1 hk').1
   rw [List.length_range] at hlt
   rw [List.getElem?_range hlt] at hk'
   cases hk'
   obtain ⟨b2,o2,c,ha2,_,_,hcell,hrep⟩:=hr i hi k hlt
   rw [ha] at ha2
   cases ha2
   exact ⟨c,by rw [Nat.zero_add]; exact hcell,is_mk1 hrep⟩
  exact ⟨us,by simpa using (f2_get h1).1,h1,fun k u hk=>by have:=h2 k u hk; rwa [Nat.zero_add] at this⟩
 have all:∀ m,m≤n → ∃ us,us.length=m*sz∧isL β A w (elems m sz f) us ∧ ∀ k u,us[k]? = some u→w.cell? ⟨b,o+k,none⟩=some u:=by
  intro m
  induction m with
  | zero=>intro _; exact ⟨[],by simp,by simp [elems,F2],fun k u h=>by simp at h⟩
  | succ m ih =>
    intro hm
    obtain ⟨us,hl,h1,h2⟩:=ih (by omega)
    obtain ⟨xs,hl',h3,h4⟩:=row m (by omega)
    refine ⟨us++xs,by rw [List.length_append,hl,hl',Nat.succ_mul],?_,fun k u hk=>?_⟩
    ·have : elems (m + 1) sz f = elems m sz f ++ (List.range sz).map fun k => mk1 (f m k) := by
      unfold elems
      rw [List.range_succ,List.flatMap_append]
      simp
     rw [this]
     exact f2_append h1 h3
    by_cases hk2:k < us.length
    ·rw [List.getElem?_append_left hk2] at hk
     exact h2 k u hk
    rw [List.getElem?_append_right (by omega)] at hk
    have:=h4 _ u hk
    rwa [show m*sz+(k - us.length)=k by omega] at this
 obtain ⟨us,_,h1,h2⟩:=all n (Nat.le_refl _)
 exact ⟨us,h1,fun k u hk=>by rw [add_at]; exact h2 k u hk⟩
theorem eff_app_sound {A:Nat→Prop} {ρ:Operand→Value} {kill:Option Nat} {cells:List V} {rf:Nat→V} (h:eff0 P s o ans=some (.app kill cells rf,obs)) (ho:Holds P obs) (hι:∀ x∈o.op.operands,(s.at x).is β A w (ρ x))
 (hm:∀ id r,row? s.m id=some r→id∈touch s o→Blk β A w (β id) r) :
 (∀ v:V,v∈cells→v.id? = none)∧(∀ n,(rf n).id? = some n)∧(∀ k,kill=some k→k∈touch s o ∧ ∃ r,row? s.m k=some r∧(r.own=true∨r.cells=[])) ∧
 ∃ (x:Loc) (w':World),(∀ (β':Env) n,β' n=x → ∃ u,(execOp ρ o).run P w = .ok (.value u) w' ∧ ∀ A w,(rf n).is β' A w u)∧Win (V.is β A w) w' x cells∧(w.heap.size≤x.1 ∨ ∃ k r,kill=some k∧row? s.m k=some r∧r.own=true∧x.1=(β k).1)∧Fr (fun b=>∃ k r,kill=some k∧row? s.m k=some r∧r.own=true∧b=(β k).1) w w':=by
 have hρ:∀ x∈o.op.operands,(s.at x).known=true→ρ x=(s.at x).up β:=fun x hx=>(hι x hx).1
 have hone1:∀ v u,one v=true→V.is β A w v u→(∀ c,u ≠ .agg c)∧(∀ c,u ≠ .tuple c):=fun v u h1 h2=>one_is h1 h2
 have hIc:∀ u,V.is β A w (.c u) u:=fun u=>is_c
 have grow : ∀ (c : Call) (a1 a2 : Operand) (t e : TypeId) (i : TypeInfo) (z : Value) (id n k cc : Nat) (ad : Addr) (r : Row) (news : List V) (us : List Value), o.op = .call c → c.callee = .builtin .append → c.args = #[a1, a2] → c.argTypes = #[t, t] → P.underlying t = some (.slice e) → P.info? e = some i → i.zero = some z → 0 < i.size → z.cells.size = i.size →
  s.at a1 = .gr id n i.size→row? s.m id=some r→id∈touch s o→ρ a2 = .slice (some ad) k cc→isL β A w news us→(∀ j v,us[j]? = some v→w.cell? (ad.add j)=some v)→appG r.cells news n k i.size→(r.own=true∨n=0)→n+k≤9223372036854775807→(n+k)*i.bytes≤140737488355328 →
  (∀ v:V,v∈r.cells++news→v.id? = none)∧(∀ N,(V.gr N (n+k) i.size).id? = some N)∧(∀ q,some id=some q→q∈touch s o ∧ ∃ r,row? s.m q=some r∧(r.own=true∨r.cells=[])) ∧
  ∃ (x:Loc) (w':World),(∀ (β':Env) N,β' N=x → ∃ u,(execOp ρ o).run P w = .ok (.value u) w' ∧ ∀ A w,(V.gr N (n+k) i.size).is β' A w u)∧Win (V.is β A w) w' x (r.cells++news)∧(w.heap.size≤x.1 ∨ ∃ q r,some id=some q∧row? s.m q=some r∧r.own=true∧x.1=(β q).1)∧Fr (fun b=>∃ q r,some id=some q∧row? s.m q=some r∧r.own=true∧b=(β q).1) w w':=by
  intro c a1 a2 t e i z id n k cc ad r news us hop hc hx hty ht hi hz hs hzs h1 hrow hti h2 hf hnews hG hown h63 hb
  obtain ⟨hnl,hnc,hone,hol,hoc,h0⟩:=hG
  have hgr:=hι a1 (by rw [hop]; simp [Op.operands,Call.operands,hx])
  rw [h1] at hgr
  have hbk:=hm id r hrow hti
  have hnil:n=0→r.cells=[]:=fun hn=>by rw [hn,Nat.zero_mul] at hol; exact List.eq_nil_of_length_eq_zero hol
  have hex:∀ v y w',ρ a1=y→(Builtin.append_ #[t,t] o.type #[y,.slice (some ad) k cc]).run P w = .ok v w' → (execOp ρ o).run P w = .ok (.value v) w':=by
   intro v y w' hu hh
   unfold execOp
   simp [hop,resolve,hc,invoke,builtin,hx,hu,h2,hty,hh]
  refine ⟨fun v hv=>?_,fun N=>rfl,fun q hq=>?_,?_⟩
  ·rcases List.mem_append.1 hv with hv | hv
   ·exact noid_fre (List.all_eq_true.1 hoc v hv)
   exact noid_fre (List.all_eq_true.1 hnc v hv)
  ·cases hq
   exact ⟨hti,r,hrow,hown.imp (fun h=>h) hnil⟩
  rcases hgr.2 with ⟨hn,hu1⟩ | ⟨hn,_,hu1⟩
  ·have hrc:=hnil hn
   subst hn
   obtain ⟨room,w',hrm,hr,hW,hF⟩:=run_app_nil (P:=P) (w:=w) (ty:=o.type) (cc:=cc) ht hi hz hzs hs hnl hf hnews h0 (by omega) (by simpa using hb)
   refine ⟨⟨w.heap.size,0,room⟩,w',fun β' N hβ=>⟨_,hex _ _ _ hu1 hr,fun A w=>⟨fun hn=>(by cases hn),.inr ⟨by omega,by rw [hβ]; simpa using hrm,?_⟩⟩⟩,by rw [hrc]; exact hW,.inl (Nat.le_refl _),hF.weak (fun _ h=>h.elim)⟩
   simp only [hβ,Nat.zero_add]
  have how:r.own=true:=hown.resolve_right (by omega)
  by_cases hroom:n+k≤(β id).3/i.size
  ·obtain ⟨w',hr,hW,hon⟩:=run_app_room (P:=P) hone1 hIc (w:=w) (ty:=o.type) (cc:=cc) ht hi (blk_win hbk how) hol hone hnl hf hnews hroom
   refine ⟨β id,w',fun β' N hβ=>⟨_,hex _ _ _ hu1 hr,fun A w=>⟨fun hn=>(by cases hn),.inr ⟨by omega,by rw [hβ]; exact hroom,?_⟩⟩⟩,hW,.inr ⟨id,r,rfl,hrow,how,rfl⟩,hon.fr.weak fun b hb=>⟨id,r,rfl,hrow,how,hb⟩⟩
   simp only [hβ]
  obtain ⟨os,hfo,hos⟩:=f2_pick (I:=V.is β A w) (g:=fun k=>w.cell? ((⟨(β id).1,(β id).2,none⟩:Addr).add k)) r.cells 0 fun k v hv=>by
   obtain ⟨u,hu,hi⟩:=hbk.2.1 k v hv
   exact ⟨u,by rw [Nat.zero_add,add_at]; exact hu,hi⟩
  obtain ⟨room,w',hrm,hr,hW,hF⟩:=run_app_new (P:=P) (w:=w) (ty:=o.type) (cc:=cc) (cap:=(β id).3/i.size) ht hi hz hzs hs hol hfo (fun j v hj=>by have:=hos j v hj; rwa [Nat.zero_add] at this) hnl hf hnews (by omega) h63 hb
  refine ⟨_,w',fun β' N hβ=>⟨_,hex _ _ _ hu1 hr,fun A w=>⟨fun hn=>(by cases hn),.inr ⟨by omega,by rw [hβ]; exact hrm,?_⟩⟩⟩,hW,.inl (Nat.le_refl _),hF.weak (fun _ h=>h.elim)⟩
  simp only [hβ]
 have main : ∀ c, o.op = .call c → c.callee = .builtin .append → appE P (c.args.toList.map s.at) c.argTypes.toList s.m = some (.app kill cells rf, obs) →
  (∀ v:V,v∈cells→v.id? = none)∧(∀ n,(rf n).id? = some n)∧(∀ k,kill=some k→k∈touch s o ∧ ∃ r,row? s.m k=some r∧(r.own=true∨r.cells=[])) ∧
  ∃ (x:Loc) (w':World),(∀ (β':Env) n,β' n=x → ∃ u,(execOp ρ o).run P w = .ok (.value u) w' ∧ ∀ A w,(rf n).is β' A w u)∧Win (V.is β A w) w' x cells∧(w.heap.size≤x.1 ∨ ∃ k r,kill=some k∧row? s.m k=some r∧r.own=true∧x.1=(β k).1)∧Fr (fun b=>∃ k r,kill=some k∧row? s.m k=some r∧r.own=true∧b=(β k).1) w w':=by
  intro c hop hc h
  have two:∀ (x y:V),c.args.toList.map s.at=[x,y] → ∃ a1 a2,c.args = #[a1,a2]∧s.at a1=x∧s.at a2=y:=by
   intro x y hargs
   have:(c.args.toList.map s.at).length=2:=by rw [hargs]; rfl
   rw [List.length_map] at this
   match hl:c.args.toList,this with
   | [p,q],_ =>
     rw [hl] at hargs
     simp only [List.map_cons,List.map_nil,List.cons.injEq,and_true] at hargs
     exact ⟨p,q,by rw [← Array.toList_inj]; exact hl,hargs.1,hargs.2⟩
  unfold appE at h
  split at h
  ·rename_i x j off m cc t t' hargs htys
   split at h
   case h_2=>cases h
   rename_i e q htt ht hq
   have htt:=of_decide_eq_true htt
   subst htt
   split at h
   case h_2=>cases h
   rename_i i hi
   split at h
   case h_2=>cases h
   rename_i z hz
   split at h
   case isFalse=>cases h
   rename_i hcc
   obtain ⟨hs,hzs⟩:=hcc
   obtain ⟨a1,a2,hx,hx1,hx2⟩:=two _ _ hargs
   have hty:c.argTypes = #[t,t]:=by rw [← Array.toList_inj]; exact htys
   have h2:ρ a2 = .slice (some ⟨(β j).1,(β j).2+off,none⟩) m cc:=by rw [hρ a2 (by rw [hop]; simp [Op.operands,Call.operands,hx]) (by rw [hx2]; rfl),hx2]; rfl
   have h1:x.known=true→ρ a1=x.up β:=fun hk=>by rw [hρ a1 (by rw [hop]; simp [Op.operands,Call.operands,hx]) (by rw [hx1]; exact hk),hx1]
   have hex:∀ u v w',ρ a1=u→(Builtin.append_ #[t,t] o.type #[u,.slice (some ⟨(β j).1,(β j).2+off,none⟩) m cc]).run P w = .ok v w' → (execOp ρ o).run P w = .ok (.value v) w':=by
    intro u v w' hu hh
    unfold execOp
    simp [hop,resolve,hc,invoke,builtin,hx,hu,h2,hty,hh]
   have hbj:=hm j q hq (by simp [touch,hop,hc,hargs])
   obtain ⟨us,hf,hnews⟩:=pick_win (off:=off) (n:=m*i.size) hbj.2.1
   have hall:∀ {l:List V},l.all V.isC=true → ∀ v:V,v∈l→v.id? = none:=fun hl v hv=>noid_of (List.all_eq_true.1 hl v hv)
   have bb:∀ {olds news:List V} {n k sz:Nat},appB olds news n k sz=true→news.length=k*sz∧news.all V.isC=true∧news.all one=true∧olds.length=n*sz∧olds.all V.isC=true∧0 < k:=fun h=>by
    unfold appB at h
    simp only [Bool.and_eq_true,decide_eq_true_eq] at h
    obtain ⟨⟨⟨⟨⟨a,b⟩,c⟩,d⟩,e⟩,f⟩:=h
    exact ⟨a,b,c,d,e,f⟩
   split at h
   ·cases h
    obtain ⟨hB,⟨h63,hb⟩,_⟩:=ho
    obtain ⟨hnl,hnc,hone,_,_,h0⟩:=bb hB
    obtain ⟨room,w',_,hr,hW,hF⟩:=run_app_nil (P:=P) (w:=w) (ty:=o.type) (cc:=cc) ht hi hz hzs hs hnl hf hnews h0 h63 hb
    refine ⟨hall hnc,fun n=>rfl,fun k hk=>(by cases hk),_,w',fun β' n hβ=>⟨_,hex _ _ _ (h1 rfl) hr,fun A w=>⟨fun _=>?_,trivial⟩⟩,hW,.inl (Nat.le_refl _),hF.weak (fun _ h=>h.elim)⟩
    simp only [V.up,hβ]
   ·rename_i id o2 n cap
    split at h
    case h_2=>cases h
    rename_i r hrow
    split at h
    case isFalse=>cases h
    rename_i hcc
    subst hcc
    cases h
    obtain ⟨hB,⟨h63,hb⟩,_⟩:=ho
    obtain ⟨hnl,hnc,hone,hol,hoc,h0⟩:=bb hB
    have hbk:=hm id r hrow (by simp [touch,hop,hc,hargs,V.id?])
    obtain ⟨os,hfo,hos⟩:=pick_win (off:=o2) (n:=n*i.size) hbk.2.1
    obtain ⟨room,w',hrm,hr,hW,hF⟩:=run_app_new (P:=P) (w:=w) (ty:=o.type) (cc:=cc) (cap:=n) ht hi hz hzs hs hol hfo hos hnl hf hnews (by omega) h63 hb
    refine ⟨fun v hv=>?_,fun n=>rfl,fun k hk=>(by cases hk),_,w',fun β' n hβ=>⟨_,hex _ _ _ (h1 rfl) hr,fun A w=>⟨fun _=>?_,trivial⟩⟩,hW,.inl (Nat.le_refl _),hF.weak (fun _ h=>h.elim)⟩
    ·rcases List.mem_append.1 hv with hv | hv
     ·exact hall hoc v hv
     exact hall hnc v hv
    simp only [V.up,hβ]
   ·rename_i id n sz
    split at h
    case h_2=>cases h
    rename_i r hrow
    split at h
    case isFalse=>cases h
    rename_i hcc
    subst hcc
    cases h
    obtain ⟨⟨hG,hown⟩,⟨h63,hb⟩,_⟩:=ho
    exact grow c a1 a2 t e i z id n m cc _ r _ us hop hc hx hty ht hi hz hs hzs hx1 hrow (by simp [touch,hop,hc,hargs,V.id?]) h2 hf hnews hG hown h63 hb
   ·rename_i id n sz
    split at h
    case h_2=>cases h
    rename_i r hrow
    split at h
    case isFalse=>cases h
    rename_i hcc
    obtain ⟨how,rfl⟩:=hcc
    cases h
    obtain ⟨hB,⟨h63,hb⟩,_⟩:=ho
    obtain ⟨hnl,hnc,hone,hol,hoc,h0⟩:=bb hB
    have hti:id∈touch s o:=by simp [touch,hop,hc,hargs,V.id?]
    have hbk:=hm id r hrow hti
    have hkill:∀ k,some id=some k→k∈touch s o ∧ ∃ r,row? s.m k=some r∧(r.own=true∨r.cells=[]):=fun k hk=>by cases hk; exact ⟨hti,r,hrow,.inl how⟩
    have hcells:∀ v:V,v∈r.cells++win q.cells off (m*i.size)→v.id? = none:=fun v hv=>by
     rcases List.mem_append.1 hv with hv | hv
     ·exact hall hoc v hv
     exact hall hnc v hv
    by_cases hroom:n+m≤(β id).3/i.size
    ·obtain ⟨w',hr,hW,hon⟩:=run_app_room (P:=P) hone1 hIc (w:=w) (ty:=o.type) (cc:=cc) ht hi (blk_win hbk how) hol hone hnl hf hnews hroom
     refine ⟨hcells,fun n=>rfl,hkill,β id,w',fun β' n hβ=>⟨_,hex _ _ _ (h1 rfl) hr,fun A w=>⟨fun _=>?_,trivial⟩⟩,hW,.inr ⟨id,r,rfl,hrow,how,rfl⟩,hon.fr.weak fun b hb=>⟨id,r,rfl,hrow,how,hb⟩⟩
     simp only [V.up,hβ]
    obtain ⟨os,hfo,hos⟩:=f2_pick (I:=V.is β A w) (g:=fun k=>w.cell? ((⟨(β id).1,(β id).2,none⟩:Addr).add k)) r.cells 0 fun k v hv=>by
     obtain ⟨u,hu,hi⟩:=hbk.2.1 k v hv
     exact ⟨u,by rw [Nat.zero_add,add_at]; exact hu,hi⟩
    obtain ⟨room,w',hrm,hr,hW,hF⟩:=run_app_new (P:=P) (w:=w) (ty:=o.type) (cc:=cc) (cap:=(β id).3/i.size) ht hi hz hzs hs hol hfo (fun j v hj=>by have:=hos j v hj; rwa [Nat.zero_add] at this) hnl hf hnews (by omega) h63 hb
    refine ⟨hcells,fun n=>rfl,hkill,_,w',fun β' n hβ=>⟨_,hex _ _ _ (h1 rfl) hr,fun A w=>⟨fun _=>?_,trivial⟩⟩,hW,.inl (Nat.le_refl _),hF.weak (fun _ h=>h.elim)⟩
    simp only [V.up,hβ]
   cases h
  ·rename_i id n sz k sz' f t t' hargs htys
   split at h
   case h_2=>cases h
   rename_i e r htt ht hrow
   have htt:=of_decide_eq_true htt
   subst htt
   split at h
   case h_2=>cases h
   rename_i i hi
   split at h
   case h_2=>cases h
   rename_i z hz
   split at h
   case isFalse=>cases h
   rename_i hcc
   obtain ⟨hs,hzs,rfl,rfl⟩:=hcc
   cases h
   obtain ⟨⟨hG,hown⟩,⟨h63,hb⟩,_⟩:=ho
   obtain ⟨a1,a2,hx,hx1,hx2⟩:=two _ _ hargs
   have hty:c.argTypes = #[t,t]:=by rw [← Array.toList_inj]; exact htys
   have hd:=hι a2 (by rw [hop]; simp [Op.operands,Call.operands,hx])
   rw [hx2] at hd
   obtain ⟨a,cap,hu,_,_,hr⟩:=hd.2.1
   obtain ⟨b,o',_,ha,_⟩:=hr 0 hG.2.2.2.2.2 0 hs
   obtain ⟨us,hf,hnews⟩:=pick_elems (β:=β) ha hr
   exact grow c a1 a2 t e i z id n k cap _ r _ us hop hc hx hty ht hi hz hs hzs hx1 hrow (by simp [touch,hop,hc,hargs,V.id?]) (by rw [hu,ha]) hf hnews hG hown h63 hb
  cases h
 unfold eff0 at h
 split at h
 case h_13 c hop =>
  split at h
  ·exfalso
   repeat' (split at h)
   all_goals first
    | (obtain ⟨v,hv,_⟩:=effPure_sound (β:=β) h ho; cases hv; done)
    | (simp at h; done)
    | (cases h; done)
  ·exfalso
   repeat' (split at h)
   all_goals first
    | (obtain ⟨v,hv,_⟩:=effPure_sound (β:=β) h ho; cases hv; done)
    | (simp at h; done)
    | (cases h; done)
  ·rename_i hc
   split at h
   ·exact main c hop hc h
   obtain ⟨v,hv,_⟩:=effPure_sound (β:=β) h ho; cases hv
  obtain ⟨v,hv,_⟩:=effPure_sound (β:=β) h ho; cases hv
 all_goals exfalso
 all_goals (repeat' (split at h))
 all_goals first
  | (obtain ⟨v,hv,_⟩:=effPure_sound (β:=β) h ho; cases hv; done)
  | (simp at h; done)
  | (cases h; done)
theorem Ok.app {β':Env} {w':World} {kill:Option Nat} {cells:List V} {v:V} {u:Value} {n:Nat} {m':Rows} {x:Loc} {d:Option Tmp} (h:Ok C β w0 s a w) (hC:∀ v:V,v∈cells→v.id? = none) (hv:v.id? = some n) (hu:∀ A w,v.is β' A w u)
 (hk:∀ k,kill=some k → ∃ r,row? s.m k=some r∧(r.own=true∨r.cells=[])) (hn:row? s.m n=none) (hn0:C.n0≤n) (hlen:C.n0≤m'.length)
 (hrow:∀ i r,row? m' i=some r→(i=n∧r=⟨true,cells⟩)∨(i≠n∧kill=some i∧r=⟨false,[]⟩)∨(i≠n∧kill≠some i∧row? s.m i=some r))
 (hnew:row? m' n=some ⟨true,cells⟩) (hold:∀ i r,row? s.m i=some r→kill≠some i→row? m' i=some r) (hdead:∀ k,kill=some k→live m' k)
 (hβ:∀ i,i≠n→β' i=β i) (hself:β' n=x) (hW:Win (V.is β (alw (C.B w0) β s.m) w) w' x cells) (hx:w.heap.size≤x.1 ∨ ∃ k r,kill=some k∧row? s.m k=some r∧r.own=true∧x.1=(β k).1) (hF:Fr (fun b=>∃ k r,kill=some k∧row? s.m k=some r∧r.own=true∧b=(β k).1) w w') :
 Ok C β' w0 ⟨(s.put d v).t,m'⟩ (a.put d u) w':=by
 have nd:∀ i r,row? s.m i=some r→i≠n:=fun i r hi hh=>by rw [hh,hn] at hi; cases hi
 have same:∀ v:V,v.lv s.m → ∀ id,v.id? = some id→β' id=β id:=fun v hv id hid=>by
  obtain ⟨r,hr⟩:=hv id hid
  exact hβ id (nd id r hr)
 have lvn:∀ v:V,v.lv s.m→v.lv m':=fun v hv id hid=>by
  obtain ⟨r,hr⟩:=hv id hid
  by_cases hki:kill=some id
  ·exact hdead id hki
  exact ⟨r,hold id r hr hki⟩
 have far:∀ i r,row? s.m i=some r→kill≠some i→(r.own=true∨r.cells≠[])→x.1≠(β i).1:=by
  intro i r hi hki hz he
  rcases hx with hx | ⟨k,rk,hkk,hrk,hok,hx⟩
  ·have:=(h.mem.blk i r hi).1
   omega
  have:=h.mem.inj k i rk r hrk hi hok hz (hx.symm.trans he)
  exact hki (this▸hkk)
 have hkp:Keep (alw (C.B w0) β s.m) (alw (C.B w0) β' m') w w':=by
  refine ⟨hF.size,fun b hb hA=>⟨⟨hA.1,fun i r hi ho=>?_⟩,hF.block b hb fun ⟨k,rk,_,hrk,hok,he⟩=>hA.2 k rk hrk hok he.symm⟩⟩
  rcases hrow i r hi with ⟨rfl,rfl⟩ | ⟨_,_,rfl⟩ | ⟨hne,_,hi⟩
  ·rw [hself]
   rcases hx with hx | ⟨k,rk,_,hrk,hok,hx⟩
   ·omega
   rw [hx]; exact hA.2 k rk hrk hok
  ·cases ho
  rw [hβ i hne]; exact hA.2 i r hi ho
 refine ⟨?_,(put_defers _).trans h.defers,⟨fun i r hi=>?_,fun i j ri rj hi hj ho hz hij=>?_,fun i r hi u hu=>?_⟩,fun i r hi ho=>?_,?_,fun u hu=>?_,⟨fun i hi=>(hβ i (by omega)).trans (h.pin.1 i hi),hlen,fun i r hi ho=>?_⟩,h.laid,h.dats hkp same (hu _ _).2⟩
 ·have h1:Tm β' s.t a.tmps:=⟨h.tmps.size,fun i v hi hk=>by rw [h.tmps.get i v hi hk,up_same (same v (h.ltt v (List.mem_of_getElem? hi)))]⟩
  exact h1.put _ (hu (fun _=>True) w).1
 ·rcases hrow i r hi with ⟨rfl,rfl⟩ | ⟨hne,hki,rfl⟩ | ⟨hne,hki,hi⟩
  ·rw [hself]
   exact win_blk hW (fun v u hm hi=>hi.keep hkp fun id hid=>by rw [hC v hm] at hid; cases hid) true
  ·obtain ⟨rk,hrk,_⟩:=hk i hki
   rw [hβ i hne]
   exact ⟨Nat.lt_of_lt_of_le (h.mem.blk i rk hrk).1 hF.size,fun k v hk=>(by simp at hk),fun ho=>(by cases ho)⟩
  rw [hβ i hne]
  exact (h.mem.blk i r hi).keep hF.size (fun hz=>hF.block _ (h.mem.blk i r hi).1 fun ⟨k,rk,hkk,hrk,hok,he⟩=>hki (h.mem.inj k i rk r hrk hi hok hz he.symm▸hkk)) hkp fun v hv=>same v (h.mem.lv i r hi v hv)
 ·rcases hrow i ri hi with ⟨h1,h2⟩ | ⟨h1,h2,h3⟩ | ⟨h1,h2,h3⟩
  ·rcases hrow j rj hj with ⟨h4,_⟩ | ⟨_,_,h6⟩ | ⟨h4,h5,h6⟩
   ·rw [h1,h4]
   ·subst h6
    rcases hz with hz | hz
    ·cases hz
    exact absurd rfl hz
   rw [h1,hself,hβ j h4] at hij
   exact (far j rj h6 h5 hz hij).elim
  ·subst h3; cases ho
  rcases hrow j rj hj with ⟨h4,h5⟩ | ⟨_,_,h6⟩ | ⟨h4,h5,h6⟩
  ·rw [h4,hself,hβ i h1] at hij
   exact (far i ri h3 h2 (.inl ho) hij.symm).elim
  ·subst h6
   rcases hz with hz | hz
   ·cases hz
   exact absurd rfl hz
  rw [hβ i h1,hβ j h4] at hij
  exact h.mem.inj i j ri rj h3 h6 ho hz hij
 ·rcases hrow i r hi with ⟨_,h2⟩ | ⟨_,_,h3⟩ | ⟨_,_,h3⟩
  ·subst h2
   exact lv_noid (hC u hu)
  ·subst h3; cases hu
  exact lvn u (h.mem.lv i r h3 u hu)
 ·rcases hrow i r hi with ⟨h1,h2⟩ | ⟨_,_,h3⟩ | ⟨h1,_,h3⟩
  ·rw [h1,hself]
   rcases hx with hx | ⟨k,rk,hkk,hrk,hok,hx⟩
   ·exact .inl (Nat.le_trans h.frame.size hx)
   rw [hx]
   exact h.dirty k rk hrk hok
  ·subst h3; cases ho
  rw [hβ i h1]
  exact h.dirty i r h3 ho
 ·exact h.frame.trans hF fun b hb ⟨k, rk, hkk, hrk, hok, he⟩ => by
   rcases h.dirty k rk hrk hok with h1 | h1
   ·omega
   rw [he]; exact h1
 ·rcases put_mem hu with hu | rfl
  ·exact lvn u (h.ltt u hu)
  intro id hid
  rw [hv] at hid
  cases hid
  exact ⟨_,hnew⟩
 have h1:=h.pin.2.2 i r hi ho
 by_cases hki:kill=some i
 ·obtain ⟨rk,hrk,hok⟩:=hk i hki
  rw [h1] at hrk
  cases hrk
  have hc:r.cells=[]:=hok.resolve_left (by rw [ho]; exact Bool.false_ne_true)
  obtain ⟨r',hr'⟩:=hdead i hki
  rw [hr']
  rcases hrow i r' hr' with ⟨h2,_⟩ | ⟨_,_,h3⟩ | ⟨_,h2,_⟩
  ·exact absurd h2 (nd i r h1)
  ·obtain ⟨ro,rc⟩:=r
   cases ho
   cases hc
   rw [h3]
  exact absurd hki h2
 exact hold i r h1 hki
theorem unrow_len {m:Rows} {kill:Option Nat}:(unrow m kill).length=m.length:=by
 cases kill with
 | none=>rfl
 | some k=>simp [unrow]
theorem row_unrow {m:Rows} {kill:Option Nat} {i:Nat} {r:Row} (h:row? (unrow m kill) i=some r):(kill=some i∧r=⟨false,[]⟩)∨(kill≠some i∧row? m i=some r):=by
 cases kill with
 | none=>exact .inr ⟨(by simp),h⟩
 | some k =>
   rcases row_set h with ⟨h1,h2⟩ | ⟨h1,h2⟩
   ·exact .inr ⟨fun hh=>h1 (Option.some.inj hh).symm,h2⟩
   cases hr:row? m k with
   | none=>rw [hr] at h2; cases h2
   | some q=>rw [hr] at h2; cases h2; exact .inl ⟨by rw [h1],rfl⟩
theorem unrow_old {m:Rows} {kill:Option Nat} {i:Nat} {r:Row} (h:row? m i=some r) (hk:kill≠some i):row? (unrow m kill) i=some r:=by
 cases kill with
 | none=>exact h
 | some k =>
   unfold unrow row?
   rw [List.getElem?_set_ne (fun hh=>hk (by rw [hh]))]
   exact h
theorem unrow_dead {m:Rows} {k:Nat} {r:Row} (h:row? m k=some r):row? (unrow m (some k)) k=some ⟨false,[]⟩:=by
 have hl:=row_lt h
 show row? (m.set k ((row? m k).map fun _=>⟨false,[]⟩)) k=_
 rw [h]
 unfold row?
 rw [List.getElem?_set_self hl]
 rfl
theorem row_lt_none {m:Rows} {n:Nat} (h:m.length≤n):row? m n=none:=by
 unfold row?
 rw [List.getElem?_eq_none h]
 rfl
theorem step_ok (h:Ok C β w0 s a w) (he:eff P s o ans=some (e,obs)) (ho:Holds P obs) (hk:∀ β' a' w',Ok C β' w0 (stepSt s o.dst e) a' w' → K a' w'):o.wp P a w K Q:=by
 obtain ⟨ans,obs,he,ho⟩:=eff_cases he ho
 have hι:∀ x∈o.op.operands,(s.at x).is β (alw (C.B w0) β s.m) w (a.eval x):=fun x _=>h.is x
 unfold Oper.wp
 cases e with
 | val v =>
   obtain ⟨_,hr,hl⟩:=eff_val_sound (w:=w) h.here he ho hι (fun id r hc _=>h.mem.blk id r hc)
   have hlv:=hl s.m (fun x _=>at_lv h.ltt x) (fun id r hr _ v hv=>h.mem.lv id r hr v hv)
   have key:∀ w' u,Below w.heap.size w w' → v.is β (fun b=>alw (C.B w0) β s.m b∨w.heap.size≤b) w' u→K (a.put o.dst u) w':=by
    intro w' u hw hv
    have hkp:Keep (alw (C.B w0) β s.m) (alw (C.B w0) β s.m) w w':=⟨hw.size,fun b hb hA=>⟨hA,hw.block b hb⟩⟩
    have hvi:v.is β (alw (C.B w0) β s.m) w' u:=hv.keep ⟨Nat.le_refl _,fun b _ hb=>⟨by
     rcases hb with hb | hb
     ·exact hb
     exact ⟨.inr (.inr (Nat.le_trans h.frame.size hb)),fun id r hr _=>by have:=(h.mem.blk id r hr).1; omega⟩,rfl⟩⟩ fun _ _=>rfl
    refine hk β _ _ ⟨h.tmps.put _ hvi.1,(put_defers _).trans h.defers,?_,?_,?_,?_,(by simp only [stepSt,put_m]; exact h.pin),h.laid,?_⟩
    ·simp only [stepSt,put_m]
     exact ⟨fun id r hr=>(h.mem.blk id r hr).keep hw.size (fun _=>hw.block _ (h.mem.blk id r hr).1) hkp fun _ _ _ _=>rfl,h.mem.inj,h.mem.lv⟩
    ·simp only [stepSt,put_m]; exact h.dirty
    ·exact h.frame.trans (Fr.of_below (D:=fun _=>False) hw) (fun _ _ h=>h.elim)
    ·simp only [stepSt,put_m]
     intro u hu
     rcases put_mem hu with hu | rfl
     ·exact h.ltt u hu
     exact hlv
    simp only [stepSt,put_m]
    exact h.dats hkp (fun _ _ _ _=>rfl) hvi.2
   rcases hr with ⟨u,hu,hr⟩ | ⟨f,args,hc,hr⟩
   ·rw [hr]
    exact key w u (Below.refl _ _) (hu.keep ⟨Nat.le_refl _,fun b _ hb=>⟨.inl hb,rfl⟩⟩ fun _ _=>rfl)
   rw [hr,Oper.upon_enter]
   refine hc.mono fun e' w' hw=>?_
   obtain ⟨u,rfl,hb,hu⟩:=hw
   exact key w' u hb hu
 | new cells t rf =>
   obtain ⟨_,⟨us,hus,hr⟩,hrf,hl⟩:=eff_new_sound (w:=w) he ho hι
   have hlc:=hl s.m (fun x _=>at_lv h.ltt x)
   obtain ⟨β',hβ,hself⟩:∃ β':Env,(∀ i,i < s.m.length→β' i=β i)∧β' s.m.length=⟨w.heap.size,0,0⟩ :=
    ⟨fun i=>if i=s.m.length then ⟨w.heap.size,0,0⟩ else β i,fun i hi=>by simp only; rw [if_neg (Nat.ne_of_lt hi)],by simp⟩
   rw [hr β' s.m.length hself]
   show K (a.put o.dst _) _
   have hbel:Below w.heap.size w (w.alloc (.cells us.toArray t (0,0))):=(Below.refl _ _).alloc (Nat.le_refl _) _
   have same:∀ v:V,v.lv s.m → ∀ id,v.id? = some id→β' id=β id:=fun v hv id hid=>by
    obtain ⟨r,hr⟩:=hv id hid
    exact hβ id (row_lt hr)
   have hkp:Keep (alw (C.B w0) β s.m) (alw (C.B w0) β' (s.m++[some ⟨true,cells⟩])) w (w.alloc (.cells us.toArray t (0,0))):=by
    refine ⟨hbel.size,fun b hb hA=>⟨⟨hA.1,fun i r hi ho=>?_⟩,hbel.block b hb⟩⟩
    rcases row_append hi with hi | ⟨rfl,_⟩
    ·rw [hβ i (row_lt hi)]; exact hA.2 i r hi ho
    rw [hself]; exact Nat.ne_of_gt hb
   refine hk β' _ _ ⟨?_,(put_defers _).trans h.defers,?_,?_,?_,?_,⟨fun i hi=>(hβ i (Nat.lt_of_lt_of_le hi h.pin.2.1)).trans (h.pin.1 i hi),(by have:=h.pin.2.1; simp only [stepSt,List.length_append,List.length_singleton]; omega),fun i r hi ho=>row_append_old (h.pin.2.2 i r hi ho)⟩,h.laid,h.dats hkp same (is_up (hrf _).2).2⟩
   ·exact (h.tmps.congr h.ltt hβ).put _ fun _=>rfl
   ·simp only [stepSt]
    refine ⟨fun id r hr=>?_,fun i j ri rj hi hj ho hz hij=>?_,fun id r hr v hv=>?_⟩
    ·rcases row_append hr with hr | ⟨hid',hr2⟩
     ·rw [hβ id (row_lt hr)]
      exact (h.mem.blk id r hr).keep hbel.size (fun _=>hbel.block _ (h.mem.blk id r hr).1) hkp fun v hv=>same v (h.mem.lv id r hr v hv)
     subst hid'
     cases hr2
     rw [hself]
     refine ⟨by simp [World.alloc_eq],fun k v hk=>?_,fun _=>⟨us.toArray,t,Array.getElem?_push_size,Nat.zero_le _⟩⟩
     have hh:(w.alloc (.cells us.toArray t (0,0))).heap[w.heap.size]? = some (.cells us.toArray t (0,0)):=Array.getElem?_push_size
     have hk':cells[k]? = some v:=hk
     obtain ⟨u,hu,hi⟩:=(f2_get hus).2 k v hk'
     have h0:0+k=k:=Nat.zero_add k
     refine ⟨u,?_,hi.keep hkp (same v (hlc v (List.mem_of_getElem? hk')))⟩
     simp only [World.cell?,hh,Option.isSome_none,Bool.false_eq_true,if_false,h0,List.getElem?_toArray,hu]
    ·have blt:∀ i r,row? s.m i=some r→(β i).1 < w.heap.size:=fun i r hr=>(h.mem.blk i r hr).1
     rcases row_append hi with h1 | ⟨h1,_⟩
     ·rcases row_append hj with h2 | ⟨h2,_⟩
      ·rw [hβ i (row_lt h1),hβ j (row_lt h2)] at hij
       exact h.mem.inj i j ri rj h1 h2 ho hz hij
      rw [hβ i (row_lt h1),h2,hself] at hij
      dsimp only at hij
      have:=blt i ri h1
      omega
     rcases row_append hj with h2 | ⟨h2,_⟩
     ·rw [hβ j (row_lt h2),h1,hself] at hij
      dsimp only at hij
      have:=blt j rj h2
      omega
     rw [h1,h2]
    rcases row_append hr with hr | ⟨hid',hr2⟩
    ·exact lv_append (h.mem.lv id r hr v hv)
    cases hr2
    exact lv_append (hlc v hv)
   ·intro id r hr ho
    simp only [stepSt] at hr
    rcases row_append hr with hr | ⟨rfl,hr⟩
    ·rw [hβ id (row_lt hr)]
     exact h.dirty id r hr ho
    rw [hself]
    exact .inl h.frame.size
   ·exact h.frame.trans (Fr.of_below (D:=fun _=>False) hbel) (fun _ _ h=>h.elim)
   simp only [stepSt]
   intro u hu
   rcases put_mem hu with hu | rfl
   ·exact lv_append (h.ltt u hu)
   intro id hid
   rw [(hrf s.m.length).1] at hid
   cases hid
   exact ⟨⟨true,cells⟩,row_append_new⟩
 | put id off vs =>
   obtain ⟨_,r,t,x,y,hm,how,hop,hx,hv,hlen,hrun⟩:=eff_put_sound (ρ:=a.eval) (β:=β) (w:=w) he ho
   have hb:=h.mem.blk id r hm
   obtain ⟨w',hr,hb',hon⟩:=hrun _ hι (blk_win hb how)
   rw [hr]
   show K (a.put o.dst undef) w'
   have hms:(stepSt s o.dst (.put id off vs)).m=s.m.set id (some ⟨true,splice r.cells off vs⟩):=by simp [stepSt,hm,how]
   have hkp:Keep (alw (C.B w0) β s.m) (alw (C.B w0) β (s.m.set id (some ⟨true,splice r.cells off vs⟩))) w w':=by
    refine ⟨by rw [hon.size]; exact Nat.le_refl _,fun b _ hA=>⟨⟨hA.1,fun i ri hi ho=>?_⟩,hon.block b fun e=>hA.2 id r hm how e.symm⟩⟩
    rcases row_set hi with ⟨_,hi⟩ | ⟨rfl,_⟩
    ·exact hA.2 i ri hi ho
    exact hA.2 i r hm how
   refine hk β _ _ ⟨h.tmps.put (v:=.c undef) _ fun _=>rfl,(put_defers _).trans h.defers,?_,?_,?_,?_,(by rw [hms,List.length_set]; exact ⟨h.pin.1,h.pin.2.1,fun i r' hi ho=>by
    have h1:=h.pin.2.2 i r' hi ho
    have hne:i≠id:=fun hh=>by rw [hh,hm] at h1; cases h1; rw [how] at ho; cases ho
    unfold row? at h1 ⊢
    rw [List.getElem?_set_ne (Ne.symm hne)]
    exact h1⟩),h.laid,(by rw [hms]; exact h.dats (v:=.c undef) hkp (fun _ _ _ _=>rfl) trivial)⟩
   ·rw [hms]
    refine ⟨fun i ri hi=>?_,fun i j ri rj hi hj ho' hz hij=>?_,fun i ri hi v hv'=>?_⟩
    ·rcases row_set hi with ⟨hne,hi⟩ | ⟨hii,hi2⟩
     ·refine (h.mem.blk i ri hi).keep (by rw [hon.size]; exact Nat.le_refl _) (fun hz=>hon.block _ fun hh=>hne ?_) hkp fun _ _ _ _=>rfl
      exact (h.mem.inj id i r ri hm hi how hz hh.symm).symm
     subst hii
     cases hi2
     exact win_blk hb' (fun v u _ hi=>hi.keep hkp fun _ _=>rfl) true
    ·have old : ∀ k rk, row? (s.m.set id (some ⟨true, splice r.cells off vs⟩)) k = some rk → ∃ rk', row? s.m k = some rk' ∧ (rk.own = true → rk'.own = true) ∧ (k = id ∨ rk = rk') ∧ (k = id → rk'.own = true) := by
      intro k rk hk'
      rcases row_set hk' with ⟨hne,hk'⟩ | ⟨rfl,hk'⟩
      ·exact ⟨rk,hk',fun hh=>hh,.inr rfl,fun hh=>absurd hh hne⟩
      exact ⟨r,hm,fun _=>how,.inl rfl,fun _=>how⟩
     obtain ⟨ri',hi',oi⟩:=old i ri hi
     obtain ⟨rj',hj',oj,oz,od⟩:=old j rj hj
     refine h.mem.inj i j ri' rj' hi' hj' (oi.1 ho') ?_ hij
     rcases oz with oz | oz
     ·exact .inl (od oz)
     rw [← oz]; exact hz
    rcases row_set hi with ⟨_,hi⟩ | ⟨hii,hi2⟩
    ·exact lv_set hm (h.mem.lv i ri hi v hv')
    subst hii
    cases hi2
    rcases splice_mem hv' with hv' | hv'
    ·exact lv_set hm (h.mem.lv i r hm v hv')
    rw [hv] at hv'
    exact lv_set hm (cells_lv (at_lv h.ltt y) v hv')
   ·rw [hms]
    intro i ri hi ho'
    rcases row_set hi with ⟨_,hi⟩ | ⟨rfl,hi⟩
    ·exact h.dirty i ri hi ho'
    exact h.dirty i r hm how
   ·exact h.frame.trans hon.fr fun b hb' hbe => by
     rcases h.dirty id r hm how with h1 | h1
     ·omega
     rw [hbe]; exact h1
   rw [hms]
   intro u hu
   rcases put_mem hu with hu | rfl
   ·exact lv_set hm (h.ltt u hu)
   exact lv_c _ _
 | all m' v =>
   obtain ⟨⟨f,args,vals,hsp,hargs,hr⟩,hks,hvl⟩:=eff_all_sound (w:=w) he ho hι
   rw [hr,Oper.upon_enter]
   refine (hsp w β _ vals h.here h.apart h.mem hargs).mono fun e' w' hw=>?_
   obtain ⟨β',u,hβ,hnew,rfl,hu,hmem,hfr,hro⟩:=hw
   have hcB:∀ b,more (C.B w0) β s.m w b→C.B w0 b:=fun b hb=>by
    rcases hb with hb | ⟨i,ri,hi,ho,rfl⟩ | hb
    ·exact hb
    ·rcases h.dirty i ri hi ho with h1 | h1
     ·exact .inr (.inr h1)
     exact .inr (.inl h1)
    exact .inr (.inr (Nat.le_trans h.frame.size hb))
   have hk0:Keep (alw (more (C.B w0) β s.m w) β' m') (alw (C.B w0) β' m') w' w':=⟨Nat.le_refl _,fun b _ hb=>⟨⟨hcB b hb.1,hb.2⟩,rfl⟩⟩
   have hmem:Mem β' (C.B w0) m' w':=⟨fun id r hr=>(hmem.blk id r hr).keep (Nat.le_refl _) (fun _=>rfl) hk0 fun _ _ _ _=>rfl,hmem.inj,hmem.lv⟩
   have hu:v.is β' (alw (C.B w0) β' m') w' u:=hu.keep hk0 fun _ _=>rfl
   have same:∀ v:V,v.lv s.m → ∀ id,v.id? = some id→β' id=β id:=fun v hv id hid=>by
    obtain ⟨r,hr⟩:=hv id hid
    exact hβ id (row_lt hr)
   have hkp:Keep (alw (C.B w0) β s.m) (alw (C.B w0) β' m') w w':=by
    refine ⟨hfr.size,fun b hb hA=>⟨⟨hA.1,fun i ri hi ho=>?_⟩,hfr.block b hb fun ⟨i,ri,hi,ho,he⟩=>hA.2 i ri hi ho he.symm⟩⟩
    by_cases hid:i < s.m.length
    ·obtain ⟨r0,hr0,hw0⟩:=keeps_back hks hid hi
     rw [hβ i hid]
     exact hA.2 i r0 hr0 (by rw [← hw0]; exact ho)
    have:=hnew i ri (by omega) hi ho
    omega
   have lvm:∀ u:V,u.lv s.m→u.lv m':=fun u hu id hid=>by
    obtain ⟨r,hr⟩:=hu id hid
    obtain ⟨r',hr',_⟩:=keeps_at hks hr
    exact ⟨r',hr'⟩
   refine hk β' _ _ ⟨(h.tmps.congr h.ltt hβ).put _ hu.1,(put_defers _).trans h.defers,hmem,fun id r hr ho'=>?_,?_,fun u hu=>?_,⟨fun i hi=>(hβ i (Nat.lt_of_lt_of_le hi h.pin.2.1)).trans (h.pin.1 i hi),Nat.le_trans h.pin.2.1 (keeps_len hks),h.pin.2.2.trans hro⟩,h.laid,h.dats hkp same hu.2⟩
   ·by_cases hid:id < s.m.length
    ·obtain ⟨r0,hr0,hw0⟩:=keeps_back hks hid hr
     rw [hβ id hid]
     exact h.dirty id r0 hr0 (by rw [← hw0]; exact ho')
    exact .inl (Nat.le_trans h.frame.size (hnew id r (by omega) hr ho'))
   ·exact h.frame.trans hfr fun b hb hd => by
     obtain ⟨i,ri,hi,hoi,rfl⟩:=hd
     rcases h.dirty i ri hi hoi with h1 | h1
     ·omega
     exact h1
   rcases put_mem hu with hu | rfl
   ·exact lvm u (h.ltt u hu)
   exact hvl
 | app kill cells rf =>
   obtain ⟨hC,hrf,hkl,x,w',hr,hW,hx,hF⟩:=eff_app_sound (w:=w) he ho hι (fun id r hi _=>h.mem.blk id r hi)
   obtain ⟨β',hβ,hself⟩:∃ β':Env,(∀ i,i≠s.m.length→β' i=β i)∧β' s.m.length=x :=
    ⟨fun i=>if i=s.m.length then x else β i,fun i hi=>by simp only; rw [if_neg hi],by simp⟩
   obtain ⟨u,hr,hu⟩:=hr β' s.m.length hself
   rw [hr]
   have hlast:row? (unrow s.m kill++[some ⟨true,cells⟩]) s.m.length=some ⟨true,cells⟩:=by
    conv=>lhs; rw [← unrow_len (m:=s.m) (kill:=kill)]
    exact row_append_new
   refine hk β' _ _ (h.app hC (hrf _) hu (fun k hk=>(hkl k hk).2) (row_lt_none (Nat.le_refl _)) h.pin.2.1 ?_ ?_ hlast ?_ ?_ hβ hself hW hx hF)
   ·have:=h.pin.2.1
    rw [List.length_append,unrow_len]
    omega
   ·intro i r hi
    rcases row_append hi with hi | ⟨h1,h2⟩
    ·have hne : i ≠ s.m.length := by
      have:=row_lt hi
      rw [unrow_len] at this
      omega
     rcases row_unrow hi with ⟨h1,h2⟩ | ⟨h1,h2⟩
     ·exact .inr (.inl ⟨hne,h1,h2⟩)
     exact .inr (.inr ⟨hne,h1,h2⟩)
    cases h2
    exact .inl ⟨by rw [h1,unrow_len],rfl⟩
   ·exact fun i r hi hki=>row_append_old (unrow_old hi hki)
   rintro k rfl
   obtain ⟨_,r,hrk,_⟩:=hkl k rfl
   exact ⟨_,row_append_old (unrow_dead hrk)⟩
end
def slots:Nat→Nat→List (Nat × V)→List V
 | 0,_,_=>[]
 | n+1,i,[]=>.any::slots n (i+1) []
 | n+1,i,(j,v)::r=>if j=i then v::slots n (i+1) r else .any::slots n (i+1) ((j,v)::r)
abbrev vI (x:Int):V:=.c (.int .i64 x)
abbrev vU (x:Int):V:=.c (.int .u64 x)
abbrev vT:V:=.c (.bool true)
abbrev vF:V:=.c (.bool false)
def mask:Nat→Nat→List Nat→List Bool
 | 0,_,_=>[]
 | _+1,_,[]=>[]
 | n+1,i,j::r=>if j=i then true::mask n (i+1) r else false::mask n (i+1) (j::r)
end Go.Proofs.YtmkgijiniopalaaDoor.U
