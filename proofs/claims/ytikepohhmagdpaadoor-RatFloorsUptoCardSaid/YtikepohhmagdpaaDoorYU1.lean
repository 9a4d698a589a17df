import Derived.Below
import Derived.Orders
import Derived.RowKit
import Derived.Laws.Cells
import Derived.Laws.MakeOwn
import Derived.Laws.BytesArg
import Derived.Laws.StructEq
namespace Go.Proofs.YtikepohhmagdpaaDoor.U
open Go.RowKit
set_option linter.unusedSimpArgs false
set_option linter.unusedVariables false
inductive V where
  | any
  | c (v:Value)
  | p (id off:Nat)
  | sl (id off len cap:Nat)
  deriving Inhabited
abbrev Env:=Nat → Nat × Nat
def V.up (β:Env):V → Value
  | .any=>undef
  | .c v=>v
  | .p id off=>.pointer (some ⟨(β id).1,(β id).2 + off,none⟩)
  | .sl id off len cap=>.slice (some ⟨(β id).1,(β id).2 + off,none⟩) len cap
def V.known:V → Bool
  | .any=>false
  | _=>true
def V.isC:V → Bool
  | .c _=>true
  | _=>false
def V.val:V → Value
  | .c v=>v
  | _=>undef
def V.id?:V → Option Nat
  | .p id _=>some id
  | .sl id _ _ _=>some id
  | _=>none
def V.cells:V → List V
  | .c v=>v.cells.toList.map .c
  | v=>[v]
def one:V → Bool
  | .any=>false
  | .c (.agg _)=>false
  | .c (.tuple _)=>false
  | _=>true
structure Row where
  own:Bool
  cells:List V
abbrev Rows:=List (Option Row)
structure St where
  t:List V
  m:Rows
def St.at (s:St):Operand → V
  | .tmp t=>s.t.getD t (.c undef)
  | .const v=>.c v
  | .global g=>.c (.pointer (some ⟨g,0,none⟩))
  | .func f=>.c (.func (.func f) #[] #[])
def St.rho (s:St) (x:Operand):Value:=(s.at x).val
def St.put (s:St) (d:Option Tmp) (v:V):St :=
  match d with
  | some d=>{ s with t:=s.t.set d v }
  | none=>s
def row? (m:Rows) (id:Nat):Option Row:=(m[id]?).bind fun x=>x
def sval {α:Type} (P:Program):Sem α → Option α
  | .pure a=>some a
  | .program k=>sval P (k P)
  | .mark _ k=>sval P k
  | _=>none
theorem sval_run {α:Type} {P:Program}:∀ {s:Sem α} {a:α},sval P s = some a → ∀ w,s.run P w = .ok a w:=by
  intro s
  induction s with
  | pure b=>intro a h w; simp only [sval,Option.some.injEq] at h; subst h; rfl
  | program k ih=>intro a h w; exact ih P h w
  | mark m k ih=>intro a h w; exact ih h w
  | _=>intro a h w; simp [sval] at h
structure Fr (D:Nat → Prop) (w0 w:World):Prop where
  os:w.os = w0.os
  tape:w.tape = w0.tape
  output:w.output = w0.output
  size:w0.heap.size ≤ w.heap.size
  block:∀ k,k < w0.heap.size → ¬ D k → w.heap[k]? = w0.heap[k]?
theorem Fr.refl (D:Nat → Prop) (w:World):Fr D w w:=⟨rfl,rfl,rfl,Nat.le_refl _,fun _ _ _=>rfl⟩
theorem Fr.of_below {D:Nat → Prop} {w w':World} (h:Below w.heap.size w w'):Fr D w w':=⟨h.os,h.tape,h.output,h.size,fun k hk _=>h.block k hk⟩
theorem Fr.below {w w':World} (h:Fr (fun _=>False) w w'):Below w.heap.size w w':=⟨h.os,h.tape,h.output,h.size,fun k hk=>h.block k hk id⟩
theorem Fr.trans {D D':Nat → Prop} {x y z:World} (h:Fr D x y) (k:Fr D' y z) (hd:∀ b,b < x.heap.size → D' b → D b):Fr D x z :=
  ⟨k.os.trans h.os,k.tape.trans h.tape,k.output.trans h.output,Nat.le_trans h.size k.size,fun b hb hn =>
    (k.block b (Nat.lt_of_lt_of_le hb h.size) (fun hh=>hn (hd b hb hh))).trans (h.block b hb hn)⟩
def tabG:Nat:=1
def deB:List Int:=[0,1,56,2,57,49,28,3,61,58,42,50,38,29,17,4,62,47,59,36,45,43,51,22,53,39,33,30,24,18,12,5,63,55,48,27,60,41,37,16,46,35,44,21,52,32,23,11,54,26,40,15,34,20,31,10,25,14,19,9,13,8,7,6]
def Laid (w:World):Prop:=∀ k,k < 64 → w.cell? ⟨tabG,k,none⟩ = some (.int .u8 (deB.getD k 0))
theorem Laid.lt {w:World} (h:Laid w):tabG < w.heap.size:=by
  have h0:=h 0 (by omega)
  unfold World.cell? at h0
  cases hb:w.heap[tabG]? with
  | none=>rw [hb] at h0; cases h0
  | some o=>exact (Array.getElem?_eq_some_iff.1 hb).1
theorem Laid.fr {D:Nat → Prop} {w w':World} (h:Laid w) (f:Fr D w w') (hd:¬ D tabG):Laid w':=fun k hk=>by
  rw [← h k hk]
  simp only [World.cell?,f.block tabG h.lt hd]
def Blk (β:Env) (w:World) (x:Nat × Nat) (r:Row):Prop :=
  x.1 < w.heap.size ∧ (∀ k v,r.cells[k]? = some v → w.cell? ⟨x.1,x.2 + k,none⟩ = some (v.up β)) ∧
  (r.own = true → ∃ (arr:Array Value) (e:TypeId),w.heap[x.1]? = some (.cells arr e (0,0)))
def live (m:Rows) (id:Nat):Prop:=∃ r,row? m id = some r
def V.lv (m:Rows) (v:V):Prop:=∀ id,v.id? = some id → live m id
structure Mem (β:Env) (m:Rows) (w:World):Prop where
  blk:∀ id r,row? m id = some r → Blk β w (β id) r
  inj:∀ i j ri rj,row? m i = some ri → row? m j = some rj → ri.own = true → (β i).1 = (β j).1 → i = j
  lv:∀ id r,row? m id = some r → ∀ v:V,v ∈ r.cells → v.lv m ∧ v.known = true
def CSpec (P:Program) (f:FuncId) (args:Array Value) (r:Value):Prop:=∀ w,Laid w → Calls P f args w fun e w'=>e = .returned r ∧ Below w.heap.size w w'
def FSpec (P:Program) (f:FuncId) (args:List V) (m:Rows) (r:V) (m':Rows):Prop :=
  ∀ (w:World) (β:Env),Laid w → (∀ i ri,row? m i = some ri → ri.own = true → (β i).1 ≠ tabG) → Mem β m w → Calls P f (args.map (V.up β)).toArray w fun e w'=>∃ β':Env,(∀ i,i < m.length → β' i = β i) ∧ (∀ i ri,m.length ≤ i → row? m' i = some ri → ri.own = true → w.heap.size ≤ (β' i).1) ∧
    e = .returned (r.up β') ∧ Mem β' m' w' ∧ Fr (fun k=>∃ i ri,row? m i = some ri ∧ ri.own = true ∧ k = (β i).1) w w'
inductive Ob where
  | val (s:Sem Next) (v:Value)
  | call (f:FuncId) (args:Array Value) (r:Value)
  | fcall (f:FuncId) (args:List V) (m:Rows) (r:V) (m':Rows)
  | prop (p:Prop)
def Ob.holds (P:Program):Ob → Prop
  | .val s v=>sval P s = some (.value v)
  | .call f args r=>CSpec P f args r
  | .fcall f args m r m'=>FSpec P f args m r m'
  | .prop p=>p
def Holds (P:Program):List Ob → Prop
  | []=>True
  | o :: r=>o.holds P ∧ Holds P r
theorem holds_append {P:Program}:∀ {a b:List Ob},Holds P (a ++ b) → Holds P a ∧ Holds P b
  | [],_,h=>⟨trivial,h⟩
  | _ :: _,_,h=>⟨⟨h.1,(holds_append h.2).1⟩,(holds_append h.2).2⟩
theorem hP {P:Program} {p:Prop} {r:List Ob} (h:p) (t:Holds P r):Holds P (.prop p :: r):=⟨h,t⟩
theorem hC {P:Program} {f:FuncId} {args:Array Value} {v:Value} {r:List Ob} (h:CSpec P f args v) (t:Holds P r):Holds P (.call f args v :: r):=⟨h,t⟩
theorem hF {P:Program} {f:FuncId} {args:List V} {m m':Rows} {v:V} {r:List Ob} (h:FSpec P f args m v m') (t:Holds P r):Holds P (.fcall f args m v m' :: r):=⟨h,t⟩
theorem hV {P:Program} {s:Sem Next} {v:Value} {r:List Ob} (h:sval P s = some (.value v)) (t:Holds P r):Holds P (.val s v :: r):=⟨h,t⟩
theorem hN {P:Program}:Holds P []:=trivial
inductive Eff where
  | val (v:V)
  | new (cells:List V) (t:TypeId) (r:Nat → V)
  | put (id off:Nat) (vs:List V)
  | all (m:Rows) (v:V)
def size? (P:Program) (t:TypeId):Option Nat:=(P.info? t).map (·.size)
def agg? (P:Program) (t:TypeId):Option Bool:=sval P (isAgg t)
def splice (l:List V) (off:Nat):List V → List V
  | []=>l
  | v :: r=>splice (l.set off v) (off + 1) r
inductive Ans where
  | fix (v:Value)
  | is (v:V)
  | call (r:V) (m':Rows)
  | sub (chk:Bool) (pl:List Nat) (r:V) (m':Option Rows)
  | eqs
  | mask (b:List Bool)
  | read (r:Value)
def litCells (t:TypeId) (len:Nat) (parts:Array (Nat × Value)):Sem (TypeId × Array Value):=do
  let .slice elem ← underlying t | stuck "buildSlice: slice type expected"
  let size ← sizeOf elem
  if len * size > 2 ^ 24 then unsupported (.resourceLimit "buildSlice: more than 2^24 cells")
  let zero ← if len * size = 0 then pure #[] else do pure (← zeroValue elem).cells
  let some cells:=Instr.fill (fun i=>some (i * size,size)) ((Array.range (len * size)).map (zero[· % zero.size]!)) parts.toList
    | stuck "buildSlice: a part of the wrong size"
  pure (elem,cells)
theorem buildSlice_run {P:Program} {w:World} {t e:TypeId} {len:Nat} {parts:Array (Nat × Value)} {cells:Array Value} (h:sval P (litCells t len parts) = some (e,cells)) :
    (Instr.buildSlice t len parts).run P w = .ok (.slice (some ⟨w.heap.size,0,none⟩) len len) (w.alloc (.cells cells e (0,0))):=by
  have hr:=sval_run h w
  unfold litCells at hr
  unfold Instr.buildSlice
  revert hr
  simp only [Sem.run_bind]
  cases hu:(underlying t).run P w with
  | halt x w1=>intro hr; simp [Result.andThen] at hr
  | ok d w1 =>
    simp only [Result.andThen_ok]
    cases d with
    | slice elem =>
      simp only [Sem.run_bind]
      cases hs:(sizeOf elem).run P w1 with
      | halt x w2=>intro hr; simp [Result.andThen] at hr
      | ok size w2 =>
        simp only [Result.andThen_ok]
        by_cases hb:len * size > 2 ^ 24
        · intro hr
          rw [if_pos hb] at hr
          simp [Sem.run_bind,unsupported,Result.andThen,Sem.run] at hr
        rw [if_neg hb,if_neg hb]
        have fin : ∀ (zero : Array Value) (w3 : World), (match Instr.fill (fun i => some (i * size, size)) ((Array.range (len * size)).map (fun x => zero[x % zero.size]!)) parts.toList with
              | some cells=>(pure (elem,cells):Sem (TypeId × Array Value))
              | _=>stuck "buildSlice: a part of the wrong size").run P w3 = .ok (e,cells) w →
            (match Instr.fill (fun i=>some (i * size,size)) ((Array.range (len * size)).map (fun x=>zero[x % zero.size]!)) parts.toList with
              | some cells=>(do pure (.slice (some (← newRow elem cells)) len len):Sem Value)
              | _=>stuck "buildSlice: a part of the wrong size").run P w3 = .ok (.slice (some ⟨w.heap.size,0,none⟩) len len) (w.alloc (.cells cells e (0,0))):=by
          intro zero w3
          cases hf:Instr.fill (fun i=>some (i * size,size)) ((Array.range (len * size)).map (fun x=>zero[x % zero.size]!)) parts.toList with
          | none=>intro hr; simp [stuck,Sem.run] at hr
          | some cs =>
            intro hr
            simp [Sem.run] at hr
            obtain ⟨⟨rfl,rfl⟩,rfl⟩:=hr
            simp [newRow]
        by_cases hz0:len * size = 0
        · rw [if_pos hz0,if_pos hz0]
          simp only [Sem.run_bind,Sem.run_pure,Result.andThen_ok]
          exact fin _ _
        rw [if_neg hz0,if_neg hz0]
        simp only [Sem.run_bind]
        cases hzv:(zeroValue elem).run P w2 with
        | halt x w3=>intro hr; simp [Result.andThen] at hr
        | ok z w3 =>
          simp only [Sem.run_pure,Result.andThen_ok]
          exact fin _ _
    | _=>intro hr; simp [stuck,Sem.run] at hr
def eqFs (P:Program) (g:TypeId → Value → Value → Option Bool) (xs ys:Array Value):List Field → Option Bool
  | []=>some true
  | f :: fs => if f.name ≠ "_" then match sval P (part f.type xs f.offset), sval P (part f.type ys f.offset) with
      | some a,some b=>match g f.type a b,eqFs P g xs ys fs with
        | some r,some q=>some (r && q)
        | _,_=>none
      | _,_=>none
    else none
def eqV (P:Program):Nat → TypeId → Value → Value → Option Bool
  | 0,_,_,_=>none
  | n + 1,t,x,y=>match P.underlying t,x,y with
    | some .bool,.bool a,.bool b=>some (a == b)
    | some (.int _),.int k a,.int k' b=>if k = k' then some (a == b) else none
    | some .string,.string a,.string b=>some (a == b)
    | some (.struct fs),.agg xs,.agg ys=>if P.stoodInHeld t = false then eqFs P (eqV P n) xs ys fs.toList else none
    | _,_,_=>none
theorem eqFs_run {P:Program} {g:TypeId → Value → Value → Option Bool} {d:Nat} {xs ys:Array Value} (hg:∀ t x y b,g t x y = some b → ∀ w,(Op.equalIn d t x y).run P w = .ok b w) :
    ∀ (fs:List Field) (b:Bool),eqFs P g xs ys fs = some b → ∀ w,(Op.eqFields d xs ys fs).run P w = .ok b w
  | [],b,h,w=>by
    simp only [eqFs,Option.some.injEq] at h
    subst h
    rfl
  | f :: fs,b,h,w=>by
    unfold eqFs at h
    split at h
    · rename_i hn
      split at h
      · rename_i a c ha hc
        split at h
        · rename_i r q hr hq
          simp only [Option.some.injEq] at h
          subst h
          unfold Op.eqFields
          rw [if_pos hn]
          simp only [Sem.run_bind,sval_run ha,sval_run hc,Result.andThen_ok,hg _ _ _ _ hr]
          cases r with
          | false=>simp [Sem.run]
          | true =>
            simp only [Bool.not_true,Bool.false_eq_true,if_false,Bool.true_and]
            exact eqFs_run hg fs q hq w
        cases h
      cases h
    cases h
theorem eqV_run {P:Program}:∀ (n:Nat) (t:TypeId) (x y:Value) (b:Bool),eqV P n t x y = some b → ∀ d,n ≤ d → ∀ w,(Op.equalIn d t x y).run P w = .ok b w:=by
  intro n
  induction n with
  | zero=>intro t x y b h; simp [eqV] at h
  | succ n ih =>
    intro t x y b h d hd w
    obtain ⟨d,rfl⟩:∃ e,d = e + 1:=⟨d - 1,by omega⟩
    unfold eqV at h
    split at h
    · rename_i ht
      simp only [Option.some.injEq] at h
      subst h
      exact run_equalIn_bool w d t _ _ ht
    · rename_i ht
      split at h
      · rename_i hk
        subst hk
        simp only [Option.some.injEq] at h
        subst h
        exact run_equalIn_int w d t _ _ _ _ ht
      cases h
    · rename_i ht
      simp only [Option.some.injEq] at h
      subst h
      rw [run_equalIn_string w d t _ _ ht,beq_toListBytes]
    · rename_i fs xs ys ht
      split at h
      · rename_i hp
        have hf:P.fieldsOf t = fs:=by simp [Program.fieldsOf,ht]
        rw [run_equalIn_struct w d t xs ys (by rw [hf]; exact ht) hp,hf]
        exact eqFs_run (fun t x y b h w=>ih t x y b h d (by omega) w) fs.toList b h w
      cases h
    cases h
theorem eqFs_self {P:Program} {g:TypeId → Value → Value → Option Bool} {xs:Array Value} (hg:∀ t x b,g t x x = some b → b = true):∀ (fs:List Field) (b:Bool),eqFs P g xs xs fs = some b → b = true
  | [],b,h=>by
    simp only [eqFs,Option.some.injEq] at h
    exact h.symm
  | f :: fs,b,h=>by
    unfold eqFs at h
    split at h
    · split at h
      · rename_i a c ha hc
        rw [ha] at hc
        cases hc
        split at h
        · rename_i r q hr hq
          simp only [Option.some.injEq] at h
          subst h
          rw [hg _ _ _ hr,eqFs_self hg fs q hq]
          rfl
        cases h
      cases h
    cases h
theorem eqV_self {P:Program}:∀ (n:Nat) (t:TypeId) (x:Value) (b:Bool),eqV P n t x x = some b → b = true:=by
  intro n
  induction n with
  | zero=>intro t x b h; simp [eqV] at h
  | succ n ih =>
    intro t x b h
    unfold eqV at h
    cases hu:P.underlying t with
    | none=>rw [hu] at h; cases h
    | some d =>
      rw [hu] at h
      cases d <;> cases x <;> first
        | (cases h; done)
        | (simp only [BEq.rfl,if_true,Option.some.injEq] at h; exact h.symm)
        | (rename_i q; have hq:(q == q) = true:=(by rw [beq_toListBytes]; exact beq_self_eq_true _); simp only [hq,Option.some.injEq] at h; exact h.symm)
        | (simp only at h
           split at h
           · exact eqFs_self (fun t x b h=>ih t x b h) _ b h
           cases h)
def eqSame (P:Program) (s:St) (o:Oper):Option (Bool × Prop) :=
  match o.op with
  | .binOp op t x y _=>match op,s.at x,s.at y with
    | .eql,.c (.agg xs),.c (.agg ys)=>if P.eqGuardType P.depth t = false ∧ (eqV P 12 t (.agg xs) (.agg ys)).isSome = true then some (true,Value.agg xs = .agg ys) else none
    | .neq,.c (.agg xs),.c (.agg ys)=>if P.eqGuardType P.depth t = false ∧ (eqV P 12 t (.agg xs) (.agg ys)).isSome = true then some (false,Value.agg xs = .agg ys) else none
    | _,_,_=>none
  | _=>none
def eqAgg (P:Program) (ρ:Operand → Value) (o:Oper):Option Value :=
  match o.op with
  | .binOp op t x y _=>match op,ρ x,ρ y with
    | .eql,.agg xs,.agg ys=>if P.eqGuardType P.depth t = false then (eqV P 12 t (.agg xs) (.agg ys)).map .bool else none
    | .neq,.agg xs,.agg ys=>if P.eqGuardType P.depth t = false then (eqV P 12 t (.agg xs) (.agg ys)).map fun b=>.bool (!b) else none
    | _,_,_=>none
  | _=>none
theorem eqAgg_run {P:Program} {ρ:Operand → Value} {o:Oper} {v:Value} (h:eqAgg P ρ o = some v):∀ w,(execOp ρ o).run P w = .ok (.value v) w:=by
  intro w
  unfold eqAgg at h
  split at h
  · rename_i op t x y yt hop
    split at h
    · rename_i xs ys hx hy
      split at h
      · rename_i hg
        cases he:eqV P 12 t (.agg xs) (.agg ys) with
        | none=>rw [he] at h; cases h
        | some b =>
          rw [he] at h
          simp only [Option.map_some,Option.some.injEq] at h
          subst h
          unfold execOp
          simp only [hop,hx,hy,Sem.run_bind,run_eqGuard_agg w _ t x y xs ys hg,Result.andThen_ok,run_eql_struct,eqV_run 12 t _ _ b he 10000 (by decide) w]
          rfl
      cases h
    · rename_i xs ys hx hy
      split at h
      · rename_i hg
        cases he:eqV P 12 t (.agg xs) (.agg ys) with
        | none=>rw [he] at h; cases h
        | some b =>
          rw [he] at h
          simp only [Option.map_some,Option.some.injEq] at h
          subst h
          unfold execOp
          simp only [hop,hx,hy,Sem.run_bind,run_eqGuard_agg w _ t x y xs ys hg,Result.andThen_ok,run_neq_struct,eqV_run 12 t _ _ b he 10000 (by decide) w]
          rfl
      cases h
    cases h
  cases h
def effPure (P:Program) (s:St) (o:Oper) (a:Option Ans):Option (Eff × List Ob) :=
  match o.op with
  | .select ..=>none
  | _ =>
    if o.op.operands.toList.all (fun x=>(s.at x).isC) then
      match a with
      | some (.fix v)=>some (.val (.c v),[.val (execOp s.rho o) v])
      | some _=>none
      | none=>match eqAgg P s.rho o with
        | some v=>some (.val (.c v),[])
        | none=>match sval P (execOp s.rho o) with
          | some (.value v)=>some (.val (.c v),[])
          | _=>none
    else none
def keeps (m m':Rows):Bool:=decide (m.length ≤ m'.length) && (List.range m.length).all fun i=>(row? m i).map (·.own) == (row? m' i).map (·.own)
def V.there (m:Rows) (v:V):Bool:=match v.id? with
  | some id=>(row? m id).isSome
  | none=>true
def callee? (P:Program) (f:FuncId):Bool :=
  match P.funcs[f]? with
  | some fn=>fn.name != "runtime.NumGoroutine" && fn.body.isSome
  | none=>false
def touch (s:St) (o:Oper):Option Nat:=match o.op with
  | .load _ x=>match s.at x with
    | .p id _=>some id
    | _=>none
  | .store _ x _=>match s.at x with
    | .p id _=>some id
    | _=>none
  | .convert _ _ x=>match s.at x with
    | .sl id _ _ _=>some id
    | _=>none
  | .call c=>match c.callee with
    | .value _=>match c.args.toList.map s.at with
      | [.sl id _ _ _]=>some id
      | _=>none
    | _=>none
  | _=>none
def eff0 (P:Program) (s:St) (o:Oper) (a:Option Ans):Option (Eff × List Ob) :=
  match o.op with
  | .move x=>if (s.at x).known then some (.val (s.at x),[]) else none
  | .assign x=>if (s.at x).known then some (.val (s.at x),[]) else none
  | .nilCheck x=>match s.at x with
    | .p i j=>some (.val (.p i j),[])
    | _=>effPure P s o a
  | .fieldAddr t x f=>match s.at x with
    | .p id off=>match P.underlying t with
      | some (.struct fields)=>match fields[f]? with
        | some fd=>match size? P fd.type with
          | some (_ + 1)=>some (.val (.p id (off + fd.offset)),[])
          | _=>none
        | none=>none
      | _=>none
    | _=>none
  | .indexAddr t x i=>match s.at x,s.at i with
    | .sl id off len _,.c (.int _ n)=>match P.underlying t with
      | some (.slice e)=>match size? P e with
        | some sz=>some (.val (.p id (off + n.toNat * sz)),[.prop (0 ≤ n ∧ n < len)])
        | none=>none
      | _=>none
    | _,_=>effPure P s o a
  | .load t x=>match s.at x with
    | .p id off=>match row? s.m id with
      | some r=>match agg? P t,size? P t,a with
        | some true,some n,none =>
          if ((r.cells.drop off).take n).length = n ∧ ((r.cells.drop off).take n).all V.isC = true then some (.val (.c (.agg (((r.cells.drop off).take n).map V.val).toArray)),[]) else none
        | some true,some n,some (.fix (.agg cs))=>some (.val (.c (.agg cs)),[.prop ((r.cells.drop off).take n = cs.toList.map .c ∧ cs.size = n)])
        | some false,_,none=>match r.cells[off]? with
          | some v=>some (.val v,[])
          | none=>none
        | some false,_,some (.fix v)=>some (.val (.c v),[.prop (r.cells[off]? = some (.c v))])
        | _,_,_=>none
      | none=>none
    | .c (.pointer (some ad))=>match a with
      | some (.fix v)=>some (.val (.c v),[.prop (∀ w,Laid w → (Instr.loadAt t (.pointer (some ad))).run P w = .ok v w)])
      | _=>none
    | _=>none
  | .store t x y=>match s.at x with
    | .p id off=>match row? s.m id,size? P t with
      | some r,some n =>
        if r.own = true ∧ (s.at y).cells.length = n ∧ (s.at y).cells.all one = true then
          match a with
          | none=>if off + (s.at y).cells.length ≤ r.cells.length then some (.put id off (s.at y).cells,[]) else none
          | some _=>some (.put id off (s.at y).cells,[.prop (off + (s.at y).cells.length ≤ r.cells.length)])
        else none
      | _,_=>none
    | _=>none
  | .alloc t=>match sval P (zeroValue t) with
    | some z=>some (.new (V.c z).cells t (fun id=>.p id 0),[])
    | none=>none
  | .box t x=>if (s.at x).known then some (.new (s.at x).cells t (fun id=>.p id 0),[]) else none
  | .makeSlice t x y=>match s.at x,s.at y with
    | .c (.int .i64 n),.c (.int .i64 c)=>match P.underlying t with
      | some (.slice e)=>match P.info? e with
        | some i=>match i.zero with
          | some z =>
            if i.size = 1 ∧ z.cells.size = 1 then
              some (.new (List.replicate c.toNat (.c (z.cells.getD 0 undef))) e (fun id=>.sl id 0 n.toNat c.toNat),[.prop (0 ≤ n ∧ n ≤ c ∧ i.bytes * c ≤ 281474976710656 ∧ c < 9223372036854775808)])
            else if i.size = z.cells.size ∧ 0 < i.size then
              some (.new (List.replicate c.toNat (z.cells.toList.map V.c)).flatten e (fun id=>.sl id 0 n.toNat c.toNat),[.prop (0 ≤ n ∧ n ≤ c ∧ i.bytes * c ≤ 281474976710656 ∧ c < 9223372036854775808)])
            else none
          | none=>none
        | none=>none
      | _=>none
    | _,_=>none
  | .slice t x lo hi none=>match s.at x with
    | .sl id off len cap=>match P.underlying t with
      | some (.slice e)=>match size? P e,(match lo with | none=>some (0:Int) | some l=>match s.at l with | .c (.int _ n)=>some n | _=>none),(match hi with | none=>some (len:Int) | some h=>match s.at h with | .c (.int _ n)=>some n | _=>none) with
        | some sz,some l,some h=>some (.val (.sl id (off + (if cap = l.toNat then 0 else l.toNat * sz)) (h.toNat - l.toNat) (cap - l.toNat)),[.prop (0 ≤ l ∧ l ≤ h ∧ h ≤ cap)])
        | _,_,_=>none
      | _=>none
    | _=>effPure P s o a
  | .convert t u x=>match s.at x with
    | .sl id off len _=>match row? s.m id,P.underlying t,P.underlying u,a with
      | some r,some (.slice e),some .string,some (.fix (.string str)) =>
        match P.underlying e with
        | some (.int .u8)=>some (.val (.c (.string str)),[.prop (∃ xs:List Int,str = strOfNums xs ∧ xs.length = len ∧ (r.cells.drop off).take len = xs.map fun n=>.c (.int .u8 n))])
        | _=>none
      | _,_,_,_=>none
    | _=>effPure P s o a
  | .call c=>match c.callee with
    | .value f=>match s.at f with
      | .c (.func (.func g) first captured) =>
        if callee? P g = true then
          match a with
          | some (.fix r)=>if c.args.toList.all (fun x=>(s.at x).isC) = true then some (.val (.c r),[.call g (first ++ c.args.map s.rho ++ captured) r]) else none
          | some (.read r)=>match c.args.toList.map s.at with
            | [.sl id off len cap]=>match row? s.m id with
              | some q=>if first = #[] ∧ captured = #[] ∧ q.cells.all V.isC = true then some (.val (.c r),[.fcall g [.sl 0 off len cap] [some ⟨false,q.cells⟩] (.c r) [some ⟨false,q.cells⟩]]) else none
              | none=>none
            | _=>none
          | some (.call r m') =>
            if first = #[] ∧ captured = #[] ∧ c.args.toList.all (fun x=>(s.at x).known) = true ∧ keeps s.m m' = true ∧ r.known = true ∧ r.there m' = true then some (.all m' r,[.fcall g (c.args.toList.map s.at) s.m r m']) else none
          | _=>none
        else effPure P s o a
      | _=>none
    | .builtin .len=>match c.args.toList.map s.at,(c.argTypes[0]?).bind P.underlying with
      | [.sl _ _ len _],some (.slice _)=>some (.val (.c (.int .i64 len)),[])
      | _,_=>effPure P s o a
    | _=>effPure P s o a
  | .buildSlice t len parts => if o.op.operands.toList.all (fun x => (s.at x).isC) then match sval P (litCells t len (parts.map fun (i, x) => (i, s.rho x))) with
      | some (e,cells)=>some (.new (cells.toList.map V.c) e (fun id=>.sl id 0 len len),[])
      | none=>none
    else none
  | _=>effPure P s o a
section
variable {P:Program} {β:Env} {s:St} {o:Oper} {ans:Option Ans} {e:Eff} {obs:List Ob} {w:World} {ρ:Operand → Value}
theorem up_congr {β β':Env} {m:Rows} {v:V} (h:v.lv m) (hb:∀ i,i < m.length → β' i = β i):v.up β' = v.up β:=by
  have key:∀ id,v.id? = some id → β' id = β id:=fun id hid=>by
    obtain ⟨r,hr⟩:=h id hid
    refine hb id ?_
    unfold row? at hr
    cases hm:m[id]? with
    | none=>rw [hm] at hr; cases hr
    | some x=>exact (List.getElem?_eq_some_iff.1 hm).1
  cases v with
  | any=>rfl
  | c v=>rfl
  | p id off=>simp only [V.up]; rw [key id rfl]
  | sl id off len cap=>simp only [V.up]; rw [key id rfl]
theorem row_lt {m:Rows} {id:Nat} {r:Row} (h:row? m id = some r):id < m.length:=by
  unfold row? at h
  cases hm:m[id]? with
  | none=>rw [hm] at h; cases h
  | some x=>exact (List.getElem?_eq_some_iff.1 hm).1
theorem cells_up (β:Env) (v:V) (hk:v.known = true):(v.up β).cells = (v.cells.map (V.up β)).toArray:=by
  cases v with
  | any=>cases hk
  | c v =>
    simp only [V.up,V.cells,List.map_map]
    have:(V.up β ∘ V.c) = id:=rfl
    rw [this,List.map_id]
  | p id off=>rfl
  | sl id off len cap=>rfl
theorem val_up {v:V} (h:v.isC = true) (β:Env):v.up β = v.val:=by
  cases v with
  | c v=>rfl
  | _=>simp [V.isC] at h
theorem known_of {v:V} (h:v.isC = true):v.known = true:=by
  cases v with
  | c v=>rfl
  | _=>simp [V.isC] at h
theorem sub_up {l:List V} (h:l.all V.isC = true):l.map (V.up β) = l.map V.val :=
  List.map_congr_left fun v hv=>val_up (List.all_eq_true.1 h v hv) β
theorem rho_of (hρ:∀ x ∈ o.op.operands,(s.at x).known = true → ρ x = (s.at x).up β) (hc:o.op.operands.toList.all (fun x=>(s.at x).isC) = true):∀ x ∈ o.op.operands,ρ x = s.rho x:=by
  intro x hx
  have h:=List.all_eq_true.1 hc x (Array.mem_toList_iff.2 hx)
  rw [hρ x hx (known_of h)]
  exact val_up h β
theorem effPure_sound (h:effPure P s o ans = some (e,obs)) (ho:Holds P obs):∃ v,e = .val (.c v) ∧
    ∀ ρ:Operand → Value,(∀ x ∈ o.op.operands,(s.at x).known = true → ρ x = (s.at x).up β) → ∀ w,(execOp ρ o).run P w = .ok (.value v) w:=by
  unfold effPure at h
  have hs:∀ cs b,o.op ≠ .select cs b:=by
    intro cs b hh
    rw [hh] at h
    simp at h
  have h2 : (if o.op.operands.toList.all (fun x => (s.at x).isC) then
      match ans with
      | some (.fix v)=>some (Eff.val (.c v),[Ob.val (execOp s.rho o) v])
      | some _=>none
      | none=>match eqAgg P s.rho o with
        | some v=>some (Eff.val (.c v),[])
        | none=>match sval P (execOp s.rho o) with
          | some (.value v)=>some (.val (.c v),[])
          | _=>none
    else none) = some (e,obs):=by
    revert h
    cases hh:o.op <;> first | exact fun h=>h | (exact absurd hh (hs _ _))
  clear h
  split at h2
  · rename_i hc
    split at h2
    · rename_i v
      simp only [Option.some.injEq,Prod.mk.injEq] at h2
      obtain ⟨rfl,rfl⟩:=h2
      refine ⟨v,rfl,fun ρ hρ w=>?_⟩
      rw [execOp_congr o hs (rho_of hρ hc)]
      exact sval_run ho.1 w
    · cases h2
    split at h2
    · rename_i v hv
      simp only [Option.some.injEq,Prod.mk.injEq] at h2
      obtain ⟨rfl,rfl⟩:=h2
      refine ⟨v,rfl,fun ρ hρ w=>?_⟩
      rw [execOp_congr o hs (rho_of hρ hc)]
      exact eqAgg_run hv w
    split at h2
    · rename_i v hv
      simp only [Option.some.injEq,Prod.mk.injEq] at h2
      obtain ⟨rfl,rfl⟩:=h2
      refine ⟨v,rfl,fun ρ hρ w=>?_⟩
      rw [execOp_congr o hs (rho_of hρ hc)]
      exact sval_run hv w
    cases h2
  cases h2
theorem add_at (b off i:Nat):(⟨b,off,none⟩:Addr).add i = ⟨b,off + i,none⟩:=Addr.add_lit b off i
def Win (β:Env) (w:World) (x:Nat × Nat) (cells:List V):Prop:=∃ (arr:Array Value) (e:TypeId),w.heap[x.1]? = some (.cells arr e (0,0)) ∧ ∀ k v,cells[k]? = some v → arr[x.2 + k]? = some (v.up β)
theorem blk_win {x:Nat × Nat} {r:Row} (h:Blk β w x r) (ho:r.own = true):Win β w x r.cells:=by
  obtain ⟨_,hc,ha⟩:=h
  obtain ⟨arr,e,he⟩:=ha ho
  refine ⟨arr,e,he,fun k v hk=>?_⟩
  have:=hc k v hk
  simpa [World.cell?,he] using this
theorem win_blk {x:Nat × Nat} {cells:List V} (h:Win β w x cells) (b:Bool):Blk β w x ⟨b,cells⟩:=by
  obtain ⟨arr,e,he,hc⟩:=h
  refine ⟨(Array.getElem?_eq_some_iff.1 he).1,fun k v hk=>?_,fun _=>⟨arr,e,he⟩⟩
  simpa [World.cell?,he] using hc k v hk
theorem win_frozen {x:Nat × Nat} {cells:List V} (h:Win β w x cells) (k:Nat):w.frozen? ⟨x.1,k,none⟩ = false:=by
  obtain ⟨arr,e,he,_⟩:=h
  simp [World.frozen?,he]
theorem win_cell {x:Nat × Nat} {cells:List V} {k:Nat} {v:V} (h:Win β w x cells) (hk:cells[k]? = some v):w.cell? ⟨x.1,x.2 + k,none⟩ = some (v.up β):=by
  obtain ⟨arr,e,he,hc⟩:=h
  simpa [World.cell?,he] using hc k v hk
theorem win_set {x:Nat × Nat} {cells:List V} {k:Nat} {v:V} (h:Win β w x cells) (hk:k < cells.length):Win β (w.setCell ⟨x.1,x.2 + k,none⟩ (v.up β)) x (cells.set k v):=by
  obtain ⟨arr,e,he,hc⟩:=h
  refine ⟨arr.setIfInBounds (x.2 + k) (v.up β),e,?_,fun j u hj=>?_⟩
  · simp only [World.setCell,Array.getElem?_modify,if_true,he,Option.map_some,Option.isSome_none,Bool.false_eq_true,if_false]
  by_cases hjk:j = k
  · subst hjk
    rw [List.getElem?_set_self hk] at hj
    cases hj
    have h1:=hc j _ (List.getElem?_eq_getElem hk)
    have h2:=(Array.getElem?_eq_some_iff.1 h1).1
    rw [Array.getElem?_setIfInBounds_self_of_lt h2]
  rw [List.getElem?_set_ne (Ne.symm hjk)] at hj
  rw [Array.getElem?_setIfInBounds_ne (by omega)]
  exact hc j u hj
structure Only (b:Nat) (w w':World):Prop where
  os:w'.os = w.os
  tape:w'.tape = w.tape
  output:w'.output = w.output
  size:w'.heap.size = w.heap.size
  block:∀ k,k ≠ b → w'.heap[k]? = w.heap[k]?
theorem Only.refl (b:Nat) (w:World):Only b w w:=⟨rfl,rfl,rfl,rfl,fun _ _=>rfl⟩
theorem Only.trans {b:Nat} {x y z:World} (h:Only b x y) (k:Only b y z):Only b x z :=
  ⟨k.os.trans h.os,k.tape.trans h.tape,k.output.trans h.output,k.size.trans h.size,fun i hi=>(k.block i hi).trans (h.block i hi)⟩
theorem Only.fr {b:Nat} {w w':World} (h:Only b w w'):Fr (fun k=>k = b) w w':=⟨h.os,h.tape,h.output,by rw [h.size]; exact Nat.le_refl _,fun k _ hk=>h.block k hk⟩
theorem only_setCell (w:World) (b k:Nat) (v:Value):Only b w (w.setCell ⟨b,k,none⟩ v):=by
  refine ⟨rfl,rfl,rfl,by simp [World.setCell],fun i hi=>?_⟩
  simp only [World.setCell,Array.getElem?_modify]
  rw [if_neg (Ne.symm hi)]
theorem one_up {v:V} (h:one v = true):(∀ c,v.up β ≠ .agg c) ∧ (∀ c,v.up β ≠ .tuple c):=by
  cases v with
  | any=>cases h
  | c v=>cases v <;> simp [one,V.up] at h ⊢
  | p i j=>simp [V.up]
  | sl i j k l=>simp [V.up]
theorem run_store1 {a:Addr} {v u:Value} (h1:∀ c,v ≠ .agg c) (h2:∀ c,v ≠ .tuple c) (hc:w.cell? a = some u) (hf:w.frozen? a = false) :
    (Go.store a v).run P w = .ok () (w.setCell a v):=by
  unfold Go.store
  cases v <;> first
    | (exact absurd rfl (h1 _))
    | (exact absurd rfl (h2 _))
    | (simp only [Sem.run,hc,hf]; rfl)
theorem run_storeCells {x:Nat × Nat} {off:Nat}:∀ (vs:List V) (i:Nat) (w:World) (cells:List V),Win β w x cells → vs.all one = true → off + i + vs.length ≤ cells.length →
    ∃ w',(storeCells ⟨x.1,x.2 + off,none⟩ (vs.map (V.up β)) i).run P w = .ok () w' ∧ Win β w' x (splice cells (off + i) vs) ∧ Only x.1 w w'
  | [],i,w,cells,hb,_,_=>⟨w,rfl,hb,.refl _ _⟩
  | v :: r,i,w,cells,hb,ho,hl=>by
    rw [List.all_cons,Bool.and_eq_true] at ho
    simp only [List.length_cons] at hl
    obtain ⟨h1,h2⟩:=one_up (β:=β) ho.1
    have hk:off + i < cells.length:=by omega
    have hc:=win_cell hb (List.getElem?_eq_getElem hk)
    have hs:=run_store1 (P:=P) (a:=⟨x.1,x.2 + (off + i),none⟩) h1 h2 hc (win_frozen hb _)
    obtain ⟨w',hr,hb',hon⟩:=run_storeCells (off:=off) r (i + 1) (w.setCell ⟨x.1,x.2 + (off + i),none⟩ (v.up β)) (cells.set (off + i) v) (win_set hb hk) ho.2 (by simp only [List.length_set]; omega)
    refine ⟨w',?_,?_,(only_setCell _ _ _ _).trans hon⟩
    · simp only [List.map_cons,storeCells,Sem.run_bind,add_at,Nat.add_assoc,hs,Result.andThen_ok]
      exact hr
    simpa [splice,Nat.add_assoc] using hb'
theorem size_run {t n:Nat} (h:size? P t = some n):∀ w,(sizeOf t).run P w = .ok n w:=by
  intro w
  unfold size? at h
  cases hi:P.info? t with
  | none=>rw [hi] at h; cases h
  | some i =>
    rw [hi] at h
    simp only [Option.map_some,Option.some.injEq] at h
    simp [sizeOf,typeInfo,program,hi,h,Sem.run]
theorem eff_put_sound {id off:Nat} {vs:List V} (h:eff0 P s o ans = some (.put id off vs,obs)) (ho:Holds P obs):(∀ cs b,o.op ≠ .select cs b) ∧ ∃ r t x y,row? s.m id = some r ∧ r.own = true ∧ o.op = .store t x y ∧ s.at x = .p id off ∧ vs = (s.at y).cells ∧ (s.at y).known = true ∧ off + vs.length ≤ r.cells.length ∧
    ((∀ x ∈ o.op.operands,(s.at x).known = true → ρ x = (s.at x).up β) → Win β w (β id) r.cells → ∃ w',(execOp ρ o).run P w = .ok .skip w' ∧ Win β w' (β id) (splice r.cells off vs) ∧ Only (β id).1 w w'):=by
  have fin : ∀ t x y id off r n, o.op = .store t x y → s.at x = .p id off → row? s.m id = some r → size? P t = some n → (r.own = true ∧ (s.at y).cells.length = n ∧ (s.at y).cells.all one = true) → off + (s.at y).cells.length ≤ r.cells.length →
      (∀ cs b,o.op ≠ .select cs b) ∧ ∃ r t x y',row? s.m id = some r ∧ r.own = true ∧ o.op = .store t x y' ∧ s.at x = .p id off ∧ (s.at y).cells = (s.at y').cells ∧ (s.at y').known = true ∧ off + (s.at y).cells.length ≤ r.cells.length ∧
      ((∀ x ∈ o.op.operands,(s.at x).known = true → ρ x = (s.at x).up β) → Win β w (β id) r.cells → ∃ w',(execOp ρ o).run P w = .ok .skip w' ∧ Win β w' (β id) (splice r.cells off (s.at y).cells) ∧ Only (β id).1 w w'):=by
    intro t x y id off r n hop hx hm hz hc hlen
    have hky:(s.at y).known = true:=by
      cases hy:s.at y with
      | any=>rw [hy] at hc; simp [V.cells,one] at hc
      | _=>rfl
    refine ⟨(by rw [hop]; intro cs b hh; cases hh),r,t,x,y,hm,hc.1,hop,hx,rfl,hky,hlen,fun hρ hb=>?_⟩
    obtain ⟨w',hr,hb',hon⟩:=run_storeCells (P:=P) (β:=β) (off:=off) (s.at y).cells 0 w r.cells hb hc.2.2 (by simpa using hlen)
    refine ⟨w',?_,by simpa using hb',hon⟩
    have h1:ρ x = .pointer (some ⟨(β id).1,(β id).2 + off,none⟩):=by rw [hρ x (by rw [hop]; simp [Op.operands]) (by rw [hx]; rfl),hx]; rfl
    have h2:=hρ y (by rw [hop]; simp [Op.operands]) hky
    have h3:((s.at y).up β).cells.size = n:=by rw [cells_up β _ hky]; simpa using hc.2.1
    have h4:((s.at y).up β).cells.toList = (s.at y).cells.map (V.up β):=by rw [cells_up β _ hky]
    simp [execOp,hop,Instr.storeAt,h1,h2,Instr.sureAddr,storeVar,size_run hz,h3,h4,hr]
  unfold eff0 at h
  split at h
  case h_7 t x y hop =>
    split at h
    · rename_i id' off' hx
      split at h
      · rename_i r n hm hz
        split at h
        · rename_i hc
          split at h
          · split at h
            · rename_i hl
              cases h
              exact fin t x y _ _ r n hop hx hm hz hc hl
            cases h
          cases h
          exact fin t x y _ _ r n hop hx hm hz hc ho.1
        cases h
      cases h
    cases h
  all_goals exfalso
  all_goals (repeat' (split at h))
  all_goals first
    | (obtain ⟨v,hv,_⟩:=effPure_sound (β:=β) h ho; cases hv; done)
    | (simp at h; done)
    | (cases h; done)
end
section
variable {P:Program} {β:Env} {s:St} {o:Oper} {ans:Option Ans} {e:Eff} {obs:List Ob} {w:World} {ρ:Operand → Value}
theorem range_one (z:Value) (n:Nat):((Array.range n).map fun i=>(#[z]:Array Value)[i % (#[z]:Array Value).size]!) = (List.replicate n z).toArray:=by
  apply Array.ext
  · simp
  intro i h1 h2
  have hm:i % 1 = 0:=Nat.mod_one i
  simp [hm]
theorem range_many (z:Array Value) (hz:0 < z.size):∀ n:Nat,((Array.range (n * z.size)).map fun i=>z[i % z.size]!) = ((List.replicate n z.toList).flatten).toArray:=by
  intro n
  apply Array.ext
  · simp
  intro i h1 h2
  simp only [Array.size_map,Array.size_range] at h1
  simp only [Array.getElem_map,Array.getElem_range,List.getElem_toArray]
  have hm:=Nat.mod_lt i hz
  have key:∀ (n i:Nat) (h:i < (List.replicate n z.toList).flatten.length),(List.replicate n z.toList).flatten[i] = z[i % z.size]'(Nat.mod_lt i hz):=by
    intro n
    induction n with
    | zero=>intro i h; simp at h
    | succ n ih =>
      intro i h
      simp only [List.replicate_succ,List.flatten_cons] at h ⊢
      rw [List.getElem_append]
      split
      · rename_i hi
        have hi':i < z.size:=by simpa using hi
        simp only [Array.getElem_toList,Nat.mod_eq_of_lt hi']
      rename_i hi
      have hi':z.size ≤ i:=by simpa using hi
      rw [ih]
      congr 1
      simp only [Array.length_toList]
      exact (Nat.mod_eq_sub_mod hi').symm
  rw [key n i (by simpa using h2)]
  exact getElem!_pos z _ hm
theorem eff_new_sound {cells:List V} {t:TypeId} {rf:Nat → V} (h:eff0 P s o ans = some (.new cells t rf,obs)) (ho:Holds P obs) (hρ:∀ x ∈ o.op.operands,(s.at x).known = true → ρ x = (s.at x).up β) :
    (∀ cs b,o.op ≠ .select cs b) ∧ (∀ β':Env,∀ n,β' n = (w.heap.size,0) → (execOp ρ o).run P w = .ok (.value ((rf n).up β')) (w.alloc (.cells (cells.map (V.up β)).toArray t (0,0)))) ∧
    (∀ n,(rf n).id? = some n ∧ (rf n).known = true) ∧ (∀ v ∈ cells,v.known = true) ∧
    ∀ m,(∀ x ∈ o.op.operands,(s.at x).lv m) → ∀ v:V,v ∈ cells → v.lv m:=by
  have lvc:∀ (u:Value) (m:Rows),(V.c u).lv m:=fun u m id hid=>by cases hid
  unfold eff0 at h
  split at h
  case h_8 t' hop =>
    split at h
    · rename_i z hz
      cases h
      refine ⟨(by rw [hop]; intro cs b hh; cases hh),fun β' n hβ=>?_,fun n=>⟨rfl,rfl⟩,?_,?_⟩
      · simp [execOp,hop,Instr.alloc,sval_run hz,newVar,newRow,V.up,hβ]
        rw [← cells_up β (V.c z) rfl]
        rfl
      · intro v hv
        simp only [V.cells,List.mem_map] at hv
        obtain ⟨u,_,rfl⟩:=hv
        rfl
      intro m _ v hv
      simp only [V.cells,List.mem_map] at hv
      obtain ⟨u,_,rfl⟩:=hv
      exact lvc u m
    cases h
  case h_9 t' x hop =>
    split at h
    · rename_i hk
      cases h
      refine ⟨(by rw [hop]; intro cs b hh; cases hh),fun β' n hβ=>?_,fun n=>⟨rfl,rfl⟩,?_,?_⟩
      · have h1:=hρ x (by rw [hop]; simp [Op.operands]) hk
        have h2:(V.p n 0).up β' = .pointer (some ⟨w.heap.size,0,none⟩):=by simp [V.up,hβ]
        simp [execOp,hop,Instr.box,h1,newVar,newRow,cells_up β _ hk,h2]
      · intro v hv
        cases hx:s.at x with
        | any=>rw [hx] at hk; cases hk
        | c u =>
          rw [hx] at hv
          simp only [V.cells,List.mem_map] at hv
          obtain ⟨u,_,rfl⟩:=hv
          rfl
        | p i j=>rw [hx] at hv; simp only [V.cells,List.mem_singleton] at hv; rw [hv]; rfl
        | sl i j k l=>rw [hx] at hv; simp only [V.cells,List.mem_singleton] at hv; rw [hv]; rfl
      intro m hm v hv
      have h1:=hm x (by rw [hop]; simp [Op.operands])
      cases hx:s.at x with
      | any=>rw [hx] at hk; cases hk
      | c u =>
        rw [hx] at hv
        simp only [V.cells,List.mem_map] at hv
        obtain ⟨u,_,rfl⟩:=hv
        exact lvc u m
      | p i j=>rw [hx] at hv h1; simp only [V.cells,List.mem_singleton] at hv; rw [hv]; exact h1
      | sl i j k l=>rw [hx] at hv h1; simp only [V.cells,List.mem_singleton] at hv; rw [hv]; exact h1
    cases h
  case h_10 t' x y hop =>
    split at h
    · rename_i n c hx hy
      split at h
      · rename_i e' hu
        split at h
        · rename_i i hi
          split at h
          · rename_i z hz
            split at h
            · rename_i hsz
              cases h
              obtain ⟨hp,_⟩:=ho
              obtain ⟨h0,hnc,hb,hcb⟩:=hp
              refine ⟨(by rw [hop]; intro cs b hh; cases hh),fun β' k hβ=>?_,fun n=>⟨rfl,rfl⟩,?_,?_⟩
              · have h1:ρ x = .int .i64 n:=by rw [hρ x (by rw [hop]; simp [Op.operands]) (by rw [hx]; rfl),hx]; rfl
                have h2:ρ y = .int .i64 c:=by rw [hρ y (by rw [hop]; simp [Op.operands]) (by rw [hy]; rfl),hy]; rfl
                obtain ⟨zv,hzv⟩:∃ zv,z.cells = #[zv]:=by
                  obtain ⟨a,ha⟩:=List.length_eq_one_iff.1 (show z.cells.toList.length = 1 by simpa using hsz.2)
                  exact ⟨a,by rw [← Array.toList_inj]; simpa using ha⟩
                have hcells:(((List.replicate c.toNat (V.c (z.cells.getD 0 undef))).map (V.up β)).toArray) = madeCells z.cells (c.toNat * i.size):=by
                  rw [hsz.1,Nat.mul_one,hzv]
                  unfold madeCells
                  rw [range_one]
                  simp [V.up]
                have hr:=run_make (P:=P) w t' t i z hu hi hz .i64 .i64 n c h0 hnc hb (by omega)
                rw [hcells]
                simp [execOp,hop,h1,h2,hr,V.up,hβ]
              · intro v hv
                rw [List.eq_of_mem_replicate hv]; rfl
              intro m _ v hv
              rw [List.eq_of_mem_replicate hv]
              exact lvc _ m
            split at h
            · rename_i hsz
              cases h
              obtain ⟨hp,_⟩:=ho
              obtain ⟨h0,hnc,hb,hcb⟩:=hp
              have hmem:∀ v:V,v ∈ (List.replicate c.toNat (z.cells.toList.map V.c)).flatten → ∃ u,v = V.c u:=fun v hv=>by
                obtain ⟨l,hl,hv⟩:=List.mem_flatten.1 hv
                rw [List.eq_of_mem_replicate hl] at hv
                obtain ⟨u,_,rfl⟩:=List.mem_map.1 hv
                exact ⟨u,rfl⟩
              refine ⟨(by rw [hop]; intro cs b hh; cases hh),fun β' k hβ=>?_,fun n=>⟨rfl,rfl⟩,?_,?_⟩
              · have h1:ρ x = .int .i64 n:=by rw [hρ x (by rw [hop]; simp [Op.operands]) (by rw [hx]; rfl),hx]; rfl
                have h2:ρ y = .int .i64 c:=by rw [hρ y (by rw [hop]; simp [Op.operands]) (by rw [hy]; rfl),hy]; rfl
                have hcells:(((List.replicate c.toNat (z.cells.toList.map V.c)).flatten.map (V.up β)).toArray) = madeCells z.cells (c.toNat * i.size):=by
                  unfold madeCells
                  rw [hsz.1,range_many z.cells (by omega)]
                  congr 1
                  rw [List.map_flatten,List.map_replicate,List.map_map]
                  have:(V.up β ∘ V.c) = id:=rfl
                  rw [this,List.map_id]
                have hr:=run_make (P:=P) w t' t i z hu hi hz .i64 .i64 n c h0 hnc hb (by omega)
                rw [hcells]
                simp [execOp,hop,h1,h2,hr,V.up,hβ]
              · intro v hv
                obtain ⟨u,rfl⟩:=hmem v hv
                rfl
              intro m _ v hv
              obtain ⟨u,rfl⟩:=hmem v hv
              exact lvc _ m
            cases h
          cases h
        cases h
      cases h
    cases h
  case h_14 t' len parts hop =>
    split at h
    · rename_i hc
      split at h
      · rename_i e' cs hz
        cases h
        refine ⟨(by rw [hop]; intro cs b hh; cases hh),fun β' k hβ=>?_,fun n=>⟨rfl,rfl⟩,?_,?_⟩
        · have hr:=rho_of hρ hc
          have hp:(parts.map fun (i,x)=>(i,ρ x)) = parts.map fun (i,x)=>(i,s.rho x):=by
            apply Array.map_congr_left
            rintro ⟨i,x⟩ hx
            simp only
            rw [hr x (by rw [hop]; simp only [Op.operands,List.mem_toArray,List.mem_map]; exact ⟨(i,x),Array.mem_toList_iff.2 hx,rfl⟩)]
          have hc2:((cs.toList.map V.c).map (V.up β)).toArray = cs:=by
            rw [List.map_map]
            have:(V.up β ∘ V.c) = id:=rfl
            rw [this,List.map_id]
          rw [hc2]
          unfold execOp
          simp only [hop,hp,Sem.run_bind,buildSlice_run hz,Result.andThen_ok]
          simp [V.up,hβ,Sem.run]
        · intro v hv
          obtain ⟨u,_,rfl⟩:=List.mem_map.1 hv
          rfl
        intro m _ v hv
        obtain ⟨u,_,rfl⟩:=List.mem_map.1 hv
        exact lvc u m
      cases h
    cases h
  all_goals exfalso
  all_goals (repeat' (split at h))
  all_goals first
    | (obtain ⟨v,hv,_⟩:=effPure_sound (β:=β) h ho; cases hv; done)
    | (simp at h; done)
    | (cases h; done)
end
section
variable {P:Program} {β:Env} {s:St} {o:Oper} {ans:Option Ans} {e:Eff} {obs:List Ob} {w:World} {ρ:Operand → Value}
theorem lv_c (v:Value) (m:Rows):(V.c v).lv m:=fun _ h=>by cases h
theorem bound_ok {x:Int} {y:Nat} {k:IntKind} {code:BoundsCode} (h:0 ≤ x ∧ x ≤ y):(Instr.sliceBound (.int k x) y code).run P w = .ok x.toNat w:=by
  simp [Instr.sliceBound,asIntOf,h]
theorem eff_val_sound {v:V} (hlaid:Laid w) (h:eff0 P s o ans = some (.val v,obs)) (ho:Holds P obs) (hρ:∀ x ∈ o.op.operands,(s.at x).known = true → ρ x = (s.at x).up β)
    (hm:∀ id r,row? s.m id = some r → touch s o = some id → Blk β w (β id) r) :
    (∀ cs b,o.op ≠ .select cs b) ∧ ((execOp ρ o).run P w = .ok (.value (v.up β)) w ∨ ∃ f args r,v = .c r ∧ (Calls P f args w fun e w'=>e = .returned r ∧ Below w.heap.size w w') ∧ (execOp ρ o).run P w = .ok (.enter f args) w) ∧
    (∀ m,(∀ x ∈ o.op.operands,(s.at x).lv m) → (∀ id r,row? s.m id = some r → touch s o = some id → ∀ v:V,v ∈ r.cells → v.lv m) → v.lv m) ∧
    ((∀ id r,row? s.m id = some r → ∀ v:V,v ∈ r.cells → v.known = true) → v.known = true):=by
  have pure_case:effPure P s o ans = some (.val v,obs) → (∀ cs b,o.op ≠ .select cs b) → (∀ cs b,o.op ≠ .select cs b) ∧ ((execOp ρ o).run P w = .ok (.value (v.up β)) w ∨ ∃ f args r,v = .c r ∧ (Calls P f args w fun e w'=>e = .returned r ∧ Below w.heap.size w w') ∧ (execOp ρ o).run P w = .ok (.enter f args) w) ∧
    (∀ m,(∀ x ∈ o.op.operands,(s.at x).lv m) → (∀ id r,row? s.m id = some r → touch s o = some id → ∀ v:V,v ∈ r.cells → v.lv m) → v.lv m) ∧
    ((∀ id r,row? s.m id = some r → ∀ v:V,v ∈ r.cells → v.known = true) → v.known = true):=by
    intro h hs
    obtain ⟨u,hu,hr⟩:=effPure_sound (β:=β) h ho
    cases hu
    exact ⟨hs,.inl (hr ρ hρ w),fun _ _ _=>lv_c _ _,fun _=>rfl⟩
  unfold eff0 at h
  split at h
  case h_1 x hop =>
    split at h
    · rename_i hk
      cases h
      have h1:=hρ x (by rw [hop]; simp [Op.operands]) hk
      exact ⟨(by rw [hop]; intro cs b hh; cases hh),.inl (by simp [execOp,hop,h1]),fun m hn _=>hn x (by rw [hop]; simp [Op.operands]),fun _=>hk⟩
    cases h
  case h_2 x hop =>
    split at h
    · rename_i hk
      cases h
      have h1:=hρ x (by rw [hop]; simp [Op.operands]) hk
      exact ⟨(by rw [hop]; intro cs b hh; cases hh),.inl (by simp [execOp,hop,h1]),fun m hn _=>hn x (by rw [hop]; simp [Op.operands]),fun _=>hk⟩
    cases h
  case h_3 x hop =>
    split at h
    · rename_i i j hx
      cases h
      have h1:ρ x = (V.p i j).up β:=by rw [hρ x (by rw [hop]; simp [Op.operands]) (by rw [hx]; rfl),hx]
      refine ⟨(by rw [hop]; intro cs b hh; cases hh),.inl (by simp [execOp,hop,h1,V.up]),fun m hn _=>by have:=hn x (by rw [hop]; simp [Op.operands]); rw [hx] at this; exact this,fun _=>rfl⟩
    exact pure_case h (by rw [hop]; intro cs b hh; cases hh)
  case h_4 t x f hop =>
    split at h
    · rename_i id off hx
      split at h
      · rename_i fields hu
        split at h
        · rename_i fd hf
          split at h
          · rename_i k hk
            cases h
            have h1:ρ x = (V.p id off).up β:=by rw [hρ x (by rw [hop]; simp [Op.operands]) (by rw [hx]; rfl),hx]
            refine ⟨(by rw [hop]; intro cs b hh; cases hh),.inl ?_,fun m hn _=>by have:=hn x (by rw [hop]; simp [Op.operands]); rw [hx] at this; exact this,fun _=>rfl⟩
            simp [execOp,hop,h1,V.up,Instr.fieldAt,underlying,program,Sem.run,hu,hf,Instr.sureAddr,fieldPlace,size_run hk,add_at,Nat.add_assoc]
          cases h
        cases h
      cases h
    cases h
  case h_5 t x i hop =>
    split at h
    · rename_i id off len cap k n hx hi
      split at h
      · rename_i e' hu
        split at h
        · rename_i sz hz
          cases h
          have hn:0 ≤ n ∧ n < (len:Int):=ho.1
          have h1:ρ x = .slice (some ⟨(β id).1,(β id).2 + off,none⟩) len cap:=by rw [hρ x (by rw [hop]; simp [Op.operands]) (by rw [hx]; rfl),hx]; rfl
          have h2:ρ i = .int k n:=by rw [hρ i (by rw [hop]; simp [Op.operands]) (by rw [hi]; rfl),hi]; rfl
          refine ⟨(by rw [hop]; intro cs b hh; cases hh),.inl ?_,fun m hn _=>by have:=hn x (by rw [hop]; simp [Op.operands]); rw [hx] at this; exact this,fun _=>rfl⟩
          have hu':∀ w,(underlying t).run P w = .ok (.slice e') w:=fun w=>by simp [underlying,program,Sem.run,hu]
          simp [execOp,hop,h1,h2,V.up,Instr.indexAt,asIntOf,hu',hn,size_run hz,add_at,Nat.add_assoc]
        cases h
      cases h
    exact pure_case h (by rw [hop]; intro cs b hh; cases hh)
  case h_6 t x hop =>
    split at h
    · rename_i id off hx
      split at h
      · rename_i r hc
        have hb:=hm id r hc (by simp [touch,hop,hx])
        have h1:ρ x = .pointer (some ⟨(β id).1,(β id).2 + off,none⟩):=by rw [hρ x (by rw [hop]; simp [Op.operands]) (by rw [hx]; rfl),hx]; rfl
        have cellof:∀ k v,r.cells[k]? = some v → w.cell? ⟨(β id).1,(β id).2 + k,none⟩ = some (v.up β):=hb.2.1
        have aggc:∀ n,agg? P t = some true → size? P t = some n → ((r.cells.drop off).take n).length = n → (execOp ρ o).run P w = .ok (.value (.agg (((r.cells.drop off).take n).map (V.up β)).toArray)) w:=by
          intro n ha hz hq
          have hl:=run_loadCells_list (P:=P) w ⟨(β id).1,(β id).2 + off,none⟩ (((r.cells.drop off).take n).map (V.up β)) (fun j v hv=>by
            rw [add_at]
            rw [List.getElem?_map,Option.map_eq_some_iff] at hv
            obtain ⟨u,hu,rfl⟩:=hv
            rw [Nat.add_assoc]
            refine cellof _ _ ?_
            rw [List.getElem?_take] at hu
            split at hu
            · rw [List.getElem?_drop] at hu; exact hu
            cases hu)
          rw [List.length_map,hq] at hl
          simp [execOp,hop,Instr.loadAt,h1,Instr.sureAddr,loadVar,sval_run ha,size_run hz,hl]
        have cellc:∀ v,agg? P t = some false → r.cells[off]? = some v → (execOp ρ o).run P w = .ok (.value (v.up β)) w:=by
          intro v ha hv
          have hcell:=cellof _ _ hv
          simp [execOp,hop,Instr.loadAt,h1,Instr.sureAddr,loadVar,sval_run ha,hcell]
        split at h
        · rename_i n ha hz
          split at h
          · rename_i hq
            cases h
            refine ⟨(by rw [hop]; intro cs b hh; cases hh),.inl ?_,fun _ _ _=>lv_c _ _,fun _=>rfl⟩
            rw [aggc n ha hz hq.1,sub_up hq.2]; rfl
          cases h
        · rename_i n cs ha hz
          cases h
          obtain ⟨⟨hp,hs⟩,_⟩:=ho
          refine ⟨(by rw [hop]; intro cs b hh; cases hh),.inl ?_,fun _ _ _=>lv_c _ _,fun _=>rfl⟩
          rw [aggc n ha hz (by rw [hp]; simpa using hs),hp]
          simp [V.up,Function.comp_def]
        · rename_i ha
          split at h
          · rename_i v' hv
            cases h
            exact ⟨(by rw [hop]; intro cs b hh; cases hh),.inl (cellc v ha hv),fun m _ hn=>hn id r hc (by simp [touch,hop,hx]) _ (List.mem_of_getElem? hv),fun hk=>hk id r hc _ (List.mem_of_getElem? hv)⟩
          cases h
        · rename_i u ha
          cases h
          exact ⟨(by rw [hop]; intro cs b hh; cases hh),.inl (cellc _ ha ho.1),fun _ _ _=>lv_c _ _,fun _=>rfl⟩
        cases h
      cases h
    · rename_i ad hx
      split at h
      · rename_i u
        cases h
        have h1:ρ x = .pointer (some ad):=by rw [hρ x (by rw [hop]; simp [Op.operands]) (by rw [hx]; rfl),hx]; rfl
        have h2:=ho.1 w hlaid
        exact ⟨(by rw [hop]; intro cs b hh; cases hh),.inl (by simp [execOp,hop,h1,h2,V.up]),fun _ _ _=>lv_c _ _,fun _=>rfl⟩
      cases h
    cases h
  case h_11 t x lo hi hop =>
    split at h
    · rename_i id off len cap hx
      split at h
      · rename_i e' hu
        split at h
        · rename_i sz l hh hz hl hhi
          cases h
          obtain ⟨⟨h0,hlh,hhc⟩,_⟩:=ho
          have h1:ρ x = .slice (some ⟨(β id).1,(β id).2 + off,none⟩) len cap:=by rw [hρ x (by rw [hop]; simp [Op.operands]) (by rw [hx]; rfl),hx]; rfl
          refine ⟨(by rw [hop]; intro cs b hh; cases hh),.inl ?_,fun m hn _=>by have:=hn x (by rw [hop]; simp [Op.operands]); rw [hx] at this; exact this,fun _=>rfl⟩
          have hu':∀ w,(underlying t).run P w = .ok (.slice e') w:=fun w=>by simp [underlying,program,Sem.run,hu]
          have hlo:(∃ y k,lo = some y ∧ ρ y = .int k l) ∨ (lo = none ∧ l = 0):=by
            cases lo with
            | none=>simp only [Option.some.injEq] at hl; exact .inr ⟨rfl,hl.symm⟩
            | some y =>
              simp only at hl
              split at hl
              · rename_i k n hy
                simp only [Option.some.injEq] at hl
                subst hl
                exact .inl ⟨y,k,rfl,by rw [hρ y (by rw [hop]; simp [Op.operands]) (by rw [hy]; rfl),hy]; rfl⟩
              cases hl
          have hho:(∃ y k,hi = some y ∧ ρ y = .int k hh) ∨ (hi = none ∧ hh = len):=by
            cases hi with
            | none=>simp only [Option.some.injEq] at hhi; exact .inr ⟨rfl,hhi.symm⟩
            | some y =>
              simp only at hhi
              split at hhi
              · rename_i k n hy
                simp only [Option.some.injEq] at hhi
                subst hhi
                exact .inl ⟨y,k,rfl,by rw [hρ y (by rw [hop]; simp [Op.operands]) (by rw [hy]; rfl),hy]; rfl⟩
              cases hhi
          have hb:(Instr.sliceBounds true len cap (lo.map ρ) (hi.map ρ) none).run P w = .ok (l.toNat,hh.toNat,cap) w:=by
            have b1:∀ k code,(Instr.sliceBound (.int k hh) cap code).run P w = .ok hh.toNat w:=fun k code=>bound_ok ⟨by omega,hhc⟩
            have b2:∀ k code,(Instr.sliceBound (.int k l) hh.toNat code).run P w = .ok l.toNat w:=fun k code=>bound_ok ⟨h0,by omega⟩
            rcases hlo with ⟨y,k,rfl,hy⟩ | ⟨rfl,rfl⟩ <;> rcases hho with ⟨y',k',rfl,hy'⟩ | ⟨rfl,rfl⟩
            · simp [Instr.sliceBounds,hy,hy',b1,b2]
            · simp only [Int.toNat_natCast] at b2 ⊢
              simp [Instr.sliceBounds,hy,b2]
            · simp [Instr.sliceBounds,hy',b1]
            simp [Instr.sliceBounds]
          by_cases hcl:cap = l.toNat
          · have hct:(cap = l.toNat) = True:=eq_true hcl
            simp only [execOp,hop,h1,V.up,Instr.sliceAt,Instr.slice,pure_bind,Sem.run_bind,hu',hb,size_run hz,Result.andThen_ok,hct,if_true,Option.map_none,Nat.add_zero]
            rfl
          have hcf:(cap = l.toNat) = False:=eq_false hcl
          simp only [execOp,hop,h1,V.up,Instr.sliceAt,Instr.slice,pure_bind,Sem.run_bind,hu',hb,size_run hz,Result.andThen_ok,hcf,if_false,Option.map_none,Option.map_some,add_at,Nat.add_assoc]
          rfl
        cases h
      cases h
    exact pure_case h (by rw [hop]; intro cs b hh; cases hh)
  case h_12 t u x hop =>
    split at h
    · rename_i id off len cap hx
      split at h
      · rename_i r e' str hr hu1 hu2
        split at h
        · rename_i he
          cases h
          obtain ⟨⟨xs,rfl,hlen,hcells⟩,_⟩:=ho
          have hb:=hm id r hr (by simp [touch,hop,hx])
          have h1:ρ x = .slice (some ⟨(β id).1,(β id).2 + off,none⟩) len cap:=by rw [hρ x (by rw [hop]; simp [Op.operands]) (by rw [hx]; rfl),hx]; rfl
          refine ⟨(by rw [hop]; intro cs b hh; cases hh),.inl ?_,fun _ _ _=>lv_c _ _,fun _=>rfl⟩
          have hrun:=run_convert_bytes_arg (P:=P) w t e' hu1 he (β id).1 ((β id).2 + off) len cap xs hlen (fun i hi=>by
            rw [Nat.add_assoc]
            have hg:r.cells[off + i]? = some (.c (.int .u8 (xs.getD i 0))):=by
              have h2:((r.cells.drop off).take len)[i]? = (xs.map fun n=>V.c (.int .u8 n))[i]?:=by rw [hcells]
              rw [List.getElem?_take,if_pos hi,List.getElem?_drop,List.getElem?_map] at h2
              rw [h2,List.getElem?_eq_getElem (by omega)]
              simp [List.getD_eq_getElem?_getD,List.getElem?_eq_getElem (show i < xs.length by omega)]
            exact hb.2.1 _ _ hg) u hu2
          simp [execOp,hop,h1,hrun,V.up]
        cases h
      cases h
    exact pure_case h (by rw [hop]; intro cs b hh; cases hh)
  case h_13 c hop =>
    split at h
    · rename_i f hc
      split at h
      · rename_i g first captured hf
        split at h
        · rename_i hcal
          split at h
          · rename_i r
            split at h
            · rename_i hcc
              cases h
              refine ⟨(by rw [hop]; intro cs b hh; cases hh),.inr ⟨g,first ++ c.args.map s.rho ++ captured,r,rfl,ho.1 w hlaid,?_⟩,fun _ _ _=>lv_c _ _,fun _=>rfl⟩
              have hf1:ρ f = .func (.func g) first captured:=by
                rw [hρ f (by rw [hop]; simp [Op.operands,Call.operands,hc]) (by rw [hf]; rfl),hf]; rfl
              have ha:c.args.map ρ = c.args.map s.rho:=Array.map_congr_left fun x hx=>by
                have hcx:=List.all_eq_true.1 hcc x (Array.mem_toList_iff.2 hx)
                rw [hρ x (by rw [hop]; simp [Op.operands,Call.operands,hx]) (known_of hcx)]
                exact val_up hcx β
              unfold callee? at hcal
              split at hcal
              · rename_i fn hfn
                simp only [Bool.and_eq_true,bne_iff_ne,ne_eq] at hcal
                obtain ⟨b,hbb⟩:=Option.isSome_iff_exists.1 hcal.2
                unfold execOp
                simp [hop,resolve,hc,hf1,Deferred.ofValue,invoke,ha,callFunc,hfn,hcal.1,hbb]
              cases hcal
            cases h
          · rename_i r
            split at h
            · rename_i id off len cap hargs
              split at h
              · rename_i q hq
                split at h
                · rename_i hcc
                  obtain ⟨rfl,rfl,hqc⟩:=hcc
                  cases h
                  obtain ⟨x,hx⟩:∃ x,c.args = #[x]:=by
                    have:(c.args.toList.map s.at).length = 1:=by rw [hargs]; rfl
                    rw [List.length_map] at this
                    obtain ⟨x,hx⟩:=List.length_eq_one_iff.1 this
                    exact ⟨x,by rw [← Array.toList_inj]; simpa using hx⟩
                  have hax:=hargs
                  rw [hx] at hax
                  simp only [List.map_cons,List.map_nil,List.cons.injEq,and_true] at hax
                  have h1:ρ x = .slice (some ⟨(β id).1,(β id).2 + off,none⟩) len cap:=by rw [hρ x (by rw [hop]; simp [Op.operands,Call.operands,hx]) (by rw [hax]; rfl),hax]; rfl
                  have hb:=hm id q hq (by simp [touch,hop,hc,hargs])
                  have hall:∀ v:V,v ∈ q.cells → v.isC = true:=fun v hv=>List.all_eq_true.1 hqc v hv
                  have hb2:Blk (fun _=>β id) w (β id) ⟨false,q.cells⟩:=⟨hb.1,fun k v hk=>by rw [hb.2.1 k v hk,val_up (hall v (List.mem_of_getElem? hk)),val_up (hall v (List.mem_of_getElem? hk))],fun hh=>by cases hh⟩
                  have hone:∀ i r,row? [some (⟨false,q.cells⟩:Row)] i = some r → r = ⟨false,q.cells⟩:=by
                    intro i r hr
                    cases i with
                    | zero=>cases hr; rfl
                    | succ i=>simp [row?] at hr
                  have hM:Mem (fun _=>β id) [some (⟨false,q.cells⟩:Row)] w:=by
                    refine ⟨fun i r hr=>(by rw [hone i r hr]; exact hb2),fun i j ri rj hi hj ho hij=>(by rw [hone i ri hi] at ho; cases ho),fun i r hr v hv=>?_⟩
                    rw [hone i r hr] at hv
                    have:=hall v hv
                    cases v with
                    | c v=>exact ⟨lv_c _ _,rfl⟩
                    | _=>cases this
                  have hcall:=ho.1 w (fun _=>β id) hlaid (fun i ri hi ho=>by rw [hone i ri hi] at ho; cases ho) hM
                  refine ⟨(by rw [hop]; intro cs b hh; cases hh),.inr ⟨g,#[.slice (some ⟨(β id).1,(β id).2 + off,none⟩) len cap],r,rfl,?_,?_⟩,fun _ _ _=>lv_c _ _,fun _=>rfl⟩
                  · refine hcall.mono fun e w' hh=>?_
                    obtain ⟨β',_,_,he,_,hfr⟩:=hh
                    exact ⟨he,⟨hfr.os,hfr.tape,hfr.output,hfr.size,fun k hk=>hfr.block k hk (fun ⟨i,ri,hi,ho,_⟩=>by rw [hone i ri hi] at ho; cases ho)⟩⟩
                  have hf1:ρ f = .func (.func g) #[] #[]:=by
                    rw [hρ f (by rw [hop]; simp [Op.operands,Call.operands,hc]) (by rw [hf]; rfl),hf]; rfl
                  unfold callee? at hcal
                  split at hcal
                  · rename_i fn hfn
                    simp only [Bool.and_eq_true,bne_iff_ne,ne_eq] at hcal
                    obtain ⟨b,hbb⟩:=Option.isSome_iff_exists.1 hcal.2
                    unfold execOp
                    simp [hop,resolve,hc,hf1,Deferred.ofValue,invoke,hx,h1,callFunc,hfn,hcal.1,hbb]
                  cases hcal
                cases h
              cases h
            cases h
          · split at h
            · cases h
            cases h
          cases h
        exact pure_case h (by rw [hop]; intro cs b hh; cases hh)
      cases h
    · rename_i hc
      split at h
      · rename_i id off len cap e' hargs hty
        cases h
        refine ⟨(by rw [hop]; intro cs b hh; cases hh),.inl ?_,fun _ _ _=>lv_c _ _,fun _=>rfl⟩
        obtain ⟨x,hx⟩:∃ x,c.args = #[x]:=by
          have:(c.args.toList.map s.at).length = 1:=by rw [hargs]; rfl
          rw [List.length_map] at this
          obtain ⟨x,hx⟩:=List.length_eq_one_iff.1 this
          exact ⟨x,by rw [← Array.toList_inj]; simpa using hx⟩
        rw [hx] at hargs
        simp only [List.map_cons,List.map_nil,List.cons.injEq,and_true] at hargs
        have h1:ρ x = .slice (some ⟨(β id).1,(β id).2 + off,none⟩) len cap:=by rw [hρ x (by rw [hop]; simp [Op.operands,Call.operands,hx]) (by rw [hargs]; rfl),hargs]; rfl
        rw [Option.bind_eq_some_iff] at hty
        obtain ⟨t,ht,hu⟩:=hty
        unfold execOp
        simp [hop,resolve,hc,invoke,builtin,Builtin.len_,hx,h1,ht,underlying,program,Sem.run,hu,V.up,goInt]
      exact pure_case h (by rw [hop]; intro cs b hh; cases hh)
    exact pure_case h (by rw [hop]; intro cs b hh; cases hh)
  case h_15 =>
    refine pure_case h ?_
    intro cs b hh
    unfold effPure at h
    rw [hh] at h
    cases h
  all_goals exfalso
  all_goals (repeat' (split at h))
  all_goals (cases h; done)
end
def stepSt (s:St) (d:Option Tmp):Eff → St
  | .val v=>s.put d v
  | .new cells _ rf=>{ t:=(s.put d (rf s.m.length)).t,m:=s.m ++ [some ⟨true,cells⟩] }
  | .put id off vs=>{ t:=(s.put d (.c undef)).t,m:=s.m.set id ((row? s.m id).map fun r=>⟨r.own,splice r.cells off vs⟩) }
  | .all m v=>{ t:=(s.put d v).t,m:=m }
structure Tm (β:Env) (t:List V) (x:Array Value):Prop where
  size:x.size = t.length
  get:∀ (i:Nat) (v:V),t[i]? = some v → v.known = true → x[i]? = some (v.up β)
structure Cx where
  D:Nat → Prop
  n0:Nat
  b0:Env
structure Ok (C:Cx) (β:Env) (w0:World) (s:St) (a:Act) (w:World):Prop where
  tmps:Tm β s.t a.tmps
  defers:a.defers = []
  mem:Mem β s.m w
  dirty:∀ id r,row? s.m id = some r → r.own = true → w0.heap.size ≤ (β id).1 ∨ C.D (β id).1
  frame:Fr C.D w0 w
  ltt:∀ v:V,v ∈ s.t → v.lv s.m
  pin:(∀ i,i < C.n0 → β i = C.b0 i) ∧ C.n0 ≤ s.m.length
  laid:Laid w0 ∧ ¬ C.D tabG
section
variable {P:Program} {C:Cx} {β:Env} {s:St} {o:Oper} {ans:Option Ans} {e:Eff} {obs:List Ob} {w w0:World} {a:Act} {K:Act → World → Prop} {Q:Exit → Act → World → Prop}
theorem Ok.here (h:Ok C β w0 s a w):Laid w:=h.laid.1.fr h.frame h.laid.2
theorem Ok.apart (h:Ok C β w0 s a w):∀ i ri,row? s.m i = some ri → ri.own = true → (β i).1 ≠ tabG:=fun i ri hi ho he=>by
  rcases h.dirty i ri hi ho with h1 | h1
  · have:=h.laid.1.lt
    omega
  rw [he] at h1
  exact h.laid.2 h1
theorem Tm.eval (h:Tm β s.t a.tmps) (x:Operand) (hk:(s.at x).known = true):a.eval x = (s.at x).up β:=by
  cases x with
  | tmp t =>
    simp only [Act.eval,St.at,Array.getD_eq_getD_getElem?,List.getD_eq_getElem?_getD] at hk ⊢
    cases ht:s.t[t]? with
    | none =>
      have h1:s.t.length ≤ t:=List.getElem?_eq_none_iff.1 ht
      rw [Array.getElem?_eq_none (by rw [h.size]; exact h1)]
      rfl
    | some v =>
      rw [ht] at hk
      rw [h.get t v ht hk]
      rfl
  | const v=>rfl
  | global g=>rfl
  | func f=>rfl
theorem Tm.put {v:V} (h:Tm β s.t a.tmps) (d:Option Tmp) {u:Value} (hu:v.known = true → u = v.up β):Tm β (s.put d v).t (a.put d u).tmps:=by
  cases d with
  | none=>exact h
  | some d =>
    refine ⟨by simp [Act.put,St.put,h.size],fun i x hi hk=>?_⟩
    simp only [St.put] at hi
    simp only [Act.put]
    by_cases hid:i = d
    · subst hid
      have hl:i < s.t.length:=by
        have:=(List.getElem?_eq_some_iff.1 hi).1
        simpa using this
      rw [List.getElem?_set_self hl] at hi
      cases hi
      rw [Array.getElem?_setIfInBounds_self_of_lt (by rw [h.size]; exact hl),hu hk]
    rw [List.getElem?_set_ne (Ne.symm hid)] at hi
    rw [Array.getElem?_setIfInBounds_ne (Ne.symm hid)]
    exact h.get i x hi hk
theorem Tm.congr {β':Env} {t:List V} {x:Array Value} {m:Rows} (h:Tm β t x) (hl:∀ v:V,v ∈ t → v.lv m) (hb:∀ i,i < m.length → β' i = β i):Tm β' t x :=
  ⟨h.size,fun i v hi hk=>by rw [h.get i v hi hk,up_congr (hl v (List.mem_of_getElem? hi)) hb]⟩
theorem put_defers {v:Value} (d:Option Tmp):(a.put d v).defers = a.defers:=by cases d <;> rfl
theorem put_mem {v u:V} {d:Option Tmp} (h:u ∈ (s.put d v).t):u ∈ s.t ∨ u = v:=by
  cases d with
  | none=>exact .inl h
  | some d=>exact List.mem_or_eq_of_mem_set h
theorem put_m {v:V} {d:Option Tmp}:(s.put d v).m = s.m:=by cases d <;> rfl
theorem at_lv (h:∀ v:V,v ∈ s.t → v.lv s.m) (x:Operand):(s.at x).lv s.m:=by
  cases x with
  | tmp t =>
    simp only [St.at,List.getD_eq_getElem?_getD]
    cases ht:s.t[t]? with
    | none=>exact lv_c _ _
    | some v=>exact h v (List.mem_of_getElem? ht)
  | const v=>exact lv_c _ _
  | global g=>exact lv_c _ _
  | func f=>exact lv_c _ _
theorem Blk.keep {w':World} {x:Nat × Nat} {r:Row} (h:Blk β w x r) (hs:w.heap.size ≤ w'.heap.size) (hb:w'.heap[x.1]? = w.heap[x.1]?):Blk β w' x r:=by
  obtain ⟨h1,h2,h3⟩:=h
  refine ⟨Nat.lt_of_lt_of_le h1 hs,fun k v hk=>?_,fun ho=>?_⟩
  · rw [← h2 k v hk]
    simp only [World.cell?,hb]
  obtain ⟨arr,e,he⟩:=h3 ho
  exact ⟨arr,e,by rw [hb]; exact he⟩
theorem Blk.congr {β':Env} {x:Nat × Nat} {r:Row} {m:Rows} (h:Blk β w x r) (hl:∀ v:V,v ∈ r.cells → v.lv m) (hb:∀ i,i < m.length → β' i = β i):Blk β' w x r :=
  ⟨h.1,fun k v hk=>by rw [h.2.1 k v hk,up_congr (hl v (List.mem_of_getElem? hk)) hb],h.2.2⟩
theorem Mem.keep {m:Rows} {w':World} (h:Mem β m w) (hb:Below w.heap.size w w'):Mem β m w' :=
  ⟨fun id r hr=>(h.blk id r hr).keep hb.size (hb.block _ (h.blk id r hr).1),h.inj,h.lv⟩
theorem splice_mem {u:V}:∀ {vs l:List V} {off:Nat},u ∈ splice l off vs → u ∈ l ∨ u ∈ vs
  | [],l,off,h=>.inl h
  | v :: r,l,off,h=>by
    rcases splice_mem (vs:=r) h with h | h
    · rcases List.mem_or_eq_of_mem_set h with h | rfl
      · exact .inl h
      exact .inr List.mem_cons_self
    exact .inr (List.mem_cons_of_mem _ h)
theorem cells_lv {v:V} {m:Rows} (h:v.lv m):∀ u:V,u ∈ v.cells → u.lv m:=by
  intro u hu
  cases v with
  | any=>simp only [V.cells,List.mem_singleton] at hu; rw [hu]; exact h
  | c v =>
    simp only [V.cells,List.mem_map] at hu
    obtain ⟨x,_,rfl⟩:=hu
    exact lv_c _ _
  | p i j=>simp only [V.cells,List.mem_singleton] at hu; rw [hu]; exact h
  | sl i j k l=>simp only [V.cells,List.mem_singleton] at hu; rw [hu]; exact h
theorem cells_known {v:V} (h:v.known = true):∀ u:V,u ∈ v.cells → u.known = true:=by
  intro u hu
  cases v with
  | any=>cases h
  | c v =>
    simp only [V.cells,List.mem_map] at hu
    obtain ⟨x,_,rfl⟩:=hu
    rfl
  | p i j=>simp only [V.cells,List.mem_singleton] at hu; rw [hu]; rfl
  | sl i j k l=>simp only [V.cells,List.mem_singleton] at hu; rw [hu]; rfl
theorem row_append {m:Rows} {x:Option Row} {id:Nat} {r:Row} (h:row? (m ++ [x]) id = some r):row? m id = some r ∨ (id = m.length ∧ x = some r):=by
  unfold row? at h ⊢
  by_cases hid:id < m.length
  · rw [List.getElem?_append_left hid] at h
    exact .inl h
  rw [List.getElem?_append_right (by omega)] at h
  cases hz:id - m.length with
  | zero =>
    rw [hz] at h
    simp only [List.getElem?_cons_zero,Option.bind_some] at h
    exact .inr ⟨by omega,h⟩
  | succ k =>
    rw [hz] at h
    simp at h
theorem row_append_old {m:Rows} {x:Option Row} {id:Nat} {r:Row} (h:row? m id = some r):row? (m ++ [x]) id = some r:=by
  have hl:=row_lt h
  unfold row? at h ⊢
  rw [List.getElem?_append_left hl]
  exact h
theorem row_append_new {m:Rows} {x:Option Row}:row? (m ++ [x]) m.length = x:=by simp [row?]
theorem lv_append {m:Rows} {x:Option Row} {v:V} (h:v.lv m):v.lv (m ++ [x]):=fun id hid=>by
  obtain ⟨r,hr⟩:=h id hid
  exact ⟨r,row_append_old hr⟩
theorem row_set {m:Rows} {id i:Nat} {x:Option Row} {r:Row} (h:row? (m.set id x) i = some r):(i ≠ id ∧ row? m i = some r) ∨ (i = id ∧ x = some r):=by
  unfold row? at h ⊢
  by_cases hi:i = id
  · subst hi
    by_cases hl:i < m.length
    · rw [List.getElem?_set_self hl] at h
      exact .inr ⟨rfl,h⟩
    rw [List.getElem?_eq_none (by simpa using hl)] at h
    cases h
  rw [List.getElem?_set_ne (Ne.symm hi)] at h
  exact .inl ⟨hi,h⟩
theorem row_set_old {m:Rows} {id i:Nat} {R:Row} {r:Row} (h0:row? m id = some R) (r':Row) (h:row? m i = some r):∃ r2,row? (m.set id (some r')) i = some r2:=by
  unfold row? at h ⊢
  by_cases hi:i = id
  · subst hi
    rw [List.getElem?_set_self (row_lt h0)]
    exact ⟨r',rfl⟩
  rw [List.getElem?_set_ne (Ne.symm hi)]
  exact ⟨r,h⟩
theorem lv_set {m:Rows} {id:Nat} {R r':Row} (h0:row? m id = some R) {v:V} (h:v.lv m):v.lv (m.set id (some r')):=fun i hi=>by
  obtain ⟨r,hr⟩:=h i hi
  exact row_set_old h0 r' hr
theorem keeps_len {m m':Rows} (h:keeps m m' = true):m.length ≤ m'.length:=of_decide_eq_true (Bool.and_eq_true _ _ ▸ h).1
theorem keeps_at {m m':Rows} (h:keeps m m' = true) {i:Nat} {r:Row} (hr:row? m i = some r):∃ r',row? m' i = some r' ∧ r'.own = r.own:=by
  have:=List.all_eq_true.1 (Bool.and_eq_true _ _ ▸ h).2 i (List.mem_range.2 (row_lt hr))
  rw [hr] at this
  simp only [Option.map_some,beq_iff_eq] at this
  cases hm:row? m' i with
  | none=>rw [hm] at this; cases this
  | some r' =>
    rw [hm] at this
    simp only [Option.map_some,Option.some.injEq] at this
    exact ⟨r',rfl,this.symm⟩
theorem keeps_back {m m':Rows} (h:keeps m m' = true) {i:Nat} {r':Row} (hi:i < m.length) (hr:row? m' i = some r'):∃ r,row? m i = some r ∧ r'.own = r.own:=by
  have:=List.all_eq_true.1 (Bool.and_eq_true _ _ ▸ h).2 i (List.mem_range.2 hi)
  rw [hr] at this
  simp only [Option.map_some,beq_iff_eq] at this
  cases hm:row? m i with
  | none=>rw [hm] at this; cases this
  | some r =>
    rw [hm] at this
    simp only [Option.map_some,Option.some.injEq] at this
    exact ⟨r,rfl,this.symm⟩
theorem eff_all_sound {m':Rows} {v:V} {ρ:Operand → Value} (h:eff0 P s o ans = some (.all m' v,obs)) (ho:Holds P obs) (hρ:∀ x ∈ o.op.operands,(s.at x).known = true → ρ x = (s.at x).up β) :
    (∃ f args,FSpec P f args s.m v m' ∧ (execOp ρ o).run P w = .ok (.enter f (args.map (V.up β)).toArray) w) ∧ keeps s.m m' = true ∧ v.known = true ∧ v.lv m':=by
  unfold eff0 at h
  split at h
  case h_13 c hop =>
    split at h
    · rename_i f hc
      split at h
      · rename_i g first captured hf
        split at h
        · rename_i hcal
          split at h
          · split at h
            · cases h
            cases h
          · split at h
            · split at h
              · split at h
                · cases h
                cases h
              cases h
            cases h
          · rename_i r mm
            split at h
            · rename_i hcc
              cases h
              obtain ⟨rfl,rfl,hkn,hks,hvk,hth⟩:=hcc
              refine ⟨⟨g,c.args.toList.map s.at,ho.1,?_⟩,hks,hvk,fun id hid=>?_⟩
              · have hf1 : ρ f = .func (.func g) #[] #[] := by
                  rw [hρ f (by rw [hop]; simp [Op.operands,Call.operands,hc]) (by rw [hf]; rfl),hf]; rfl
                have ha:c.args.map ρ = ((c.args.toList.map s.at).map (V.up β)).toArray:=by
                  rw [List.map_map]
                  apply Array.ext'
                  rw [Array.toList_map]
                  exact List.map_congr_left fun x hx=>hρ x (by rw [hop]; simp [Op.operands,Call.operands]; exact .inr (Array.mem_toList_iff.1 hx)) (List.all_eq_true.1 hkn x hx)
                unfold callee? at hcal
                split at hcal
                · rename_i fn hfn
                  simp only [Bool.and_eq_true,bne_iff_ne,ne_eq] at hcal
                  obtain ⟨b,hbb⟩:=Option.isSome_iff_exists.1 hcal.2
                  rw [← ha]
                  unfold execOp
                  simp [hop,resolve,hc,hf1,Deferred.ofValue,invoke,callFunc,hfn,hcal.1,hbb]
                cases hcal
              unfold V.there at hth
              rw [hid] at hth
              exact Option.isSome_iff_exists.1 hth
            cases h
          cases h
        obtain ⟨v,hv,_⟩:=effPure_sound (β:=β) h ho; cases hv
      cases h
    · split at h
      · cases h
      obtain ⟨v,hv,_⟩:=effPure_sound (β:=β) h ho; cases hv
    obtain ⟨v,hv,_⟩:=effPure_sound (β:=β) h ho; cases hv
  all_goals exfalso
  all_goals (repeat' (split at h))
  all_goals first
    | (obtain ⟨v,hv,_⟩:=effPure_sound (β:=β) h ho; cases hv; done)
    | (simp at h; done)
    | (cases h; done)
end
def idx (id:Nat):List Nat → Nat → Option Nat
  | [],_=>none
  | x :: r,k=>if x = id then some k else idx id r (k + 1)
theorem idx_some {id:Nat}:∀ {l:List Nat} {k j:Nat},idx id l k = some j → k ≤ j ∧ l[j - k]? = some id
  | [],k,j,h=>by cases h
  | x :: r,k,j,h=>by
    unfold idx at h
    split at h
    · rename_i hx
      simp only [Option.some.injEq] at h
      subst h
      simp [hx]
    obtain ⟨h1,h2⟩:=idx_some h
    refine ⟨by omega,?_⟩
    rw [show j - k = (j - (k + 1)) + 1 by omega]
    simpa using h2
def Flat:Rows → Prop
  | []=>True
  | some r :: t=>(∀ v:V,v ∈ r.cells → v.isC = true) ∧ Flat t
  | none :: t=>Flat t
theorem flat_at:∀ {m:Rows},Flat m → ∀ i r,row? m i = some r → ∀ v:V,v ∈ r.cells → v.isC = true
  | [],_,i,r,h=>by simp [row?] at h
  | x :: t,hf,i,r,h=>by
    cases i with
    | zero =>
      simp only [row?,List.getElem?_cons_zero,Option.bind_some] at h
      subst h
      exact hf.1
    | succ i =>
      have ht:Flat t:=by cases x with
        | none=>exact hf
        | some y=>exact hf.2
      exact flat_at ht i r (by simpa [row?] using h)
def ren (pl:List Nat) (n N:Nat):V → V
  | .any=>.any
  | .c v=>.c v
  | .p id off=>.p (if id < n then pl.getD id 0 else N + (id - n)) off
  | .sl id off len cap=>.sl (if id < n then pl.getD id 0 else N + (id - n)) off len cap
def others (pl:List Nat) (n:Nat):List Nat:=(List.range n).filter fun i=>!pl.contains i
def okE (pl:List Nat) (n:Nat) (m m':Rows) (args:List V):Bool :=
  decide pl.Nodup && pl.all (fun i=>decide (i < n)) && keeps m m' && (m'.drop m.length).all (fun r=>match r with | some r=>r.own | none=>true) && args.all (fun v=>v.there m)
theorem Blk.flat {β β':Env} {w:World} {x:Nat × Nat} {r:Row} (h:Blk β w x r) (hf:∀ v:V,v ∈ r.cells → v.isC = true):Blk β' w x r :=
  ⟨h.1,fun k v hk=>by rw [h.2.1 k v hk,val_up (hf v (List.mem_of_getElem? hk)),val_up (hf v (List.mem_of_getElem? hk))],h.2.2⟩
theorem up_ren {β β1:Env} {pl:List Nat} {n N:Nat} {v:V} (h:∀ id,v.id? = some id → β (if id < n then pl.getD id 0 else N + (id - n)) = β1 id):(ren pl n N v).up β = v.up β1:=by
  cases v with
  | any=>rfl
  | c v=>rfl
  | p id off=>simp only [ren,V.up,h id rfl]
  | sl id off len cap=>simp only [ren,V.up,h id rfl]
theorem row_at {m:Rows} {i:Nat}:row? m i = (m[i]?).bind fun x=>x:=rfl
theorem FSpec.embed {P:Program} {f:FuncId} {args:List V} {m m' M M':Rows} {r:V} (pl:List Nat) (h:FSpec P f args m r m')
    (he:(pl.map (row? M),pl.map (row? M'),M'.drop M.length,(others pl M.length).map (row? M')) = (m,m'.take m.length,m'.drop m.length,(others pl M.length).map (row? M)))
    (hb:okE pl M.length m m' args = true) (hf:Flat m) (hf':Flat m'):FSpec P f (args.map (ren pl m.length M.length)) M (ren pl m.length M.length r) M':=by
  intro w β hlaid hapart hmem
  simp only [Prod.mk.injEq] at he
  obtain ⟨e1,e2,e3,e4⟩:=he
  unfold okE at hb
  simp only [Bool.and_eq_true] at hb
  obtain ⟨⟨⟨⟨hnd,hlt⟩,hks⟩,hown⟩,hth⟩:=hb
  have hnd:pl.Nodup:=of_decide_eq_true hnd
  have hpl:pl.length = m.length:=by rw [← e1,List.length_map]
  have hml:=keeps_len hks
  have hg:∀ {j},j < m.length → pl[j]? = some (pl.getD j 0):=fun {j} hj=>by
    rw [List.getD_eq_getElem?_getD,List.getElem?_eq_getElem (by omega)]; rfl
  have hlt:∀ {j},j < m.length → pl.getD j 0 < M.length:=fun {j} hj=>of_decide_eq_true (List.all_eq_true.1 hlt _ (List.mem_of_getElem? (hg hj)))
  have hrow:∀ {j},j < m.length → row? m j = row? M (pl.getD j 0):=fun {j} hj=>by
    have:m[j]? = some (row? M (pl.getD j 0)):=by
      conv=>lhs; rw [← e1]
      rw [List.getElem?_map,hg hj]; rfl
    rw [row_at,this]; rfl
  have hrow':∀ {j},j < m.length → row? m' j = row? M' (pl.getD j 0):=fun {j} hj=>by
    have:(m'.take m.length)[j]? = some (row? M' (pl.getD j 0)):=by
      rw [← e2,List.getElem?_map,hg hj]; rfl
    rw [List.getElem?_take,if_pos hj] at this
    rw [row_at,this]; rfl
  have hnew:∀ k,row? m' (m.length + k) = row? M' (M.length + k):=fun k=>by
    have:=congrArg (fun l=>l[k]?) e3
    simp only [List.getElem?_drop] at this
    rw [row_at,row_at,this]
  have hoth:∀ {i},i < M.length → i ∉ pl → row? M' i = row? M i:=fun {i} hi hn=>by
    have hm:i ∈ others pl M.length:=List.mem_filter.2 ⟨List.mem_range.2 hi,by simpa using hn⟩
    exact List.map_inj_left.1 e4 i hm
  have hinj:∀ {i j},i < m.length → j < m.length → pl.getD i 0 = pl.getD j 0 → i = j:=fun {i j} hi hj hh=>by
    have h1:=hg hi
    have h2:=hg hj
    rw [hh] at h1
    obtain ⟨p1,q1⟩:=List.getElem?_eq_some_iff.1 h1
    obtain ⟨p2,q2⟩:=List.getElem?_eq_some_iff.1 h2
    exact (List.getElem_inj hnd).1 (q1.trans q2.symm)
  have hflat:=flat_at hf
  have hflat':=flat_at hf'
  have hmemc:Mem (fun i=>β (pl.getD i 0)) m w:=by
    refine ⟨fun id r hr=>?_,fun i j ri rj hi hj ho hij=>?_,fun id r hr v hv=>?_⟩
    · exact (hmem.blk _ r ((hrow (row_lt hr)).symm.trans hr)).flat (hflat id r hr)
    · have h1:=row_lt hi
      have h2:=row_lt hj
      rw [hrow h1] at hi
      rw [hrow h2] at hj
      exact hinj h1 h2 (hmem.inj _ _ ri rj hi hj ho hij)
    have:=hflat id r hr v hv
    refine ⟨fun i hid=>?_,known_of this⟩
    cases v with
    | c v=>cases hid
    | _=>cases this
  have h1:=h w (fun i=>β (pl.getD i 0)) hlaid (fun i ri hi ho=>by
    rw [hrow (row_lt hi)] at hi
    exact hapart _ ri hi ho) hmemc
  have hargs:((args.map (ren pl m.length M.length)).map (V.up β)) = args.map (V.up fun i=>β (pl.getD i 0)):=by
    rw [List.map_map]
    refine List.map_congr_left fun v hv=>?_
    refine up_ren fun id hid=>?_
    have:=List.all_eq_true.1 hth v hv
    unfold V.there at this
    rw [hid] at this
    obtain ⟨rr,hrr⟩:=Option.isSome_iff_exists.1 this
    simp only [if_pos (row_lt hrr)]
  rw [hargs]
  refine h1.mono fun e w' hw=>?_
  obtain ⟨β1,hb1,hfresh,rfl,hm1,hfr⟩:=hw
  have horig:∀ i ri,row? M' i = some ri → (∃ j,j < m.length ∧ i = pl.getD j 0 ∧ row? m' j = some ri ∧ i < M.length) ∨ (i < M.length ∧ i ∉ pl ∧ row? M i = some ri) ∨ (M.length ≤ i ∧ row? m' (m.length + (i - M.length)) = some ri):=by
    intro i ri hi
    by_cases hl:i < M.length
    · by_cases hp:i ∈ pl
      · obtain ⟨j,hj,hji⟩:=List.getElem_of_mem hp
        have hj':j < m.length:=by omega
        have hji':pl.getD j 0 = i:=by rw [List.getD_eq_getElem?_getD,List.getElem?_eq_getElem hj]; exact hji
        exact .inl ⟨j,hj',hji'.symm,by rw [hrow' hj',hji']; exact hi,hl⟩
      exact .inr (.inl ⟨hl,hp,(hoth hl hp).symm.trans hi⟩)
    refine .inr (.inr ⟨by omega,?_⟩)
    rw [hnew,show M.length + (i - M.length) = i by omega]
    exact hi
  refine ⟨fun i=>if i < M.length then β i else β1 (m.length + (i - M.length)),fun i hi=>if_pos hi,?_,?_,?_,?_⟩
  · intro i ri hi hr ho
    have:¬ i < M.length:=by omega
    simp only [if_neg this]
    refine hfresh _ ri (by omega) ?_ ho
    rw [hnew,show M.length + (i - M.length) = i by omega]
    exact hr
  · congr 1
    refine (up_ren fun id _=>?_).symm
    by_cases hid:id < m.length
    · simp only [if_pos hid,if_pos (hlt hid)]
      exact (hb1 id hid).symm
    have:¬ M.length + (id - m.length) < M.length:=by omega
    simp only [if_neg hid,if_neg this]
    congr 1
    omega
  · have hbB : ∀ i ri, i < M.length → i ∉ pl → row? M i = some ri → w'.heap[(β i).1]? = w.heap[(β i).1]? := by
      intro i ri hl hp hi
      refine hfr.block _ (hmem.blk i ri hi).1 ?_
      rintro ⟨j,rj,hj,ho,hk⟩
      have hjl:=row_lt hj
      rw [hrow hjl] at hj
      have:=hmem.inj _ _ rj ri hj hi ho hk.symm
      exact hp (this ▸ List.mem_of_getElem? (hg hjl))
    have hback:∀ {j rj},j < m.length → row? m' j = some rj → ∃ r0,row? M (pl.getD j 0) = some r0 ∧ rj.own = r0.own:=fun {j rj} hj hr=>by
      obtain ⟨r0,h0,ho⟩:=keeps_back hks hj hr
      exact ⟨r0,(hrow hj).symm.trans h0,ho⟩
    have hnown:∀ {i ri},M.length ≤ i → row? m' (m.length + (i - M.length)) = some ri → ri.own = true:=fun {i ri} hi hr=>by
      have hd:(m'.drop m.length)[i - M.length]? = some (some ri):=by
        rw [List.getElem?_drop]
        unfold row? at hr
        cases hx:m'[m.length + (i - M.length)]? with
        | none=>rw [hx] at hr; cases hr
        | some x=>rw [hx] at hr; simp only [Option.bind_some] at hr; rw [hr]
      exact List.all_eq_true.1 hown _ (List.mem_of_getElem? hd)
    refine ⟨fun i ri hi=>?_,fun i j ri rj hi hj ho hij=>?_,fun i ri hi v hv=>?_⟩
    · rcases horig i ri hi with ⟨j,hj,rfl,hr,hl⟩ | ⟨hl,hp,hr⟩ | ⟨hl,hr⟩
      · simp only [if_pos hl]
        have:=hm1.blk j ri hr
        rw [hb1 j hj] at this
        exact this.flat (hflat' j ri hr)
      · simp only [if_pos hl]
        refine ((hmem.blk i ri hr).keep hfr.size (hbB i ri hl hp hr)).congr (m:=M) (fun v hv=>(hmem.lv i ri hr v hv).1) fun k hk=>?_
        simp only [if_pos hk]
      simp only [if_neg (show ¬ i < M.length by omega)]
      exact (hm1.blk _ ri hr).flat (hflat' _ ri hr)
    · rcases horig i ri hi with ⟨a,ha,rfl,hri,hl⟩ | ⟨hl,hp,hri⟩ | ⟨hl,hri⟩ <;> rcases horig j rj hj with ⟨b,hbl,rfl,hrj,hl2⟩ | ⟨hl2,hp2,hrj⟩ | ⟨hl2,hrj⟩
      · simp only [if_pos hl,if_pos hl2] at hij
        rw [hm1.inj a b ri rj hri hrj ho (by rw [hb1 a ha,hb1 b hbl]; exact hij)]
      · simp only [if_pos hl,if_pos hl2] at hij
        obtain ⟨r0,h0,ho0⟩:=hback ha hri
        exact hmem.inj _ _ r0 rj h0 hrj (ho0 ▸ ho) hij
      · simp only [if_pos hl,if_neg (show ¬ j < M.length by omega)] at hij
        have:=hm1.inj a _ ri rj hri hrj ho (by rw [hb1 a ha]; exact hij)
        omega
      · simp only [if_pos hl,if_pos hl2] at hij
        obtain ⟨r0,h0,ho0⟩:=hback hbl hrj
        exact hmem.inj _ _ ri r0 hri h0 ho hij
      · simp only [if_pos hl,if_pos hl2] at hij
        exact hmem.inj _ _ ri rj hri hrj ho hij
      · simp only [if_pos hl,if_neg (show ¬ j < M.length by omega)] at hij
        have h2:=hfresh _ rj (by omega) hrj (hnown hl2 hrj)
        have h3:=(hmem.blk i ri hri).1
        omega
      · simp only [if_neg (show ¬ i < M.length by omega),if_pos hl2] at hij
        have:=hm1.inj _ b ri rj hri hrj ho (by rw [hb1 b hbl]; exact hij)
        omega
      · simp only [if_neg (show ¬ i < M.length by omega),if_pos hl2] at hij
        have h2:=hfresh _ ri (by omega) hri ho
        have h3:=(hmem.blk j rj hrj).1
        omega
      simp only [if_neg (show ¬ i < M.length by omega),if_neg (show ¬ j < M.length by omega)] at hij
      have:=hm1.inj _ _ ri rj hri hrj ho hij
      omega
    rcases horig i ri hi with ⟨j,hj,rfl,hr,hl⟩ | ⟨hl,hp,hr⟩ | ⟨hl,hr⟩
    · have:=hflat' j ri hr v hv
      refine ⟨fun id hid=>?_,known_of this⟩
      cases v with
      | c v=>cases hid
      | _=>cases this
    · obtain ⟨h1,h2⟩:=hmem.lv i ri hr v hv
      refine ⟨fun id hid=>?_,h2⟩
      obtain ⟨rr,hrr⟩:=h1 id hid
      by_cases hp:id ∈ pl
      · obtain ⟨j,hj,hji⟩:=List.getElem_of_mem hp
        have hj':j < m.length:=by omega
        have hji':pl.getD j 0 = id:=by rw [List.getD_eq_getElem?_getD,List.getElem?_eq_getElem hj]; exact hji
        have hmj:row? m j = some rr:=by rw [hrow hj',hji']; exact hrr
        obtain ⟨r2,hr2,_⟩:=keeps_at hks hmj
        exact ⟨r2,by rw [← hji',← hrow' hj']; exact hr2⟩
      exact ⟨rr,(hoth (row_lt hrr) hp).trans hrr⟩
    have:=hflat' _ ri hr v hv
    refine ⟨fun id hid=>?_,known_of this⟩
    cases v with
    | c v=>cases hid
    | _=>cases this
  refine ⟨hfr.os,hfr.tape,hfr.output,hfr.size,fun k hk hn=>hfr.block k hk ?_⟩
  rintro ⟨j,rj,hj,ho,he⟩
  have hjl:=row_lt hj
  rw [hrow hjl] at hj
  exact hn ⟨_,rj,hj,ho,he⟩
def unren (pl:List Nat):V → V
  | .any=>.any
  | .c v=>.c v
  | .p id off=>.p ((idx id pl 0).getD 0) off
  | .sl id off len cap=>.sl ((idx id pl 0).getD 0) off len cap
def place (pl:List Nat) (M m1:Rows):Rows :=
  (List.range M.length).map (fun i=>match idx i pl 0 with
    | some j=>row? m1 j
    | none=>row? M i) ++ m1.drop pl.length
def flatB (m:Rows):Bool:=m.all fun
  | some r=>r.cells.all V.isC
  | none=>true
theorem flatB_flat:∀ {m:Rows},flatB m = true → Flat m
  | [],_=>trivial
  | x :: t,h=>by
    unfold flatB at h
    rw [List.all_cons,Bool.and_eq_true] at h
    have ht:Flat t:=flatB_flat h.2
    cases x with
    | none=>exact ht
    | some r=>exact ⟨fun v hv=>List.all_eq_true.1 h.1 v hv,ht⟩
theorem idx_none {id:Nat}:∀ {l:List Nat} {k:Nat},idx id l k = none → id ∉ l
  | [],_,_=>by simp
  | x :: r,k,h=>by
    unfold idx at h
    split at h
    · cases h
    rename_i hx
    have:=idx_none h
    simp only [List.mem_cons,not_or]
    exact ⟨fun e=>hx e.symm,this⟩
theorem idx_at {l:List Nat} (hn:l.Nodup) {j:Nat} (hj:j < l.length):idx l[j] l 0 = some j:=by
  cases h:idx l[j] l 0 with
  | none=>exact (idx_none h (List.getElem_mem hj)).elim
  | some i =>
    obtain ⟨_,h2⟩:=idx_some h
    obtain ⟨p,q⟩:=List.getElem?_eq_some_iff.1 h2
    have:i - 0 = j:=(List.getElem_inj hn).1 q
    congr 1
theorem ren_unren {pl:List Nat} {v:V} {N:Nat} (h:∀ id,v.id? = some id → id ∈ pl):ren pl pl.length N (unren pl v) = v:=by
  have key:∀ id,v.id? = some id → (if (idx id pl 0).getD 0 < pl.length then pl.getD ((idx id pl 0).getD 0) 0 else N + ((idx id pl 0).getD 0 - pl.length)) = id:=by
    intro id hid
    cases hi:idx id pl 0 with
    | none=>exact (idx_none hi (h id hid)).elim
    | some j =>
      obtain ⟨_,h2⟩:=idx_some hi
      obtain ⟨p,q⟩:=List.getElem?_eq_some_iff.1 h2
      have hj:j - 0 = j:=Nat.sub_zero j
      simp only [hj] at p q
      simp only [Option.getD_some,if_pos p]
      rw [List.getD_eq_getElem?_getD,List.getElem?_eq_getElem p]
      exact q
  cases v with
  | any=>rfl
  | c v=>rfl
  | p id off=>simp only [unren,ren,key id rfl]
  | sl id off len cap=>simp only [unren,ren,key id rfl]
def okS (chk:Bool) (pl:List Nat) (M m0 m1:Rows) (args a0:List V):Bool :=
  okE pl M.length m0 m1 a0 && args.all (fun v=>match v.id? with
    | some id=>pl.contains id
    | none=>true) && (!chk || (flatB m0 && flatB m1))
theorem okS_spec {P:Program} {f:FuncId} {args:List V} {M m1:Rows} {r:V} {pl:List Nat} {chk:Bool} (h:FSpec P f (args.map (unren pl)) (pl.map (row? M)) r m1) (hf:chk = true ∨ (Flat (pl.map (row? M)) ∧ Flat m1))
    (hk:okS chk pl M (pl.map (row? M)) m1 args (args.map (unren pl)) = true):FSpec P f args M (ren pl pl.length M.length r) (place pl M m1):=by
  unfold okS at hk
  rw [Bool.and_eq_true,Bool.and_eq_true] at hk
  obtain ⟨⟨hE,hids⟩,hc⟩:=hk
  have hflat:Flat (pl.map (row? M)) ∧ Flat m1:=by
    rcases hf with rfl | hf
    · simp only [Bool.not_true,Bool.false_or,Bool.and_eq_true] at hc
      exact ⟨flatB_flat hc.1,flatB_flat hc.2⟩
    exact hf
  have hE':=hE
  unfold okE at hE'
  simp only [Bool.and_eq_true] at hE'
  obtain ⟨⟨⟨⟨hnd,hlt⟩,hks⟩,_⟩,_⟩:=hE'
  have hnd:pl.Nodup:=of_decide_eq_true hnd
  have hkl:=keeps_len hks
  rw [List.length_map] at hkl
  have hlt:∀ {j},(hj:j < pl.length) → pl[j] < M.length:=fun {j} hj=>of_decide_eq_true (List.all_eq_true.1 hlt _ (List.getElem_mem hj))
  have pl_len:(List.range M.length |>.map (fun i=>match idx i pl 0 with
    | some j=>row? m1 j
    | none=>row? M i)).length = M.length:=by simp
  have rowlt:∀ i,i < M.length → row? (place pl M m1) i = (match idx i pl 0 with
    | some j=>row? m1 j
    | none=>row? M i):=by
    intro i hi
    unfold place
    show ((_ ++ _)[i]?).bind _ = _
    rw [List.getElem?_append_left (by rw [pl_len]; exact hi)]
    simp only [List.getElem?_map,List.getElem?_range hi,Option.map_some,Option.bind_some]
  have e1:pl.map (row? (place pl M m1)) = m1.take (pl.map (row? M)).length:=by
    apply List.ext_getElem?
    intro j
    rw [List.getElem?_map,List.length_map,List.getElem?_take]
    by_cases hj:j < pl.length
    · rw [if_pos hj,List.getElem?_eq_getElem hj,Option.map_some,rowlt _ (hlt hj),idx_at hnd hj,List.getElem?_eq_getElem (by omega)]
      simp only [row?]
      rw [List.getElem?_eq_getElem (by omega)]
      rfl
    rw [if_neg hj,List.getElem?_eq_none (by omega)]
    rfl
  have e2:(place pl M m1).drop M.length = m1.drop (pl.map (row? M)).length:=by
    unfold place
    rw [List.length_map]
    have:=List.drop_left' (l₂:=m1.drop pl.length) pl_len
    exact this
  have e3:(others pl M.length).map (row? (place pl M m1)) = (others pl M.length).map (row? M):=by
    apply List.map_congr_left
    intro i hi
    obtain ⟨h1,h2⟩:=List.mem_filter.1 hi
    have h1:=List.mem_range.1 h1
    rw [rowlt i h1]
    cases hx:idx i pl 0 with
    | none=>rfl
    | some j =>
      obtain ⟨_,hq⟩:=idx_some hx
      have:=List.mem_of_getElem? hq
      simp [this] at h2
  have hemb:=FSpec.embed (M:=M) (M':=place pl M m1) pl h (by rw [e1,e2,e3]) (by exact hE) hflat.1 hflat.2
  have hargs:(args.map (unren pl)).map (ren pl (pl.map (row? M)).length M.length) = args:=by
    rw [List.map_map,List.length_map]
    conv=>rhs; rw [← List.map_id args]
    refine List.map_congr_left fun v hv=>?_
    refine ren_unren fun id hid=>?_
    have:=List.all_eq_true.1 hids v hv
    rw [hid] at this
    simpa using this
  rw [hargs] at hemb
  rw [List.length_map] at hemb
  exact hemb
def eff (P:Program) (s:St) (o:Oper) (a:Option Ans):Option (Eff × List Ob) :=
  match a with
  | some (.is v)=>match eff0 P s o none with
    | some (.val v',obs)=>some (.val v,.prop (v' = v) :: obs)
    | _=>none
  | some .eqs=>match eqSame P s o with
    | some (b,p)=>some (.val (.c (.bool b)),[.prop p])
    | none=>none
  | some (.sub chk pl r mo)=>match eff0 P s o (some (.call (ren pl pl.length s.m.length r) (place pl s.m (mo.getD (pl.map (row? s.m)))))) with
    | some (.all mm v,[.fcall g args _ _ _]) =>
      match okS chk pl s.m (pl.map (row? s.m)) (mo.getD (pl.map (row? s.m))) args (args.map (unren pl)) with
      | true=>some (.all mm v,.fcall g (args.map (unren pl)) (pl.map (row? s.m)) r (mo.getD (pl.map (row? s.m))) :: (match chk with
        | true=>[]
        | false=>[.prop (Flat (pl.map (row? s.m)) ∧ Flat (mo.getD (pl.map (row? s.m))))]))
      | false=>none
    | _=>none
  | _=>eff0 P s o a
theorem effPure_all {P:Program} {s:St} {o:Oper} {a:Option Ans} {mm:Rows} {v:V} {obs:List Ob} (h:effPure P s o a = some (.all mm v,obs)):False:=by
  unfold effPure at h
  repeat' (split at h)
  all_goals first
    | (cases h; done)
    | (simp at h; done)
theorem eff0_call {P:Program} {s:St} {o:Oper} {r:V} {m' mm M M':Rows} {v r':V} {g:FuncId} {args:List V} (h:eff0 P s o (some (.call r m')) = some (.all mm v,[.fcall g args M r' M'])):M = s.m ∧ r' = r ∧ M' = m':=by
  unfold eff0 at h
  split at h
  case h_13 c hop =>
    split at h
    · split at h
      · split at h
        · simp only at h
          split at h
          · cases h
            exact ⟨rfl,rfl,rfl⟩
          cases h
        exact (effPure_all h).elim
      cases h
    · split at h
      · cases h
      exact (effPure_all h).elim
    exact (effPure_all h).elim
  all_goals exfalso
  all_goals first
    | (exact effPure_all h; done)
    | skip
  all_goals (repeat' (split at h))
  all_goals first
    | (exact effPure_all h; done)
    | (simp at h; done)
    | (cases h; done)
theorem eqSame_eff {P:Program} {s:St} {o:Oper} {b:Bool} {p:Prop} (h:eqSame P s o = some (b,p)) (hp:p):eff0 P s o none = some (.val (.c (.bool b)),[]):=by
  unfold eqSame at h
  split at h
  · rename_i op t x y yt hop
    have h0:eff0 P s o none = effPure P s o none:=by unfold eff0; rw [hop]
    have ops:o.op.operands = #[x,y]:=by rw [hop]; rfl
    split at h
    · rename_i xs ys hx hy
      split at h
      · rename_i hc
        cases h
        cases hp
        obtain ⟨b,hb⟩:=Option.isSome_iff_exists.1 hc.2
        have hbt:=eqV_self _ _ _ _ hb
        subst hbt
        have he:eqAgg P s.rho o = some (.bool true):=by
          unfold eqAgg
          rw [hop]
          simp only [St.rho,hx,hy,V.val]
          rw [if_pos hc.1,hb]
          rfl
        rw [h0]
        unfold effPure
        rw [ops,hop]
        simp only [List.all_cons,hx,hy,V.isC,List.all_nil,Bool.and_self,if_true,he]
      cases h
    · rename_i xs ys hx hy
      split at h
      · rename_i hc
        cases h
        cases hp
        obtain ⟨b,hb⟩:=Option.isSome_iff_exists.1 hc.2
        have hbt:=eqV_self _ _ _ _ hb
        subst hbt
        have he:eqAgg P s.rho o = some (.bool false):=by
          unfold eqAgg
          rw [hop]
          simp only [St.rho,hx,hy,V.val]
          rw [if_pos hc.1,hb]
          rfl
        rw [h0]
        unfold effPure
        rw [ops,hop]
        simp only [List.all_cons,hx,hy,V.isC,List.all_nil,Bool.and_self,if_true,he]
      cases h
    cases h
  cases h
theorem eff_cases {P:Program} {s:St} {o:Oper} {a:Option Ans} {e:Eff} {obs:List Ob} (h:eff P s o a = some (e,obs)) (ho:Holds P obs):∃ a' obs',eff0 P s o a' = some (e,obs') ∧ Holds P obs':=by
  unfold eff at h
  split at h
  · split at h
    · rename_i v' obs' he
      cases h
      have hv:v' = _:=ho.1
      subst hv
      exact ⟨none,obs',he,ho.2⟩
    cases h
  · split at h
    · rename_i b p he
      cases h
      exact ⟨none,[],eqSame_eff he ho.1,trivial⟩
    cases h
  · split at h
    · rename_i g args x1 x2 x3 he
      split at h
      · rename_i hk
        simp only [Option.some.injEq,Prod.mk.injEq] at h
        obtain ⟨rfl,rfl⟩:=h
        refine ⟨_,_,he,?_⟩
        obtain ⟨e1,e2,e3⟩:=eff0_call he
        subst e1 e2 e3
        refine ⟨okS_spec ho.1 ?_ hk,trivial⟩
        rename_i chk _ _ _ _ _ _ _
        cases chk with
        | true=>exact .inl rfl
        | false=>exact .inr ho.2.1
      cases h
    cases h
  exact ⟨_,obs,h,ho⟩
section
variable {P:Program} {C:Cx} {β:Env} {s:St} {o:Oper} {ans:Option Ans} {e:Eff} {obs:List Ob} {w w0:World} {a:Act} {K:Act → World → Prop} {Q:Exit → Act → World → Prop}
theorem step_ok (h:Ok C β w0 s a w) (he:eff P s o ans = some (e,obs)) (ho:Holds P obs) (hk:∀ β' a' w',Ok C β' w0 (stepSt s o.dst e) a' w' → K a' w'):o.wp P a w K Q:=by
  obtain ⟨ans,obs,he,ho⟩:=eff_cases he ho
  have hρ:∀ x ∈ o.op.operands,(s.at x).known = true → a.eval x = (s.at x).up β:=fun x _ hk=>h.tmps.eval x hk
  unfold Oper.wp
  cases e with
  | val v =>
    obtain ⟨_,hr,hl,hkn⟩:=eff_val_sound (w:=w) h.here he ho hρ (fun id r hc _=>h.mem.blk id r hc)
    have hlv:=hl s.m (fun x _=>at_lv h.ltt x) (fun id r hr _ v hv=>(h.mem.lv id r hr v hv).1)
    have key:∀ w',Below w.heap.size w w' → K (a.put o.dst (v.up β)) w':=by
      intro w' hw
      refine hk β _ _ ⟨h.tmps.put _ fun _=>rfl,(put_defers _).trans h.defers,?_,?_,?_,?_,(by simp only [stepSt,put_m]; exact h.pin),h.laid⟩
      · simp only [stepSt,put_m]; exact h.mem.keep hw
      · simp only [stepSt,put_m]; exact h.dirty
      · exact h.frame.trans (Fr.of_below (D:=fun _=>False) hw) (fun _ _ h=>h.elim)
      simp only [stepSt,put_m]
      intro u hu
      rcases put_mem hu with hu | rfl
      · exact h.ltt u hu
      exact hlv
    rcases hr with hr | ⟨f,args,r,rfl,hc,hr⟩
    · rw [hr]
      exact key w (Below.refl _ _)
    rw [hr,Oper.upon_enter]
    refine hc.mono fun e' w' hw=>?_
    obtain ⟨rfl,hb⟩:=hw
    exact key w' hb
  | new cells t rf =>
    obtain ⟨_,hr,hrf,hkc,hl⟩:=eff_new_sound (w:=w) he ho hρ
    have hlc:=hl s.m (fun x _=>at_lv h.ltt x)
    obtain ⟨β',hβ,hself⟩:∃ β':Env,(∀ i,i < s.m.length → β' i = β i) ∧ β' s.m.length = (w.heap.size,0) :=
      ⟨fun i=>if i = s.m.length then (w.heap.size,0) else β i,fun i hi=>by simp only; rw [if_neg (Nat.ne_of_lt hi)],by simp⟩
    rw [hr β' s.m.length hself]
    show K (a.put o.dst _) _
    have hbel:Below w.heap.size w (w.alloc (.cells (cells.map (V.up β)).toArray t (0,0))):=(Below.refl _ _).alloc (Nat.le_refl _) _
    refine hk β' _ _ ⟨?_,(put_defers _).trans h.defers,?_,?_,?_,?_,⟨fun i hi=>(hβ i (Nat.lt_of_lt_of_le hi h.pin.2)).trans (h.pin.1 i hi),(by have:=h.pin.2; simp only [stepSt,List.length_append,List.length_singleton]; omega)⟩,h.laid⟩
    · exact (h.tmps.congr h.ltt hβ).put _ fun _=>rfl
    · simp only [stepSt]
      refine ⟨fun id r hr=>?_,fun i j ri rj hi hj ho hij=>?_,fun id r hr v hv=>?_⟩
      · rcases row_append hr with hr | ⟨hid',hr2⟩
        · rw [hβ id (row_lt hr)]
          exact ((h.mem.blk id r hr).keep hbel.size (hbel.block _ (h.mem.blk id r hr).1)).congr (fun v hv=>(h.mem.lv id r hr v hv).1) hβ
        subst hid'
        cases hr2
        rw [hself]
        refine ⟨by simp [World.alloc_eq],fun k v hk=>?_,fun _=>⟨(cells.map (V.up β)).toArray,t,Array.getElem?_push_size⟩⟩
        have hh:(w.alloc (.cells (cells.map (V.up β)).toArray t (0,0))).heap[w.heap.size]? = some (.cells (cells.map (V.up β)).toArray t (0,0)):=Array.getElem?_push_size
        have hk':cells[k]? = some v:=hk
        have h0:0 + k = k:=Nat.zero_add k
        simp only [World.cell?,hh,Option.isSome_none,Bool.false_eq_true,if_false,h0,List.getElem?_toArray,List.getElem?_map,hk',Option.map_some]
        rw [up_congr (hlc v (List.mem_of_getElem? hk')) hβ]
      · have blt:∀ i r,row? s.m i = some r → (β i).1 < w.heap.size:=fun i r hr=>(h.mem.blk i r hr).1
        rcases row_append hi with h1 | ⟨h1,_⟩
        · rcases row_append hj with h2 | ⟨h2,_⟩
          · rw [hβ i (row_lt h1),hβ j (row_lt h2)] at hij
            exact h.mem.inj i j ri rj h1 h2 ho hij
          rw [hβ i (row_lt h1),h2,hself] at hij
          have:=blt i ri h1
          omega
        rcases row_append hj with h2 | ⟨h2,_⟩
        · rw [hβ j (row_lt h2),h1,hself] at hij
          have:=blt j rj h2
          omega
        rw [h1,h2]
      rcases row_append hr with hr | ⟨hid',hr2⟩
      · exact ⟨lv_append (h.mem.lv id r hr v hv).1,(h.mem.lv id r hr v hv).2⟩
      cases hr2
      exact ⟨lv_append (hlc v hv),hkc v hv⟩
    · intro id r hr ho
      simp only [stepSt] at hr
      rcases row_append hr with hr | ⟨rfl,hr⟩
      · rw [hβ id (row_lt hr)]
        exact h.dirty id r hr ho
      rw [hself]
      exact .inl h.frame.size
    · exact h.frame.trans (Fr.of_below (D:=fun _=>False) hbel) (fun _ _ h=>h.elim)
    simp only [stepSt]
    intro u hu
    rcases put_mem hu with hu | rfl
    · exact lv_append (h.ltt u hu)
    intro id hid
    rw [(hrf s.m.length).1] at hid
    cases hid
    exact ⟨⟨true,cells⟩,row_append_new⟩
  | put id off vs =>
    obtain ⟨_,r,t,x,y,hm,how,hop,hx,hv,hyk,hlen,hrun⟩:=eff_put_sound (ρ:=a.eval) (β:=β) (w:=w) he ho
    have hb:=h.mem.blk id r hm
    obtain ⟨w',hr,hb',hon⟩:=hrun hρ (blk_win hb how)
    rw [hr]
    show K (a.put o.dst undef) w'
    have hms:(stepSt s o.dst (.put id off vs)).m = s.m.set id (some ⟨true,splice r.cells off vs⟩):=by simp [stepSt,hm,how]
    refine hk β _ _ ⟨h.tmps.put (v:=.c undef) _ fun _=>rfl,(put_defers _).trans h.defers,?_,?_,?_,?_,(by rw [hms,List.length_set]; exact h.pin),h.laid⟩
    · rw [hms]
      refine ⟨fun i ri hi=>?_,fun i j ri rj hi hj ho' hij=>?_,fun i ri hi v hv'=>?_⟩
      · rcases row_set hi with ⟨hne,hi⟩ | ⟨hii,hi2⟩
        · refine (h.mem.blk i ri hi).keep (by rw [hon.size]; exact Nat.le_refl _) (hon.block _ fun hh=>hne ?_)
          exact (h.mem.inj id i r ri hm hi how hh.symm).symm
        subst hii
        cases hi2
        exact win_blk hb' true
      · have old : ∀ k rk, row? (s.m.set id (some ⟨true, splice r.cells off vs⟩)) k = some rk → ∃ rk', row? s.m k = some rk' ∧ (rk.own = true → rk'.own = true) := by
          intro k rk hk'
          rcases row_set hk' with ⟨_,hk'⟩ | ⟨rfl,hk'⟩
          · exact ⟨rk,hk',fun hh=>hh⟩
          exact ⟨r,hm,fun _=>how⟩
        obtain ⟨ri',hi',oi⟩:=old i ri hi
        obtain ⟨rj',hj',_⟩:=old j rj hj
        exact h.mem.inj i j ri' rj' hi' hj' (oi ho') hij
      rcases row_set hi with ⟨_,hi⟩ | ⟨hii,hi2⟩
      · exact ⟨lv_set hm (h.mem.lv i ri hi v hv').1,(h.mem.lv i ri hi v hv').2⟩
      subst hii
      cases hi2
      rcases splice_mem hv' with hv' | hv'
      · exact ⟨lv_set hm (h.mem.lv i r hm v hv').1,(h.mem.lv i r hm v hv').2⟩
      rw [hv] at hv'
      exact ⟨lv_set hm (cells_lv (at_lv h.ltt y) v hv'),cells_known hyk v hv'⟩
    · rw [hms]
      intro i ri hi ho'
      rcases row_set hi with ⟨_,hi⟩ | ⟨rfl,hi⟩
      · exact h.dirty i ri hi ho'
      exact h.dirty i r hm how
    · exact h.frame.trans hon.fr fun b hb' hbe => by
        rcases h.dirty id r hm how with h1 | h1
        · omega
        rw [hbe]; exact h1
    rw [hms]
    intro u hu
    rcases put_mem hu with hu | rfl
    · exact lv_set hm (h.ltt u hu)
    exact lv_c _ _
  | all m' v =>
    obtain ⟨⟨f,args,hsp,hr⟩,hks,hvk,hvl⟩:=eff_all_sound (w:=w) he ho hρ
    rw [hr,Oper.upon_enter]
    refine (hsp w β h.here h.apart h.mem).mono fun e' w' hw=>?_
    obtain ⟨β',hβ,hnew,rfl,hmem,hfr⟩:=hw
    have lvm:∀ u:V,u.lv s.m → u.lv m':=fun u hu id hid=>by
      obtain ⟨r,hr⟩:=hu id hid
      obtain ⟨r',hr',_⟩:=keeps_at hks hr
      exact ⟨r',hr'⟩
    refine hk β' _ _ ⟨(h.tmps.congr h.ltt hβ).put _ fun _=>rfl,(put_defers _).trans h.defers,hmem,fun id r hr ho'=>?_,?_,fun u hu=>?_,⟨fun i hi=>(hβ i (Nat.lt_of_lt_of_le hi h.pin.2)).trans (h.pin.1 i hi),Nat.le_trans h.pin.2 (keeps_len hks)⟩,h.laid⟩
    · by_cases hid:id < s.m.length
      · obtain ⟨r0,hr0,hw0⟩:=keeps_back hks hid hr
        rw [hβ id hid]
        exact h.dirty id r0 hr0 (by rw [← hw0]; exact ho')
      exact .inl (Nat.le_trans h.frame.size (hnew id r (by omega) hr ho'))
    · exact h.frame.trans hfr fun b hb hd => by
        obtain ⟨i,ri,hi,hoi,rfl⟩:=hd
        rcases h.dirty i ri hi hoi with h1 | h1
        · omega
        exact h1
    rcases put_mem hu with hu | rfl
    · exact lvm u (h.ltt u hu)
    exact hvl
end
def slots:Nat → Nat → List (Nat × V) → List V
  | 0,_,_=>[]
  | n + 1,i,[]=>.any :: slots n (i + 1) []
  | n + 1,i,(j,v) :: r=>if j = i then v :: slots n (i + 1) r else .any :: slots n (i + 1) ((j,v) :: r)
abbrev vI (x:Int):V:=.c (.int .i64 x)
abbrev vU (x:Int):V:=.c (.int .u64 x)
abbrev vT:V:=.c (.bool true)
abbrev vF:V:=.c (.bool false)
def mask:Nat → Nat → List Nat → List Bool
  | 0,_,_=>[]
  | _ + 1,_,[]=>[]
  | n + 1,i,j :: r=>if j = i then true :: mask n (i + 1) r else false :: mask n (i + 1) (j :: r)
end Go.Proofs.YtikepohhmagdpaaDoor.U
