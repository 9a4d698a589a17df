import Derived.Test.YtmkgijiniopalaaDoorYU3
namespace Go.Proofs.YtmkgijiniopalaaDoor.U
set_option linter.unusedSimpArgs false
set_option linter.unusedVariables false
inductive Steps (P:Program) (body:Code) (id:Nat):Nat→St→Ex→St→Prop where
 | stop {s s':St} (h:TSpec P body s (.exit id) s'):Steps P body id 0 s .normal s'
 | ret {s s':St} (h:TSpec P body s .ret s'):Steps P body id 0 s .ret s'
 | step {n:Nat} {s s1 s':St} {e:Ex} (h:TSpec P body s .normal s1) (t:Steps P body id n s1 e s'):Steps P body id (n+1) s e s'
def Rounds (P:Program) (body:Code) (id:Nat) (s:St) (e:Ex) (s':St):Prop:=∃ n,Steps P body id n s e s'
section
variable {P:Program} {body:Code} {id:Nat} {s s1 s':St} {e:Ex}
theorem Rounds.stop (h:TSpec P body s (.exit id) s'):Rounds P body id s .normal s':=⟨0,.stop h⟩
theorem Rounds.ret (h:TSpec P body s .ret s'):Rounds P body id s .ret s':=⟨0,.ret h⟩
theorem Rounds.step (h:TSpec P body s .normal s1) (t:Rounds P body id s1 e s'):Rounds P body id s e s':=let ⟨n,t⟩:=t; ⟨n+1,.step h t⟩
theorem Steps.cases' {n:Nat} (h:Steps P body id n s e s'):(∃ k s1,n=k+1∧TSpec P body s .normal s1∧Steps P body id k s1 e s')∨(e = .normal∧TSpec P body s (.exit id) s')∨(e = .ret∧TSpec P body s .ret s'):=by
 cases h with
 | stop h=>exact .inr (.inl ⟨rfl,h⟩)
 | ret h=>exact .inr (.inr ⟨rfl,h⟩)
 | step h t=>exact .inl ⟨_,_,rfl,h,t⟩
theorem Rounds.spec (h:Rounds P body id s e s'):TSpec P (.block id (.loop body)) s e s':=by
 obtain ⟨n,h⟩:=h
 refine loop_spec (α:=Nat × St) (fun x=>x.2) (fun x=>x.1) (fun x=>Steps P body id x.1 x.2 e s') (fun x hx=>?_) (n,s) h
 rcases hx.cases' with ⟨k,s1,hn,h1,h2⟩ | h | h
 ·exact .inl ⟨(k,s1),h2,by simp [hn],h1⟩
 ·exact .inr (.inl h)
 exact .inr (.inr h)
inductive StepsN (P:Program) (m:Nat) (body:Code) (id:Nat):Nat→St→Ex→St→Prop where
 | stop {s s':St} (h:TSpecN P m body s (.exit id) s'):StepsN P m body id 0 s .normal s'
 | ret {s s':St} (h:TSpecN P m body s .ret s'):StepsN P m body id 0 s .ret s'
 | step {n:Nat} {s s1 s':St} {e:Ex} (h:TSpecN P m body s .normal s1) (t:StepsN P m body id n s1 e s'):StepsN P m body id (n+1) s e s'
def RoundsN (P:Program) (m:Nat) (body:Code) (id:Nat) (s:St) (e:Ex) (s':St):Prop:=∃ n,StepsN P m body id n s e s'
variable {m:Nat}
theorem RoundsN.stop (h:TSpecN P m body s (.exit id) s'):RoundsN P m body id s .normal s':=⟨0,.stop h⟩
theorem RoundsN.ret (h:TSpecN P m body s .ret s'):RoundsN P m body id s .ret s':=⟨0,.ret h⟩
theorem RoundsN.step (h:TSpecN P m body s .normal s1) (t:RoundsN P m body id s1 e s'):RoundsN P m body id s e s':=let ⟨n,t⟩:=t; ⟨n+1,.step h t⟩
theorem StepsN.cases' {n:Nat} (h:StepsN P m body id n s e s'):(∃ k s1,n=k+1∧TSpecN P m body s .normal s1∧StepsN P m body id k s1 e s')∨(e = .normal∧TSpecN P m body s (.exit id) s')∨(e = .ret∧TSpecN P m body s .ret s'):=by
 cases h with
 | stop h=>exact .inr (.inl ⟨rfl,h⟩)
 | ret h=>exact .inr (.inr ⟨rfl,h⟩)
 | step h t=>exact .inl ⟨_,_,rfl,h,t⟩
theorem RoundsN.spec (h:RoundsN P m body id s e s'):TSpecN P m (.block id (.loop body)) s e s':=by
 obtain ⟨n,h⟩:=h
 refine loop_specN (α:=Nat × St) (fun x=>x.2) (fun x=>x.1) (fun x=>StepsN P m body id x.1 x.2 e s') (fun x hx=>?_) (n,s) h
 rcases hx.cases' with ⟨k,s1,hn,h1,h2⟩ | h | h
 ·exact .inl ⟨(k,s1),h2,by simp [hn],h1⟩
 ·exact .inr (.inl h)
 exact .inr (.inr h)
end
end Go.Proofs.YtmkgijiniopalaaDoor.U
