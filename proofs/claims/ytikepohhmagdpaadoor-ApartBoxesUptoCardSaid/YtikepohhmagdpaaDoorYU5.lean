import Derived.Test.YtikepohhmagdpaaDoorYU3
section
namespace Go.Proofs.YtikepohhmagdpaaDoor.U
set_option linter.unusedSimpArgs false
set_option linter.unusedVariables false
inductive Steps (P:Program) (body:Code) (id:Nat):Nat → St → Ex → St → Prop where
  | stop {s s':St} (h:TSpec P body s (.exit id) s'):Steps P body id 0 s .normal s'
  | ret {s s':St} (h:TSpec P body s .ret s'):Steps P body id 0 s .ret s'
  | step {n:Nat} {s s1 s':St} {e:Ex} (h:TSpec P body s .normal s1) (t:Steps P body id n s1 e s'):Steps P body id (n + 1) s e s'
def Rounds (P:Program) (body:Code) (id:Nat) (s:St) (e:Ex) (s':St):Prop:=∃ n,Steps P body id n s e s'
section
variable {P:Program} {body:Code} {id:Nat} {s s1 s':St} {e:Ex}
theorem Rounds.stop (h:TSpec P body s (.exit id) s'):Rounds P body id s .normal s':=⟨0,.stop h⟩
theorem Rounds.ret (h:TSpec P body s .ret s'):Rounds P body id s .ret s':=⟨0,.ret h⟩
theorem Rounds.step (h:TSpec P body s .normal s1) (t:Rounds P body id s1 e s'):Rounds P body id s e s':=let ⟨n,t⟩:=t; ⟨n + 1,.step h t⟩
theorem Steps.cases' {n:Nat} (h:Steps P body id n s e s'):(∃ k s1,n = k + 1 ∧ TSpec P body s .normal s1 ∧ Steps P body id k s1 e s') ∨ (e = .normal ∧ TSpec P body s (.exit id) s') ∨ (e = .ret ∧ TSpec P body s .ret s'):=by
  cases h with
  | stop h=>exact .inr (.inl ⟨rfl,h⟩)
  | ret h=>exact .inr (.inr ⟨rfl,h⟩)
  | step h t=>exact .inl ⟨_,_,rfl,h,t⟩
theorem Rounds.spec (h:Rounds P body id s e s'):TSpec P (.block id (.loop body)) s e s':=by
  obtain ⟨n,h⟩:=h
  refine loop_spec (α:=Nat × St) (fun x=>x.2) (fun x=>x.1) (fun x=>Steps P body id x.1 x.2 e s') (fun x hx=>?_) (n,s) h
  rcases hx.cases' with ⟨k,s1,hn,h1,h2⟩ | h | h
  · exact .inl ⟨(k,s1),h2,by simp [hn],h1⟩
  · exact .inr (.inl h)
  exact .inr (.inr h)
end
end Go.Proofs.YtikepohhmagdpaaDoor.U
end
section
namespace Go.Proofs.YtikepohhmagdpaaDoor.U
set_option linter.unusedVariables false
theorem tspec_dim {P:Program} {sc:Script} {sb:Blocks} {c:Code} {s s':St} {e:Ex} {obs:List Ob} (b:List Bool) (k:Nat)
    (h:(match ev P sc sb c s with
      | some (e1,s1,o1)=>some (e1,(⟨dim b s1.t,s1.m.take k⟩:St),o1,decide (k ≤ s1.m.length) && decide (s.m.length ≤ k) && (dim b s1.t).all (fun v=>v.there (s1.m.take k)))
      | none=>none) = some (e,s',obs,true)) (hh:Holds P obs) (hr:Flat s'.m):TSpec P c s e s':=by
  split at h
  · rename_i e1 s1 o1 he
    simp only [Option.some.injEq,Prod.mk.injEq,Bool.and_eq_true] at h
    obtain ⟨rfl,rfl,rfl,⟨hk,hc⟩,ht⟩:=h
    exact TSpec.dim b k (tspec_of he hh) rfl hk hc ht hr
  cases h
abbrev nv (l:List (List Value)):List V:=l.flatten.map V.c
end Go.Proofs.YtikepohhmagdpaaDoor.U
end
