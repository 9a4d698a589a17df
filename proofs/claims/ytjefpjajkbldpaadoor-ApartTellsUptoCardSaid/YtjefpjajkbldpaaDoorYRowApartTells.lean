/- The law gantlaw1.ApartTells answers true for every input of at most 1048576 values and letters. -/
import Derived.Test.YtjefpjajkbldpaaDoorCards
import Derived.Test.YtjefpjajkbldpaaDoorTie
import Derived.Test.YtjefpjajkbldpaaDoorYOQ
import Derived.Test.YtjefpjajkbldpaaDoorYPF
import Derived.Test.YtjefpjajkbldpaaDoorYAW
namespace Go.Proofs.YtjefpjajkbldpaaDoor.apartTellsU
open Go.ChangeShapes Go.WideShapes Go.ChangeAt Go.RowKit
open Go.ChangeMaps (open_string shut_string)
set_option linter.unusedVariables false
set_option linter.unusedSimpArgs false
theorem own:ownKnob Tryd.prog.godebug=none:=by kernel_rfl
theorem args_of {args:Array Value} {l:List Value} (h:args.toList=l):args=l.toArray:=by
 subst h; simp
def z0 (d:DataW Unit):Value:=match d with
 | .lit (.int k x)=>.int k x
 | _=>.int .u8 0
def cellsOf0:DataW Unit→List Value
 | .agg ds=>ds.flatMap fun d=>match d with
   | .agg es=>es.map z0
   | d=>[z0 d]
 | _=>[]
noncomputable def laidWorld (os:Os):World :=
 { World.holding Tryd.prog os ⟨#[], #[], []⟩ with heap := ((World.holding Tryd.prog os ⟨#[], #[], []⟩).heap.modify 1 fun
  | .cells _ t frozen=>.cells (cellsOf0 Rows.laid_math_bits_deBruijn64tab).toArray t frozen
  | o=>o) }
theorem laid_met (os:Os):laidMetH Tryd.prog Rows.apartTellsUptoRow.laid ((laidWorld os).forCall (fun _ _=>0) ⟨#[],#[.slice none 0 0,.slice none 0 0],[]⟩).memory :=
 laidMet_of_run' 8 (by kernel_rfl) (by kernel_rfl)
set_option maxRecDepth 100000 in
theorem reads (os:Os) {H:Type} (enc:TypeId × Value→H):∃ x,DataW.whole enc Tryd.prog ((laidWorld os).forCall (fun _ _=>0) ⟨#[],#[.slice none 0 0,.slice none 0 0],[]⟩).memory Tryd.f3.params.toList Rows.apartTellsSpec.vars false (#[.slice none 0 0,.slice none 0 0]:Array Value).toList 8=some x∧x=([.nil,.nil],[],x.2.2) :=
 ⟨([.nil,.nil],[],[]),by kernel_rfl,rfl⟩
set_option maxRecDepth 100000 in
theorem lifted (os:Os) (started:os.Started) (H:Type) (enc:TypeId × Value→H) (Fi:Stop.Interp) :
 ReturnsInHanded {} Tryd.checked os 3 .any ((Rows.OpenSpec.upto Rows.apartTellsSpec).preRow enc Tryd.prog Tryd.f3 Rows.apartTellsUptoRow.domain false Rows.apartTellsUptoRow.laid) (((Rows.OpenSpec.upto Rows.apartTellsSpec).at Fi).post enc Tryd.prog Tryd.f3 false true false false):=by
 obtain ⟨x,hx,ex⟩:=reads os enc
 refine returnsInHanded_of_row (C:=Tryd.checked) (s:=(Rows.OpenSpec.upto Rows.apartTellsSpec)) own started (by kernel_rfl) Tryd.func3
  (witness_row_at (enc:=enc) (C:=Tryd.checked) false (laidWorld os) #[.slice none 0 0,.slice none 0 0] rfl (by kernel_rfl) (by kernel_rfl) (by kernel_rfl)
   (OpenSpec.preRow_of_cond 8 hx (by rw [ex]; kernel_rfl) (fun k hk=>by cases hk; rw [ex]; kernel_rfl) (by kernel_rfl) (laid_met os))) ?_
 intro W base args ds gs before hval0 hW hcnd hcond hsz0 hL hsh _
 have hval:∀ (j:Nat) t v,Tryd.f3.params[j]? = some t→args[j]? = some v→Value.okWide Tryd.prog W .any base t v:=hval0
 have hW':=hW
 obtain ⟨p,q,hA0,hV,rfl,hfz,hnd⟩:=hW
 have hA:DataW.TrodAll enc Tryd.prog W 0 (fun _=>true) true Tryd.f3.params.toList args.toList ds p:=hA0
 rw [Tryd.params3] at hA hval
 obtain ⟨v0,vs0,d0,ds0,p0,q0,hargs,rfl,rfl,h0,r0⟩:=trodAll_cons hA
 obtain ⟨v1,vs1,d1,ds1,p1,q1,rfl,rfl,rfl,h1,r1⟩:=trodAll_cons r0
 obtain ⟨rfl,rfl,rfl⟩:=trodAll_nil r1
 obtain rfl:args = #[v0,v1]:=args_of hargs
 obtain ⟨rfl,rfl⟩:=trodVars_none hV
 have hbulk:=of_decide_eq_true (hcond _ rfl)
 simp only [Rows.uptoBulkAll,Rows.uptoBulk,List.cons_append,List.nil_append,List.append_nil,Array.length_toList] at hbulk
 obtain ⟨pl0,ao0,ln0,cp0,rfl,alt0⟩:=O.open_list (n:=12) (W:=6) (ls:=[.b,.s,.s,.b,.s,.s]) Tryd.underlying22 (by kernel_rfl) (by kernel_rfl) (by decide) (hval 0 22 v0 rfl rfl) h0 (by omega)
 obtain ⟨pl1,ao1,ln1,cp1,rfl,alt1⟩:=O.open_list (n:=12) (W:=6) (ls:=[.b,.s,.s,.b,.s,.s]) Tryd.underlying22 (by kernel_rfl) (by kernel_rfl) (by decide) (hval 1 22 v1 rfl rfl) h1 (by omega)
 have hlaid:U.Laid W:=O.laid_at (t:=105) (e:=5) (i:=0) (by kernel_rfl) (by kernel_rfl) (by kernel_rfl) (by kernel_rfl) (by kernel_rfl) (by kernel_rfl) (by kernel_rfl) hL
 clear hA0 hval0 hsz0 hL
 refine (Go.Proofs.YtjefpjajkbldpaaDoor.G.apartTells_law ao0 ln0 cp0 ao1 ln1 cp1  W hlaid alt0 alt1).mono fun e W' ⟨he,bel⟩=>?_
 subst he
 exact ⟨_,rfl,_,_,_,[],_,[],hW',trodAll_mk1 (shut_bool Tryd.underlying4 _),(trodAll_cons_mk (Go.RowKit.Below.trod O.f_lo (by kernel_rfl) (of_decide_eq_true (by kernel_rfl)) h0 bel pl0) (trodAll_cons_mk (Go.RowKit.Below.trod O.f_lo (by kernel_rfl) (of_decide_eq_true (by kernel_rfl)) h1 bel pl1) trodAll_mk0)),rfl,bel.frame _,fun h=>by cases h⟩
theorem ip:Tryd.prog.inPlace 3=Rows.apartTellsUptoRow.inPlace:=by kernel_rfl
theorem uf:Tryd.prog.unfollowed 3=Rows.apartTellsUptoRow.unfollowed:=by kernel_rfl
theorem rc:Tryd.prog.recurses 3=Rows.apartTellsUptoRow.recurses:=by kernel_rfl
theorem vn:Tryd.prog.varsNamed 3=Rows.apartTellsUptoRow.named:=by kernel_rfl
theorem jf:joinedFacts Tryd.prog 3 Tryd.f3 (Rows.OpenSpec.upto Rows.apartTellsSpec).bare Rows.apartTellsUptoRow=true:=by
 unfold joinedFacts
 rw [ip,uf,rc,vn,O.f_lo,O.f_mr,O.f_pk,O.f_sh,O.f_me]
 kernel_rfl
set_option maxRecDepth 100000 in
theorem said:Rows.ApartTellsUptoSaid :=
 OpenClaim.holds_of_cond 3 Tryd.f3 rfl rfl rfl rfl rfl rfl rfl ⟨rfl,rfl,rfl,rfl,rfl⟩ rfl rfl rfl rfl rfl (by kernel_rfl) Tryd.func3 jf
  (of_decide_eq_true (by kernel_rfl)) (by unfold Func.isWrapper; first | (rw [if_pos (by decide +kernel)]; kernel_rfl) | (rw [if_neg (by decide +kernel)]; exact ⟨rfl,rfl⟩))
  (fun os started H enc _ Fi=>by rw [OpenClaim.pre_eq_preRow]; exact lifted os started H enc Fi)
set_option maxRecDepth 100000 in
theorem plain (f:FuncId) (fn:Func) (hf:Tryd.pinned.checked.prog.funcNamed "gantry/gantlaw1.ApartTells" = some f) (hfn:Tryd.pinned.checked.prog.funcs[f]? = some fn) :
 false=Tryd.pinned.checked.prog.looks [] ∧ ∀ (j:Nat) t,fn.params[j]? = some t→Tryd.pinned.checked.prog.wantsStandIn t=false:=by
 obtain rfl:f=3:=Option.some.inj ((show Tryd.prog.funcNamed "gantry/gantlaw1.ApartTells" = some 3 by kernel_rfl).symm.trans hf) |>.symm
 obtain rfl:fn=Tryd.f3:=(Option.some.inj (Tryd.func3.symm.trans hfn)).symm
 refine ⟨by kernel_rfl,fun j t ht=>?_⟩
 rw [Tryd.params3] at ht
 have hm:t=22:=by simpa using Array.mem_of_getElem? ht
 subst hm
 all_goals first
  | exact (show Tryd.prog.wantsStandIn 22=false by kernel_rfl)
set_option maxRecDepth 100000 in
theorem card:Rows.ApartTellsUptoCardSaid :=
 Claim7.holds_tied_plain_at .later [] _ _ _ _ said (fun _ h=>by cases h) (by kernel_rfl) (fun _ h=>by cases h) apartTellsUpto_row_tie rfl ⟨rfl,rfl⟩ (by kernel_rfl) rfl plain (by kernel_rfl)
end Go.Proofs.YtjefpjajkbldpaaDoor.apartTellsU
namespace Go.Proofs.YtjefpjajkbldpaaDoor
/-- The row,under a short name,for the claim. -/
theorem apartTells_holds:Rows.ApartTellsUptoCardSaid:=apartTellsU.card
#print axioms apartTells_holds
end Go.Proofs.YtjefpjajkbldpaaDoor
