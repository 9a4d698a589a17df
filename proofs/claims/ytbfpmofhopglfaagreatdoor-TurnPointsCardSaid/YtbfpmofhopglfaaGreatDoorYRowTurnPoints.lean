/- The law gantlaw1.TurnPoints answers true for every input. -/
import Derived.Test.YtbfpmofhopglfaaGreatDoorCards
import Derived.Test.YtbfpmofhopglfaaGreatDoorTie
import Derived.Test.YtbfpmofhopglfaaGreatDoorYOP
import Derived.Test.YtbfpmofhopglfaaGreatDoorYPF
import Derived.Test.YtbfpmofhopglfaaGreatDoorYTP
namespace Go.Proofs.YtbfpmofhopglfaaGreatDoor.turnPointsU
open Go.ChangeShapes Go.WideShapes Go.ChangeAt Go.RowKit
open Go.ChangeMaps (open_string shut_string)
set_option linter.unusedVariables false
set_option linter.unusedSimpArgs false
theorem own:ownKnob Tryz.prog.godebug=none:=by kernel_rfl
theorem args_of {args:Array Value} {l:List Value} (h:args.toList=l):args=l.toArray:=by
  subst h; simp
def z0 (d:DataW Unit):Value:=match d with
  | .lit (.int k x)=>.int k x
  | _=>.int .u8 0
def cellsOf0:DataW Unit→List Value
  | .agg ds=>ds.flatMap fun d=>match d with
    | .agg es=>es.map z0
    | d=>[z0 d]
  | _=>[]
noncomputable def laidWorld (os:Os):World :=
  { World.holding Tryz.prog os ⟨#[], #[], []⟩ with heap := ((((World.holding Tryz.prog os ⟨#[], #[], []⟩).heap.modify 2 fun
      | .cells _ t frozen=>.cells (cellsOf0 Rows.laid_math_bits_deBruijn64tab).toArray t frozen
      | o=>o).modify 4 fun
      | .cells _ t frozen=>.cells (cellsOf0 Rows.laid_unicode_utf8_acceptRanges).toArray t frozen
      | o=>o).modify 3 fun
      | .cells _ t frozen=>.cells (cellsOf0 Rows.laid_unicode_utf8_first).toArray t frozen
      | o=>o) }
theorem laid_met (os:Os):laidMetH Tryz.prog Rows.turnPointsRow.laid ((laidWorld os).forCall (fun _ _=>0) ⟨#[],#[.agg #[.bool false,.string ByteArray.empty,.string ByteArray.empty,.bool false,.string ByteArray.empty,.string ByteArray.empty]],[]⟩).memory :=
  laidMet_of_run' 8 (by kernel_rfl) (by kernel_rfl)
set_option maxRecDepth 100000 in
theorem reads (os:Os) {H:Type} (enc:TypeId × Value→H):∃ x,DataW.whole enc Tryz.prog ((laidWorld os).forCall (fun _ _=>0) ⟨#[],#[.agg #[.bool false,.string ByteArray.empty,.string ByteArray.empty,.bool false,.string ByteArray.empty,.string ByteArray.empty]],[]⟩).memory Tryz.f5.params.toList Rows.turnPointsSpec.vars false (#[.agg #[.bool false,.string ByteArray.empty,.string ByteArray.empty,.bool false,.string ByteArray.empty,.string ByteArray.empty]]:Array Value).toList 8=some x∧x=([.agg [.agg [.lit (.bool false),.lit (.string []),.lit (.string [])],.agg [.lit (.bool false),.lit (.string []),.lit (.string [])]]],[],x.2.2) :=
  ⟨([.agg [.agg [.lit (.bool false),.lit (.string []),.lit (.string [])],.agg [.lit (.bool false),.lit (.string []),.lit (.string [])]]],[],[]),by kernel_rfl,rfl⟩
set_option maxRecDepth 100000 in
theorem lifted (os:Os) (started:os.Started) (H:Type) (enc:TypeId × Value→H) (Fi:Stop.Interp) :
    ReturnsInHanded {} Tryz.checked os 5 .any ((OpenSpec.ofChange Rows.turnPointsSpec).preRow enc Tryz.prog Tryz.f5 Rows.turnPointsRow.domain false Rows.turnPointsRow.laid) (((OpenSpec.ofChange Rows.turnPointsSpec).at Fi).post enc Tryz.prog Tryz.f5 false true false false):=by
  obtain ⟨x,hx,ex⟩:=reads os enc
  refine returnsInHanded_of_row (C:=Tryz.checked) (s:=(OpenSpec.ofChange Rows.turnPointsSpec)) own started (by kernel_rfl) Tryz.func5
    (witness_row_at (enc:=enc) (C:=Tryz.checked) false (laidWorld os) #[.agg #[.bool false,.string ByteArray.empty,.string ByteArray.empty,.bool false,.string ByteArray.empty,.string ByteArray.empty]] rfl (by kernel_rfl) (by kernel_rfl) (by kernel_rfl)
      (OpenSpec.preRow_of_cond 8 hx (by rw [ex]; kernel_rfl) (fun k hk=>by cases hk) (by kernel_rfl) (laid_met os))) ?_
  intro W base args ds gs before hval0 hW hcnd hcond hsz0 hL hsh _
  have hval:∀ (j:Nat) t v,Tryz.f5.params[j]? = some t→args[j]? = some v→Value.okWide Tryz.prog W .any base t v:=hval0
  have hW':=hW
  obtain ⟨p,q,hA0,hV,rfl,hfz,hnd⟩:=hW
  have hA:DataW.TrodAll enc Tryz.prog W 0 (fun _=>true) true Tryz.f5.params.toList args.toList ds p:=hA0
  rw [Tryz.params5] at hA hval
  obtain ⟨v0,vs0,d0,ds0,p0,q0,hargs,rfl,rfl,h0,r0⟩:=trodAll_cons hA
  obtain ⟨rfl,rfl,rfl⟩:=trodAll_nil r0
  obtain rfl:args = #[v0]:=args_of hargs
  obtain ⟨rfl,rfl⟩:=trodVars_none hV
  obtain ⟨cs0,rfl,f0,rfl,b0,k0⟩:=O.open_plain (n:=12) (ls:=[.b,.s,.s,.b,.s,.s]) (by kernel_rfl) Tryz.underlying44 (hval 0 44 v0 rfl rfl) h0
  obtain ⟨c0_0,cs0_1,rfl,f0_1⟩:=O.fits_b f0
  obtain ⟨c0_1,cs0_2,rfl,f0_2⟩:=O.fits_s f0_1
  obtain ⟨c0_2,cs0_3,rfl,f0_3⟩:=O.fits_s f0_2
  obtain ⟨c0_3,cs0_4,rfl,f0_4⟩:=O.fits_b f0_3
  obtain ⟨c0_4,cs0_5,rfl,f0_5⟩:=O.fits_s f0_4
  obtain ⟨c0_5,cs0_6,rfl,f0_6⟩:=O.fits_s f0_5
  obtain rfl:=O.fits_nil f0_6
  simp only [O.vsum,O.vlen] at b0
  have hlaid:U.Laid W:=O.laid_at (t:=196) (e:=5) (i:=0) (by kernel_rfl) (by kernel_rfl) (by kernel_rfl) (by kernel_rfl) (by kernel_rfl) (by kernel_rfl) (by kernel_rfl) hL
  clear hA0 hval0 hsz0 hL
  refine (Go.Proofs.YtbfpmofhopglfaaGreatDoor.G.turnPoints_full c0_0 c0_1 c0_2 c0_3 c0_4 c0_5  W hlaid).mono fun e W' ⟨he,bel⟩=>?_
  subst he
  exact ⟨_,rfl,_,_,_,[],_,[],hW',trodAll_mk1 (shut_bool Tryz.underlying4 _),(trodAll_cons_mk (k0 _ _ _ _) trodAll_mk0),rfl,bel.frame _,fun h=>by cases h⟩
theorem ip:Tryz.prog.inPlace 5=Rows.turnPointsRow.inPlace:=by kernel_rfl
theorem uf:Tryz.prog.unfollowed 5=Rows.turnPointsRow.unfollowed:=by kernel_rfl
theorem rc:Tryz.prog.recurses 5=Rows.turnPointsRow.recurses:=by kernel_rfl
theorem vn:Tryz.prog.varsNamed 5=Rows.turnPointsRow.named:=by kernel_rfl
theorem jf:joinedFacts Tryz.prog 5 Tryz.f5 (OpenSpec.ofChange Rows.turnPointsSpec).bare Rows.turnPointsRow=true:=by
  unfold joinedFacts
  rw [ip,uf,rc,vn,O.f_lo,O.f_mr,O.f_pk,O.f_sh,O.f_me]
  kernel_rfl
set_option maxRecDepth 100000 in
theorem said:Rows.TurnPointsSaid :=
  OpenClaim.holds_of_cond 5 Tryz.f5 rfl rfl rfl rfl rfl rfl rfl ⟨rfl,rfl,rfl,rfl,rfl⟩ rfl rfl rfl rfl rfl (by kernel_rfl) Tryz.func5 jf
    (of_decide_eq_true (by kernel_rfl)) (by unfold Func.isWrapper; first | (rw [if_pos (by decide +kernel)]; kernel_rfl) | (rw [if_neg (by decide +kernel)]; exact ⟨rfl,rfl⟩))
    (fun os started H enc _ Fi=>by rw [OpenClaim.pre_eq_preRow]; exact lifted os started H enc Fi)
set_option maxRecDepth 100000 in
theorem plain (f:FuncId) (fn:Func) (hf:Tryz.pinned.checked.prog.funcNamed "gantry/gantlaw1.TurnPoints" = some f) (hfn:Tryz.pinned.checked.prog.funcs[f]? = some fn) :
    false=Tryz.pinned.checked.prog.looks [] ∧ ∀ (j:Nat) t,fn.params[j]? = some t→Tryz.pinned.checked.prog.wantsStandIn t=false:=by
  obtain rfl:f=5:=Option.some.inj ((show Tryz.prog.funcNamed "gantry/gantlaw1.TurnPoints" = some 5 by kernel_rfl).symm.trans hf) |>.symm
  obtain rfl:fn=Tryz.f5:=(Option.some.inj (Tryz.func5.symm.trans hfn)).symm
  refine ⟨by kernel_rfl,fun j t ht=>?_⟩
  rw [Tryz.params5] at ht
  have hm:t=44:=by simpa using Array.mem_of_getElem? ht
  subst hm
  all_goals first
    | exact (show Tryz.prog.wantsStandIn 44=false by kernel_rfl)
set_option maxRecDepth 100000 in
theorem card:Rows.TurnPointsCardSaid :=
  Claim7.holds_tied_plain_at .later [] _ _ _ _ said (fun _ h=>by cases h) (by kernel_rfl) (fun _ h=>by cases h) turnPoints_row_tie rfl ⟨rfl,rfl⟩ (by kernel_rfl) rfl plain (by kernel_rfl)
end Go.Proofs.YtbfpmofhopglfaaGreatDoor.turnPointsU
namespace Go.Proofs.YtbfpmofhopglfaaGreatDoor
/-- The row,under a short name,for the claim. -/
theorem turnPoints_holds:Rows.TurnPointsCardSaid:=turnPointsU.card
#print axioms turnPoints_holds
end Go.Proofs.YtbfpmofhopglfaaGreatDoor
