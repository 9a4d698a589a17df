/- The law gantlaw1.RatTexts answers true for every input of at most 1048576 values and letters. -/
import Derived.Test.YtkpeembfagcpcaaDoorCards
import Derived.Test.YtkpeembfagcpcaaDoorTie
import Derived.Test.YtkpeembfagcpcaaDoorYOP
import Derived.Test.YtkpeembfagcpcaaDoorYPF
import Derived.Test.YtkpeembfagcpcaaDoorYRV
namespace Go.Proofs.YtkpeembfagcpcaaDoor.ratTextsU
open Go.ChangeShapes Go.WideShapes Go.ChangeAt Go.RowKit
open Go.ChangeMaps (open_string shut_string)
set_option linter.unusedVariables false
set_option linter.unusedSimpArgs false
theorem own:ownKnob Tryd.prog.godebug=none:=by kernel_rfl
theorem args_of {args:Array Value} {l:List Value} (h:args.toList=l):args=l.toArray:=by
 subst h; simp
def z0 (d:DataW Unit):Value:=match d with
 | .lit (.int k x)=>.int k x
 | _=>.int .u8 0
def cellsOf0:DataW Unit→List Value
 | .agg ds=>ds.flatMap fun d=>match d with
   | .agg es=>es.map z0
   | d=>[z0 d]
 | _=>[]
noncomputable def laidWorld (os:Os):World :=
 { World.holding Tryd.prog os ⟨#[], #[], []⟩ with heap := ((((World.holding Tryd.prog os ⟨#[], #[], []⟩).heap.modify 3 fun
  | .cells _ t frozen=>.cells (cellsOf0 Rows.laid_math_bits_deBruijn64tab).toArray t frozen
  | o=>o).modify 2 fun
  | .cells _ t frozen=>.cells (cellsOf0 Rows.laid_unicode_utf8_acceptRanges).toArray t frozen
  | o=>o).modify 1 fun
  | .cells _ t frozen=>.cells (cellsOf0 Rows.laid_unicode_utf8_first).toArray t frozen
  | o=>o) }
theorem laid_met (os:Os):laidMetH Tryd.prog Rows.ratTextsUptoRow.laid ((laidWorld os).forCall (fun _ _=>0) ⟨#[],#[.agg #[.bool false,.string ByteArray.empty,.string ByteArray.empty],.string ByteArray.empty],[]⟩).memory :=
 laidMet_of_run' 8 (by kernel_rfl) (by kernel_rfl)
set_option maxRecDepth 100000 in
theorem reads (os:Os) {H:Type} (enc:TypeId × Value→H):∃ x,DataW.whole enc Tryd.prog ((laidWorld os).forCall (fun _ _=>0) ⟨#[],#[.agg #[.bool false,.string ByteArray.empty,.string ByteArray.empty],.string ByteArray.empty],[]⟩).memory Tryd.f6.params.toList Rows.ratTextsSpec.vars false (#[.agg #[.bool false,.string ByteArray.empty,.string ByteArray.empty],.string ByteArray.empty]:Array Value).toList 8=some x∧x=([.agg [.lit (.bool false),.lit (.string []),.lit (.string [])],.lit (.string [])],[],x.2.2) :=
 ⟨([.agg [.lit (.bool false),.lit (.string []),.lit (.string [])],.lit (.string [])],[],[]),by kernel_rfl,rfl⟩
set_option maxRecDepth 100000 in
theorem lifted (os:Os) (started:os.Started) (H:Type) (enc:TypeId × Value→H) (Fi:Stop.Interp) :
 ReturnsInHanded {} Tryd.checked os 6 .any ((Rows.OpenSpec.upto Rows.ratTextsSpec).preRow enc Tryd.prog Tryd.f6 Rows.ratTextsUptoRow.domain false Rows.ratTextsUptoRow.laid) (((Rows.OpenSpec.upto Rows.ratTextsSpec).at Fi).post enc Tryd.prog Tryd.f6 false true false false):=by
 obtain ⟨x,hx,ex⟩:=reads os enc
 refine returnsInHanded_of_row (C:=Tryd.checked) (s:=(Rows.OpenSpec.upto Rows.ratTextsSpec)) own started (by kernel_rfl) Tryd.func6
  (witness_row_at (enc:=enc) (C:=Tryd.checked) false (laidWorld os) #[.agg #[.bool false,.string ByteArray.empty,.string ByteArray.empty],.string ByteArray.empty] rfl (by kernel_rfl) (by kernel_rfl) (by kernel_rfl)
   (OpenSpec.preRow_of_cond 8 hx (by rw [ex]; kernel_rfl) (fun k hk=>by cases hk; rw [ex]; kernel_rfl) (by kernel_rfl) (laid_met os))) ?_
 intro W base args ds gs before hval0 hW hcnd hcond hsz0 hL hsh _
 have hval:∀ (j:Nat) t v,Tryd.f6.params[j]? = some t→args[j]? = some v→Value.okWide Tryd.prog W .any base t v:=hval0
 have hW':=hW
 obtain ⟨p,q,hA0,hV,rfl,hfz,hnd⟩:=hW
 have hA:DataW.TrodAll enc Tryd.prog W 0 (fun _=>true) true Tryd.f6.params.toList args.toList ds p:=hA0
 rw [Tryd.params6] at hA hval
 obtain ⟨v0,vs0,d0,ds0,p0,q0,hargs,rfl,rfl,h0,r0⟩:=trodAll_cons hA
 obtain ⟨v1,vs1,d1,ds1,p1,q1,rfl,rfl,rfl,h1,r1⟩:=trodAll_cons r0
 obtain ⟨rfl,rfl,rfl⟩:=trodAll_nil r1
 obtain rfl:args = #[v0,v1]:=args_of hargs
 obtain ⟨rfl,rfl⟩:=trodVars_none hV
 obtain ⟨cs0,rfl,f0,rfl,b0,k0⟩:=O.open_plain (n:=12) (ls:=[.b,.s,.s]) (by kernel_rfl) Tryd.underlying28 (hval 0 28 v0 rfl rfl) h0
 obtain ⟨c0_0,cs0_1,rfl,f0_1⟩:=O.fits_b f0
 obtain ⟨c0_1,cs0_2,rfl,f0_2⟩:=O.fits_s f0_1
 obtain ⟨c0_2,cs0_3,rfl,f0_3⟩:=O.fits_s f0_2
 obtain rfl:=O.fits_nil f0_3
 simp only [O.vsum,O.vlen] at b0
 obtain ⟨c1,rfl,rfl,rfl,y1⟩:=open_string Tryd.underlying9 (hval 1 9 v1 rfl rfl) h1
 have hbulk:=of_decide_eq_true (hcond _ rfl)
 simp only [Rows.uptoBulkAll,Rows.uptoBulk,List.cons_append,List.nil_append,List.append_nil,Array.length_toList] at hbulk
 have hlaid:U.Laid W:=O.laid_at (t:=205) (e:=5) (i:=0) (by kernel_rfl) (by kernel_rfl) (by kernel_rfl) (by kernel_rfl) (by kernel_rfl) (by kernel_rfl) (by kernel_rfl) hL
 clear hA0 hval0 hsz0 hL
 refine (Go.Proofs.YtkpeembfagcpcaaDoor.G.ratTexts_law c0_0 c0_1 c0_2 c1 (by omega) (by omega) (by have h_:c1.data.size=c1.size:=rfl; omega) W hlaid).mono fun e W' ⟨he,bel⟩=>?_
 subst he
 exact ⟨_,rfl,_,_,_,[],_,[],hW',trodAll_mk1 (shut_bool Tryd.underlying4 _),(trodAll_cons_mk (k0 _ _ _ _) (trodAll_cons_mk (shut_string Tryd.underlying9 y1) trodAll_mk0)),rfl,bel.frame _,fun h=>by cases h⟩
theorem ip:Tryd.prog.inPlace 6=Rows.ratTextsUptoRow.inPlace:=by kernel_rfl
theorem uf:Tryd.prog.unfollowed 6=Rows.ratTextsUptoRow.unfollowed:=by kernel_rfl
theorem rc:Tryd.prog.recurses 6=Rows.ratTextsUptoRow.recurses:=by kernel_rfl
theorem vn:Tryd.prog.varsNamed 6=Rows.ratTextsUptoRow.named:=by kernel_rfl
theorem jf:joinedFacts Tryd.prog 6 Tryd.f6 (Rows.OpenSpec.upto Rows.ratTextsSpec).bare Rows.ratTextsUptoRow=true:=by
 unfold joinedFacts
 rw [ip,uf,rc,vn,O.f_lo,O.f_mr,O.f_pk,O.f_sh,O.f_me]
 kernel_rfl
set_option maxRecDepth 100000 in
theorem said:Rows.RatTextsUptoSaid :=
 OpenClaim.holds_of_cond 6 Tryd.f6 rfl rfl rfl rfl rfl rfl rfl ⟨rfl,rfl,rfl,rfl,rfl⟩ rfl rfl rfl rfl rfl (by kernel_rfl) Tryd.func6 jf
  (of_decide_eq_true (by kernel_rfl)) (by unfold Func.isWrapper; first | (rw [if_pos (by decide +kernel)]; kernel_rfl) | (rw [if_neg (by decide +kernel)]; exact ⟨rfl,rfl⟩))
  (fun os started H enc _ Fi=>by rw [OpenClaim.pre_eq_preRow]; exact lifted os started H enc Fi)
set_option maxRecDepth 100000 in
theorem plain (f:FuncId) (fn:Func) (hf:Tryd.pinned.checked.prog.funcNamed "gantry/gantlaw1.RatTexts" = some f) (hfn:Tryd.pinned.checked.prog.funcs[f]? = some fn) :
 false=Tryd.pinned.checked.prog.looks [] ∧ ∀ (j:Nat) t,fn.params[j]? = some t→Tryd.pinned.checked.prog.wantsStandIn t=false:=by
 obtain rfl:f=6:=Option.some.inj ((show Tryd.prog.funcNamed "gantry/gantlaw1.RatTexts" = some 6 by kernel_rfl).symm.trans hf) |>.symm
 obtain rfl:fn=Tryd.f6:=(Option.some.inj (Tryd.func6.symm.trans hfn)).symm
 refine ⟨by kernel_rfl,fun j t ht=>?_⟩
 rw [Tryd.params6] at ht
 have hm:t=28∨t=9:=by simpa using Array.mem_of_getElem? ht
 rcases hm with rfl | rfl
 all_goals first
  | exact (show Tryd.prog.wantsStandIn 9=false by kernel_rfl)
  | exact (show Tryd.prog.wantsStandIn 28=false by kernel_rfl)
set_option maxRecDepth 100000 in
theorem card:Rows.RatTextsUptoCardSaid :=
 Claim7.holds_tied_plain_at .later [] _ _ _ _ said (fun _ h=>by cases h) (by kernel_rfl) (fun _ h=>by cases h) ratTextsUpto_row_tie rfl ⟨rfl,rfl⟩ (by kernel_rfl) rfl plain (by kernel_rfl)
end Go.Proofs.YtkpeembfagcpcaaDoor.ratTextsU
namespace Go.Proofs.YtkpeembfagcpcaaDoor
/-- The row,under a short name,for the claim. -/
theorem ratTexts_holds:Rows.RatTextsUptoCardSaid:=ratTextsU.card
#print axioms ratTexts_holds
end Go.Proofs.YtkpeembfagcpcaaDoor
