/- The law gantlaw1.PolyChecks answers true for every input of at most 1048576 values and letters. -/
import Derived.Test.YtkpeembfagcpcaaDoorCards
import Derived.Test.YtkpeembfagcpcaaDoorTie
import Derived.Test.YtkpeembfagcpcaaDoorYOQ
import Derived.Test.YtkpeembfagcpcaaDoorYPF
import Derived.Test.YtkpeembfagcpcaaDoorYPX
namespace Go.Proofs.YtkpeembfagcpcaaDoor.polyChecksU
open Go.ChangeShapes Go.WideShapes Go.ChangeAt Go.RowKit
open Go.ChangeMaps (open_string shut_string)
set_option linter.unusedVariables false
set_option linter.unusedSimpArgs false
theorem own:ownKnob Tryd.prog.godebug=none:=by kernel_rfl
theorem args_of {args:Array Value} {l:List Value} (h:args.toList=l):args=l.toArray:=by
  subst h; simp
def z0 (d:DataW Unit):Value:=match d with
  | .lit (.int k x)=>.int k x
  | _=>.int .u8 0
def cellsOf0:DataW Unit→List Value
  | .agg ds=>ds.flatMap fun d=>match d with
    | .agg es=>es.map z0
    | d=>[z0 d]
  | _=>[]
noncomputable def laidWorld (os:Os):World :=
  { World.holding Tryd.prog os ⟨#[], #[], []⟩ with heap := ((World.holding Tryd.prog os ⟨#[], #[], []⟩).heap.modify 3 fun
      | .cells _ t frozen=>.cells (cellsOf0 Rows.laid_math_bits_deBruijn64tab).toArray t frozen
      | o=>o) }
theorem laid_met (os:Os):laidMetH Tryd.prog Rows.polyChecksUptoRow.laid ((laidWorld os).forCall (fun _ _=>0) ⟨#[],#[.slice none 0 0,.agg #[.bool false,.string ByteArray.empty,.string ByteArray.empty,.bool false,.string ByteArray.empty,.string ByteArray.empty],.agg #[.bool false,.string ByteArray.empty,.string ByteArray.empty,.bool false,.string ByteArray.empty,.string ByteArray.empty]],[]⟩).memory :=
  laidMet_of_run' 8 (by kernel_rfl) (by kernel_rfl)
set_option maxRecDepth 100000 in
theorem reads (os:Os) {H:Type} (enc:TypeId × Value→H):∃ x,DataW.whole enc Tryd.prog ((laidWorld os).forCall (fun _ _=>0) ⟨#[],#[.slice none 0 0,.agg #[.bool false,.string ByteArray.empty,.string ByteArray.empty,.bool false,.string ByteArray.empty,.string ByteArray.empty],.agg #[.bool false,.string ByteArray.empty,.string ByteArray.empty,.bool false,.string ByteArray.empty,.string ByteArray.empty]],[]⟩).memory Tryd.f5.params.toList Rows.polyChecksSpec.vars false (#[.slice none 0 0,.agg #[.bool false,.string ByteArray.empty,.string ByteArray.empty,.bool false,.string ByteArray.empty,.string ByteArray.empty],.agg #[.bool false,.string ByteArray.empty,.string ByteArray.empty,.bool false,.string ByteArray.empty,.string ByteArray.empty]]:Array Value).toList 8=some x∧x=([.nil,.agg [.agg [.lit (.bool false),.lit (.string []),.lit (.string [])],.agg [.lit (.bool false),.lit (.string []),.lit (.string [])]],.agg [.agg [.lit (.bool false),.lit (.string []),.lit (.string [])],.agg [.lit (.bool false),.lit (.string []),.lit (.string [])]]],[],x.2.2) :=
  ⟨([.nil,.agg [.agg [.lit (.bool false),.lit (.string []),.lit (.string [])],.agg [.lit (.bool false),.lit (.string []),.lit (.string [])]],.agg [.agg [.lit (.bool false),.lit (.string []),.lit (.string [])],.agg [.lit (.bool false),.lit (.string []),.lit (.string [])]]],[],[]),by kernel_rfl,rfl⟩
set_option maxRecDepth 100000 in
theorem lifted (os:Os) (started:os.Started) (H:Type) (enc:TypeId × Value→H) (Fi:Stop.Interp) :
    ReturnsInHanded {} Tryd.checked os 5 .any ((Rows.OpenSpec.upto Rows.polyChecksSpec).preRow enc Tryd.prog Tryd.f5 Rows.polyChecksUptoRow.domain false Rows.polyChecksUptoRow.laid) (((Rows.OpenSpec.upto Rows.polyChecksSpec).at Fi).post enc Tryd.prog Tryd.f5 false true false false):=by
  obtain ⟨x,hx,ex⟩:=reads os enc
  refine returnsInHanded_of_row (C:=Tryd.checked) (s:=(Rows.OpenSpec.upto Rows.polyChecksSpec)) own started (by kernel_rfl) Tryd.func5
    (witness_row_at (enc:=enc) (C:=Tryd.checked) false (laidWorld os) #[.slice none 0 0,.agg #[.bool false,.string ByteArray.empty,.string ByteArray.empty,.bool false,.string ByteArray.empty,.string ByteArray.empty],.agg #[.bool false,.string ByteArray.empty,.string ByteArray.empty,.bool false,.string ByteArray.empty,.string ByteArray.empty]] rfl (by kernel_rfl) (by kernel_rfl) (by kernel_rfl)
      (OpenSpec.preRow_of_cond 8 hx (by rw [ex]; kernel_rfl) (fun k hk=>by cases hk; rw [ex]; kernel_rfl) (by kernel_rfl) (laid_met os))) ?_
  intro W base args ds gs before hval0 hW hcnd hcond hsz0 hL hsh _
  have hval:∀ (j:Nat) t v,Tryd.f5.params[j]? = some t→args[j]? = some v→Value.okWide Tryd.prog W .any base t v:=hval0
  have hW':=hW
  obtain ⟨p,q,hA0,hV,rfl,hfz,hnd⟩:=hW
  have hA:DataW.TrodAll enc Tryd.prog W 0 (fun _=>true) true Tryd.f5.params.toList args.toList ds p:=hA0
  rw [Tryd.params5] at hA hval
  obtain ⟨v0,vs0,d0,ds0,p0,q0,hargs,rfl,rfl,h0,r0⟩:=trodAll_cons hA
  obtain ⟨v1,vs1,d1,ds1,p1,q1,rfl,rfl,rfl,h1,r1⟩:=trodAll_cons r0
  obtain ⟨v2,vs2,d2,ds2,p2,q2,rfl,rfl,rfl,h2,r2⟩:=trodAll_cons r1
  obtain ⟨rfl,rfl,rfl⟩:=trodAll_nil r2
  obtain rfl:args = #[v0,v1,v2]:=args_of hargs
  obtain ⟨rfl,rfl⟩:=trodVars_none hV
  obtain ⟨cs1,rfl,f1,rfl,b1,k1⟩:=O.open_plain (n:=12) (ls:=[.b,.s,.s,.b,.s,.s]) (by kernel_rfl) Tryd.underlying30 (hval 1 30 v1 rfl rfl) h1
  obtain ⟨c1_0,cs1_1,rfl,f1_1⟩:=O.fits_b f1
  obtain ⟨c1_1,cs1_2,rfl,f1_2⟩:=O.fits_s f1_1
  obtain ⟨c1_2,cs1_3,rfl,f1_3⟩:=O.fits_s f1_2
  obtain ⟨c1_3,cs1_4,rfl,f1_4⟩:=O.fits_b f1_3
  obtain ⟨c1_4,cs1_5,rfl,f1_5⟩:=O.fits_s f1_4
  obtain ⟨c1_5,cs1_6,rfl,f1_6⟩:=O.fits_s f1_5
  obtain rfl:=O.fits_nil f1_6
  simp only [O.vsum,O.vlen] at b1
  obtain ⟨cs2,rfl,f2,rfl,b2,k2⟩:=O.open_plain (n:=12) (ls:=[.b,.s,.s,.b,.s,.s]) (by kernel_rfl) Tryd.underlying30 (hval 2 30 v2 rfl rfl) h2
  obtain ⟨c2_0,cs2_1,rfl,f2_1⟩:=O.fits_b f2
  obtain ⟨c2_1,cs2_2,rfl,f2_2⟩:=O.fits_s f2_1
  obtain ⟨c2_2,cs2_3,rfl,f2_3⟩:=O.fits_s f2_2
  obtain ⟨c2_3,cs2_4,rfl,f2_4⟩:=O.fits_b f2_3
  obtain ⟨c2_4,cs2_5,rfl,f2_5⟩:=O.fits_s f2_4
  obtain ⟨c2_5,cs2_6,rfl,f2_6⟩:=O.fits_s f2_5
  obtain rfl:=O.fits_nil f2_6
  simp only [O.vsum,O.vlen] at b2
  have hbulk:=of_decide_eq_true (hcond _ rfl)
  simp only [Rows.uptoBulkAll,Rows.uptoBulk,List.cons_append,List.nil_append,List.append_nil,Array.length_toList] at hbulk
  obtain ⟨pl0,ao0,ln0,cp0,rfl,alt0⟩:=O.open_list (n:=12) (W:=6) (ls:=[.b,.s,.s,.b,.s,.s]) Tryd.underlying41 (by kernel_rfl) (by kernel_rfl) (by decide) (hval 0 41 v0 rfl rfl) h0 (by omega)
  have le0:=O.open_list_le Tryd.underlying41 (hval 0 41 _ rfl rfl) h0 rfl
  have hlaid:U.Laid W:=O.laid_at (t:=205) (e:=5) (i:=0) (by kernel_rfl) (by kernel_rfl) (by kernel_rfl) (by kernel_rfl) (by kernel_rfl) (by kernel_rfl) (by kernel_rfl) hL
  clear hA0 hval0 hsz0 hL
  refine (Go.Proofs.YtkpeembfagcpcaaDoor.G.polyChecks_law ao0 ln0 cp0 c1_0 c1_1 c1_2 c1_3 c1_4 c1_5 c2_0 c2_1 c2_2 c2_3 c2_4 c2_5 (by omega) (by omega) (by omega) (by omega) (by omega) (by omega) (by omega) (by omega) W hlaid alt0 le0).mono fun e W' ⟨he,bel⟩=>?_
  subst he
  exact ⟨_,rfl,_,_,_,[],_,[],hW',trodAll_mk1 (shut_bool Tryd.underlying4 _),(trodAll_cons_mk (Go.RowKit.Below.trod O.f_lo (by kernel_rfl) (of_decide_eq_true (by kernel_rfl)) h0 bel pl0) (trodAll_cons_mk (k1 _ _ _ _) (trodAll_cons_mk (k2 _ _ _ _) trodAll_mk0))),rfl,bel.frame _,fun h=>by cases h⟩
theorem ip:Tryd.prog.inPlace 5=Rows.polyChecksUptoRow.inPlace:=by kernel_rfl
theorem uf:Tryd.prog.unfollowed 5=Rows.polyChecksUptoRow.unfollowed:=by kernel_rfl
theorem rc:Tryd.prog.recurses 5=Rows.polyChecksUptoRow.recurses:=by kernel_rfl
theorem vn:Tryd.prog.varsNamed 5=Rows.polyChecksUptoRow.named:=by kernel_rfl
theorem jf:joinedFacts Tryd.prog 5 Tryd.f5 (Rows.OpenSpec.upto Rows.polyChecksSpec).bare Rows.polyChecksUptoRow=true:=by
  unfold joinedFacts
  rw [ip,uf,rc,vn,O.f_lo,O.f_mr,O.f_pk,O.f_sh,O.f_me]
  kernel_rfl
set_option maxRecDepth 100000 in
theorem said:Rows.PolyChecksUptoSaid :=
  OpenClaim.holds_of_cond 5 Tryd.f5 rfl rfl rfl rfl rfl rfl rfl ⟨rfl,rfl,rfl,rfl,rfl⟩ rfl rfl rfl rfl rfl (by kernel_rfl) Tryd.func5 jf
    (of_decide_eq_true (by kernel_rfl)) (by unfold Func.isWrapper; first | (rw [if_pos (by decide +kernel)]; kernel_rfl) | (rw [if_neg (by decide +kernel)]; exact ⟨rfl,rfl⟩))
    (fun os started H enc _ Fi=>by rw [OpenClaim.pre_eq_preRow]; exact lifted os started H enc Fi)
set_option maxRecDepth 100000 in
theorem plain (f:FuncId) (fn:Func) (hf:Tryd.pinned.checked.prog.funcNamed "gantry/gantlaw1.PolyChecks" = some f) (hfn:Tryd.pinned.checked.prog.funcs[f]? = some fn) :
    false=Tryd.pinned.checked.prog.looks [] ∧ ∀ (j:Nat) t,fn.params[j]? = some t→Tryd.pinned.checked.prog.wantsStandIn t=false:=by
  obtain rfl:f=5:=Option.some.inj ((show Tryd.prog.funcNamed "gantry/gantlaw1.PolyChecks" = some 5 by kernel_rfl).symm.trans hf) |>.symm
  obtain rfl:fn=Tryd.f5:=(Option.some.inj (Tryd.func5.symm.trans hfn)).symm
  refine ⟨by kernel_rfl,fun j t ht=>?_⟩
  rw [Tryd.params5] at ht
  have hm:t=41∨t=30:=by simpa using Array.mem_of_getElem? ht
  rcases hm with rfl | rfl
  all_goals first
    | exact (show Tryd.prog.wantsStandIn 30=false by kernel_rfl)
    | exact (show Tryd.prog.wantsStandIn 41=false by kernel_rfl)
set_option maxRecDepth 100000 in
theorem card:Rows.PolyChecksUptoCardSaid :=
  Claim7.holds_tied_plain_at .later [] _ _ _ _ said (fun _ h=>by cases h) (by kernel_rfl) (fun _ h=>by cases h) polyChecksUpto_row_tie rfl ⟨rfl,rfl⟩ (by kernel_rfl) rfl plain (by kernel_rfl)
end Go.Proofs.YtkpeembfagcpcaaDoor.polyChecksU
namespace Go.Proofs.YtkpeembfagcpcaaDoor
/-- The row,under a short name,for the claim. -/
theorem polyChecks_holds:Rows.PolyChecksUptoCardSaid:=polyChecksU.card
#print axioms polyChecks_holds
end Go.Proofs.YtkpeembfagcpcaaDoor
