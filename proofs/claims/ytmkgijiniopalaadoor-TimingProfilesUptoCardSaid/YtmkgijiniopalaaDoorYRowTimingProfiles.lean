/- The law gantlaw3.TimingProfiles answers true for every input of at most 1048576 values and letters. -/
import Derived.Test.YtmkgijiniopalaaDoorCards
import Derived.Test.YtmkgijiniopalaaDoorTie
import Derived.Test.YtmkgijiniopalaaDoorYOP
import Derived.Test.YtmkgijiniopalaaDoorYPF
import Derived.Test.YtmkgijiniopalaaDoorYEK
namespace Go.Proofs.YtmkgijiniopalaaDoor.timingProfilesU
open Go.ChangeShapes Go.WideShapes Go.ChangeAt Go.RowKit
open Go.ChangeMaps (open_string shut_string)
set_option linter.unusedVariables false
set_option linter.unusedSimpArgs false
theorem own:ownKnob Tryd.prog.godebug=none:=by kernel_rfl
theorem args_of {args:Array Value} {l:List Value} (h:args.toList=l):args=l.toArray:=by
 subst h; simp
def z0 (d:DataW Unit):Value:=match d with
 | .lit (.int k x)=>.int k x
 | _=>.int .u8 0
def cellsOf0:DataW Unit→List Value
 | .agg ds=>ds.flatMap fun d=>match d with
   | .agg es=>es.map z0
   | d=>[z0 d]
 | _=>[]
noncomputable def laidWorld (os:Os):World :=
 { World.holding Tryd.prog os ⟨#[], #[], []⟩ with heap := ((World.holding Tryd.prog os ⟨#[], #[], []⟩).heap.modify 1 fun
  | .cells _ t frozen=>.cells (cellsOf0 Rows.laid_math_bits_deBruijn64tab).toArray t frozen
  | o=>o) }
theorem laid_met (os:Os):laidMetH Tryd.prog Rows.timingProfilesUptoRow.laid ((laidWorld os).forCall (fun _ _=>0) ⟨#[],#[.agg #[.bool false,.string ByteArray.empty,.string ByteArray.empty],.agg #[.bool false,.string ByteArray.empty,.string ByteArray.empty],.agg #[.bool false,.string ByteArray.empty,.string ByteArray.empty],.int .i64 0],[]⟩).memory :=
 laidMet_of_run' 8 (by kernel_rfl) (by kernel_rfl)
set_option maxRecDepth 100000 in
theorem reads (os:Os) {H:Type} (enc:TypeId × Value→H):∃ x,DataW.whole enc Tryd.prog ((laidWorld os).forCall (fun _ _=>0) ⟨#[],#[.agg #[.bool false,.string ByteArray.empty,.string ByteArray.empty],.agg #[.bool false,.string ByteArray.empty,.string ByteArray.empty],.agg #[.bool false,.string ByteArray.empty,.string ByteArray.empty],.int .i64 0],[]⟩).memory Tryd.f4.params.toList Rows.timingProfilesSpec.vars false (#[.agg #[.bool false,.string ByteArray.empty,.string ByteArray.empty],.agg #[.bool false,.string ByteArray.empty,.string ByteArray.empty],.agg #[.bool false,.string ByteArray.empty,.string ByteArray.empty],.int .i64 0]:Array Value).toList 8=some x∧x=([.agg [.lit (.bool false),.lit (.string []),.lit (.string [])],.agg [.lit (.bool false),.lit (.string []),.lit (.string [])],.agg [.lit (.bool false),.lit (.string []),.lit (.string [])],.lit (.int .i64 0)],[],x.2.2) :=
 ⟨([.agg [.lit (.bool false),.lit (.string []),.lit (.string [])],.agg [.lit (.bool false),.lit (.string []),.lit (.string [])],.agg [.lit (.bool false),.lit (.string []),.lit (.string [])],.lit (.int .i64 0)],[],[]),by kernel_rfl,rfl⟩
set_option maxRecDepth 100000 in
theorem lifted (os:Os) (started:os.Started) (H:Type) (enc:TypeId × Value→H) (Fi:Stop.Interp) :
 ReturnsInHanded {} Tryd.checked os 4 .any ((Rows.OpenSpec.upto Rows.timingProfilesSpec).preRow enc Tryd.prog Tryd.f4 Rows.timingProfilesUptoRow.domain false Rows.timingProfilesUptoRow.laid) (((Rows.OpenSpec.upto Rows.timingProfilesSpec).at Fi).post enc Tryd.prog Tryd.f4 false true false false):=by
 obtain ⟨x,hx,ex⟩:=reads os enc
 refine returnsInHanded_of_row (C:=Tryd.checked) (s:=(Rows.OpenSpec.upto Rows.timingProfilesSpec)) own started (by kernel_rfl) Tryd.func4
  (witness_row_at (enc:=enc) (C:=Tryd.checked) false (laidWorld os) #[.agg #[.bool false,.string ByteArray.empty,.string ByteArray.empty],.agg #[.bool false,.string ByteArray.empty,.string ByteArray.empty],.agg #[.bool false,.string ByteArray.empty,.string ByteArray.empty],.int .i64 0] rfl (by kernel_rfl) (by kernel_rfl) (by kernel_rfl)
   (OpenSpec.preRow_of_cond 8 hx (by rw [ex]; kernel_rfl) (fun k hk=>by cases hk; rw [ex]; kernel_rfl) (by kernel_rfl) (laid_met os))) ?_
 intro W base args ds gs before hval0 hW hcnd hcond hsz0 hL hsh _
 have hval:∀ (j:Nat) t v,Tryd.f4.params[j]? = some t→args[j]? = some v→Value.okWide Tryd.prog W .any base t v:=hval0
 have hW':=hW
 obtain ⟨p,q,hA0,hV,rfl,hfz,hnd⟩:=hW
 have hA:DataW.TrodAll enc Tryd.prog W 0 (fun _=>true) true Tryd.f4.params.toList args.toList ds p:=hA0
 rw [Tryd.params4] at hA hval
 obtain ⟨v0,vs0,d0,ds0,p0,q0,hargs,rfl,rfl,h0,r0⟩:=trodAll_cons hA
 obtain ⟨v1,vs1,d1,ds1,p1,q1,rfl,rfl,rfl,h1,r1⟩:=trodAll_cons r0
 obtain ⟨v2,vs2,d2,ds2,p2,q2,rfl,rfl,rfl,h2,r2⟩:=trodAll_cons r1
 obtain ⟨v3,vs3,d3,ds3,p3,q3,rfl,rfl,rfl,h3,r3⟩:=trodAll_cons r2
 obtain ⟨rfl,rfl,rfl⟩:=trodAll_nil r3
 obtain rfl:args = #[v0,v1,v2,v3]:=args_of hargs
 obtain ⟨rfl,rfl⟩:=trodVars_none hV
 obtain ⟨cs0,rfl,f0,rfl,b0,k0⟩:=O.open_plain (n:=12) (ls:=[.b,.s,.s]) (by kernel_rfl) Tryd.underlying30 (hval 0 30 v0 rfl rfl) h0
 obtain ⟨c0_0,cs0_1,rfl,f0_1⟩:=O.fits_b f0
 obtain ⟨c0_1,cs0_2,rfl,f0_2⟩:=O.fits_s f0_1
 obtain ⟨c0_2,cs0_3,rfl,f0_3⟩:=O.fits_s f0_2
 obtain rfl:=O.fits_nil f0_3
 simp only [O.vsum,O.vlen] at b0
 obtain ⟨cs1,rfl,f1,rfl,b1,k1⟩:=O.open_plain (n:=12) (ls:=[.b,.s,.s]) (by kernel_rfl) Tryd.underlying30 (hval 1 30 v1 rfl rfl) h1
 obtain ⟨c1_0,cs1_1,rfl,f1_1⟩:=O.fits_b f1
 obtain ⟨c1_1,cs1_2,rfl,f1_2⟩:=O.fits_s f1_1
 obtain ⟨c1_2,cs1_3,rfl,f1_3⟩:=O.fits_s f1_2
 obtain rfl:=O.fits_nil f1_3
 simp only [O.vsum,O.vlen] at b1
 obtain ⟨cs2,rfl,f2,rfl,b2,k2⟩:=O.open_plain (n:=12) (ls:=[.b,.s,.s]) (by kernel_rfl) Tryd.underlying30 (hval 2 30 v2 rfl rfl) h2
 obtain ⟨c2_0,cs2_1,rfl,f2_1⟩:=O.fits_b f2
 obtain ⟨c2_1,cs2_2,rfl,f2_2⟩:=O.fits_s f2_1
 obtain ⟨c2_2,cs2_3,rfl,f2_3⟩:=O.fits_s f2_2
 obtain rfl:=O.fits_nil f2_3
 simp only [O.vsum,O.vlen] at b2
 obtain ⟨c3,rfl,rfl,rfl,w3⟩:=open_int Tryd.underlying3 (hval 3 3 v3 rfl rfl) h3
 have hbulk:=of_decide_eq_true (hcond _ rfl)
 simp only [Rows.uptoBulkAll,Rows.uptoBulk,List.cons_append,List.nil_append,List.append_nil,Array.length_toList] at hbulk
 have hlaid:U.Laid W:=O.laid_at (t:=126) (e:=5) (i:=0) (by kernel_rfl) (by kernel_rfl) (by kernel_rfl) (by kernel_rfl) (by kernel_rfl) (by kernel_rfl) (by kernel_rfl) hL
 clear hA0 hval0 hsz0 hL
 refine (Go.Proofs.YtmkgijiniopalaaDoor.G.timingProfiles_law c0_0 c0_1 c0_2 c1_0 c1_1 c1_2 c2_0 c2_1 c2_2 c3 (by omega) (by omega) (by omega) (by omega) (by omega) (by omega) (bounds_i64 w3) W hlaid).mono fun e W' ⟨he,bel⟩=>?_
 subst he
 exact ⟨_,rfl,_,_,_,[],_,[],hW',trodAll_mk1 (shut_bool Tryd.underlying4 _),(trodAll_cons_mk (k0 _ _ _ _) (trodAll_cons_mk (k1 _ _ _ _) (trodAll_cons_mk (k2 _ _ _ _) (trodAll_cons_mk (shut_int Tryd.underlying3 w3) trodAll_mk0)))),rfl,bel.frame _,fun h=>by cases h⟩
theorem ip:Tryd.prog.inPlace 4=Rows.timingProfilesUptoRow.inPlace:=by kernel_rfl
theorem uf:Tryd.prog.unfollowed 4=Rows.timingProfilesUptoRow.unfollowed:=by kernel_rfl
theorem rc:Tryd.prog.recurses 4=Rows.timingProfilesUptoRow.recurses:=by kernel_rfl
theorem vn:Tryd.prog.varsNamed 4=Rows.timingProfilesUptoRow.named:=by kernel_rfl
theorem jf:joinedFacts Tryd.prog 4 Tryd.f4 (Rows.OpenSpec.upto Rows.timingProfilesSpec).bare Rows.timingProfilesUptoRow=true:=by
 unfold joinedFacts
 rw [ip,uf,rc,vn,O.f_lo,O.f_mr,O.f_pk,O.f_sh,O.f_me]
 kernel_rfl
set_option maxRecDepth 100000 in
theorem said:Rows.TimingProfilesUptoSaid :=
 OpenClaim.holds_of_cond 4 Tryd.f4 rfl rfl rfl rfl rfl rfl rfl ⟨rfl,rfl,rfl,rfl,rfl⟩ rfl rfl rfl rfl rfl (by kernel_rfl) Tryd.func4 jf
  (of_decide_eq_true (by kernel_rfl)) (by unfold Func.isWrapper; first | (rw [if_pos (by decide +kernel)]; kernel_rfl) | (rw [if_neg (by decide +kernel)]; exact ⟨rfl,rfl⟩))
  (fun os started H enc _ Fi=>by rw [OpenClaim.pre_eq_preRow]; exact lifted os started H enc Fi)
set_option maxRecDepth 100000 in
theorem plain (f:FuncId) (fn:Func) (hf:Tryd.pinned.checked.prog.funcNamed "gantry/gantlaw3.TimingProfiles" = some f) (hfn:Tryd.pinned.checked.prog.funcs[f]? = some fn) :
 false=Tryd.pinned.checked.prog.looks [] ∧ ∀ (j:Nat) t,fn.params[j]? = some t→Tryd.pinned.checked.prog.wantsStandIn t=false:=by
 obtain rfl:f=4:=Option.some.inj ((show Tryd.prog.funcNamed "gantry/gantlaw3.TimingProfiles" = some 4 by kernel_rfl).symm.trans hf) |>.symm
 obtain rfl:fn=Tryd.f4:=(Option.some.inj (Tryd.func4.symm.trans hfn)).symm
 refine ⟨by kernel_rfl,fun j t ht=>?_⟩
 rw [Tryd.params4] at ht
 have hm:t=30∨t=3:=by simpa using Array.mem_of_getElem? ht
 rcases hm with rfl | rfl
 all_goals first
  | exact (show Tryd.prog.wantsStandIn 3=false by kernel_rfl)
  | exact (show Tryd.prog.wantsStandIn 30=false by kernel_rfl)
set_option maxRecDepth 100000 in
theorem card:Rows.TimingProfilesUptoCardSaid :=
 Claim7.holds_tied_plain_at .later [] _ _ _ _ said (fun _ h=>by cases h) (by kernel_rfl) (fun _ h=>by cases h) timingProfilesUpto_row_tie rfl ⟨rfl,rfl⟩ (by kernel_rfl) rfl plain (by kernel_rfl)
end Go.Proofs.YtmkgijiniopalaaDoor.timingProfilesU
namespace Go.Proofs.YtmkgijiniopalaaDoor
/-- The row,under a short name,for the claim. -/
theorem timingProfiles_holds:Rows.TimingProfilesUptoCardSaid:=timingProfilesU.card
#print axioms timingProfiles_holds
end Go.Proofs.YtmkgijiniopalaaDoor
