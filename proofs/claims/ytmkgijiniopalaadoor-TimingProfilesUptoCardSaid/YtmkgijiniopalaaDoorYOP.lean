import Derived.Test.YtmkgijiniopalaaDoorRows
import Derived.Test.YtmkgijiniopalaaDoorYU1
import Derived.WalkKit
import Derived.ProofKit
import Derived.OpenShut
import Derived.ShutString
import Derived.ChangeOld
import Derived.ChangeArms
import Derived.SizedLaws
import Derived.Deep.DeepHandedRow
import Derived.Lib.LaidTab
namespace Go.Proofs.YtmkgijiniopalaaDoor.O
open Go.ChangeShapes Go.WideShapes Go.ChangeAt Go.RowKit
set_option linter.unusedVariables false
inductive Lf where
 | b
 | i (k:IntKind)
 | s
def fitC:Lf→Value→Prop
 | .b,.bool _=>True
 | .i k,.int k' n=>k' = k∧(Lit.int k n).wf=true
 | .s,.string _=>True
 | _,_=>False
def Fits:List Lf→List Value→Prop
 | [],[]=>True
 | l::ls,v::vs=>fitC l v∧Fits ls vs
 | _,_=>False
def vlen:Value→Nat
 | .string s=>s.size
 | _=>0
def vsum:List Value→Nat
 | []=>0
 | v::r=>vlen v+vsum r
def lvsF (P:Program) (g:TypeId→Option (List Lf)):List Field→Nat→Option (List Lf)
 | [],_=>some []
 | f::fs,off=>match g f.type with
   | some l=>if f.offset=off∧P.cellsOf f.type=l.length then match lvsF P g fs (off+l.length) with
     | some r=>some (l++r)
     | none=>none
     else none
   | none=>none
def lvs (P:Program):Nat→TypeId→Option (List Lf)
 | 0,_=>none
 | n+1,t=>match P.underlying t with
   | some .bool=>some [.b]
   | some (.int k)=>some [.i k]
   | some .string=>some [.s]
   | some (.struct fs)=>match lvsF P (lvs P n) fs.toList 0 with
     | some ls=>if P.cellsOf t=ls.length then some ls else none
     | none=>none
   | _=>none
theorem fits_append:∀ {l r:List Lf} {a b:List Value},Fits l a→Fits r b→Fits (l++r) (a++b)
 | [],r,[],b,_,h=>h
 | x::l,r,y::a,b,h,g=>⟨h.1,fits_append h.2 g⟩
 | [],_,_::_,_,h,_=>h.elim
 | _::_,_,[],_,h,_=>h.elim
theorem vsum_append:∀ (a b:List Value),vsum (a++b)=vsum a+vsum b
 | [],b=>by simp [vsum]
 | x::a,b=>by simp only [List.cons_append,vsum,vsum_append a b]; omega
section
variable {H:Type} {enc:TypeId × Value→H} {P:Program} {w w':World} {base base':Nat} {sp sp':Nat→Bool} {held held':Bool}
def Good (P:Program) (t:TypeId) (ls:List Lf):Prop:=∀ (H:Type) (enc:TypeId × Value→H) (w:World) (base:Nat) (sp:Nat→Bool) (held:Bool) (fuel:Nat) (cs:List Value) (x:DataW H × List MemPlace),DataW.trod enc P w base sp held fuel t cs=some x→Fits ls cs∧x.2=[]∧vsum cs≤Rows.uptoBulk x.1
theorem lvsF_ok {g:TypeId→Option (List Lf)} (hg:∀ t ls,g t=some ls→Good P t ls) {fuel:Nat} {cs:List Value} :
 ∀ (l:List Field) (off:Nat) (r:List Lf) (ys:List (DataW H × List MemPlace)),lvsF P g l off=some r→ys.length=l.length→cs.length=off+r.length →
   (∀ (i:Nat) (f:Field),l[i]? = some f→DataW.trod enc P w base sp held fuel f.type ((cs.drop f.offset).take (P.cellsOf f.type))=ys[i]?) →
   Fits r (cs.drop off)∧ys.flatMap (·.2)=[]∧vsum (cs.drop off)≤Rows.uptoBulkAll (ys.map (·.1))
 | [],off,r,ys,h,hl,hc,hf=>by
   simp only [lvsF,Option.some.injEq] at h
   subst h
   simp only [List.length_nil] at hl hc
   rw [List.eq_nil_of_length_eq_zero hl,List.drop_eq_nil_of_le (by omega)]
   exact ⟨trivial,rfl,by simp [vsum]⟩
 | f::fs,off,r,ys,h,hl,hc,hf=>by
   unfold lvsF at h
   split at h
   ·rename_i lq hgl
    split at h
    ·rename_i hoff
     split at h
     ·rename_i r' hr
      simp only [Option.some.injEq] at h
      subst h
      cases ys with
      | nil=>simp at hl
      | cons y ys =>
        have h0:=hf 0 f rfl
        rw [hoff.1,hoff.2] at h0
        simp only [List.getElem?_cons_zero] at h0
        obtain ⟨f1,f2,f3⟩:=hg _ _ hgl H enc w base sp held fuel _ y h0
        have hc':cs.length=off+lq.length+r'.length:=by rw [List.length_append] at hc; omega
        obtain ⟨g1,g2,g3⟩:=lvsF_ok hg fs (off+lq.length) r' ys hr (by simpa using hl) hc' (fun i f' hi=>by simpa using hf (i+1) f' (by simpa using hi))
        have hsplit:cs.drop off=(cs.drop off).take lq.length++cs.drop (off+lq.length):=by
         rw [← List.drop_drop,List.take_append_drop]
        rw [hsplit]
        refine ⟨fits_append f1 g1,by simp [f2,g2],?_⟩
        rw [vsum_append]
        simp only [List.map_cons,Rows.uptoBulkAll]
        omega
     cases h
    cases h
   cases h
theorem lvs_ok:∀ (n:Nat) (t:TypeId) (ls:List Lf),lvs P n t=some ls→Good P t ls:=by
 intro n
 induction n with
 | zero=>intro t ls h; simp [lvs] at h
 | succ n ih =>
   intro t ls h H enc w base sp held fuel cs x hx
   unfold lvs at h
   split at h
   ·rename_i ht
    cases h
    obtain ⟨b,rfl,rfl⟩:=DataW.trod_bool ht hx
    exact ⟨⟨trivial,trivial⟩,rfl,by simp [vsum,vlen]⟩
   ·rename_i k ht
    cases h
    obtain ⟨m,rfl,rfl,hw⟩:=DataW.trod_int ht hx
    exact ⟨⟨⟨rfl,hw⟩,trivial⟩,rfl,by simp [vsum,vlen]⟩
   ·rename_i ht
    cases h
    obtain ⟨s,rfl,rfl,hs⟩:=DataW.trod_string ht hx
    refine ⟨⟨trivial,trivial⟩,rfl,?_⟩
    simp only [vsum,vlen,Rows.uptoBulk,Array.length_toList]
    have:s.data.size=s.size:=rfl
    omega
   ·rename_i fs ht
    split at h
    ·rename_i l hl
     split at h
     ·rename_i hc
      cases h
      obtain ⟨xs,m,_,rfl,hlen,hxl,hf⟩:=DataW.trod_struct ht hx
      obtain ⟨a,b,c⟩:=lvsF_ok (enc:=enc) (w:=w) (base:=base) (sp:=sp) (held:=held) (fuel:=m) (cs:=cs) (fun t ls h=>ih t ls h) fs.toList 0 _ xs hl (by simpa using hxl) (by omega) (fun i f hi=>hf i f (by simpa using hi))
      rw [List.drop_zero] at a c
      exact ⟨a,b,by simp only [Rows.uptoBulk]; omega⟩
     cases h
    cases h
   cases h
theorem mapM_any {β:Type} {g:TypeId→Option (List Lf)} {F G:Field→Option β} (h:∀ (f:Field) (l:List Lf),g f.type=some l→F f=G f) :
 ∀ (l:List Field) (off:Nat) (r:List Lf),lvsF P g l off=some r→l.mapM F=l.mapM G
 | [],_,_,_=>rfl
 | f::fs,off,r,hl=>by
   unfold lvsF at hl
   split at hl
   ·rename_i l hgl
    split at hl
    ·split at hl
     ·rename_i r' hr
      rw [List.mapM_cons,List.mapM_cons,h f l hgl,mapM_any h fs _ r' hr]
     cases hl
    cases hl
   cases hl
theorem trod_any:∀ (n:Nat) (t:TypeId) (ls:List Lf),lvs P n t=some ls → ∀ (fuel:Nat) (cs:List Value),DataW.trod enc P w base sp held fuel t cs=DataW.trod enc P w' base' sp' held' fuel t cs:=by
 intro n
 induction n with
 | zero=>intro t ls h; simp [lvs] at h
 | succ n ih =>
   intro t ls h fuel cs
   cases fuel with
   | zero=>rfl
   | succ fuel =>
     unfold lvs at h
     unfold DataW.trod
     split at h
     ·rename_i ht
      rw [ht]
      cases cs with
      | nil=>rfl
      | cons v r=>cases r<;>cases v<;>rfl
     ·rename_i k ht
      rw [ht]
      cases cs with
      | nil=>rfl
      | cons v r=>cases r<;>cases v<;>rfl
     ·rename_i ht
      rw [ht]
      cases cs with
      | nil=>rfl
      | cons v r=>cases r<;>cases v<;>rfl
     ·rename_i fs ht
      rw [ht]
      split at h
      ·rename_i l hl
       simp only
       rw [mapM_any (fun f l hf=>ih f.type l hf fuel _) fs.toList 0 l hl]
      cases h
     cases h
theorem open_plain {r:Reach} {b0:Nat} {t:TypeId} {fs:Array Field} {ls:List Lf} {n:Nat} {v:Value} {d:DataW H} {p:List MemPlace} (hl:lvs P n t=some ls) (hu:P.underlying t=some (.struct fs))
 (hv:Value.okWide P w r b0 t v) (h:DataW.Trod enc P w base sp held t v d p) :
 ∃ cs:List Value,v = .agg cs.toArray∧Fits ls cs∧p=[]∧vsum cs≤Rows.uptoBulk d ∧ ∀ (w':World) (base':Nat) (sp':Nat→Bool) (held':Bool),DataW.Trod enc P w' base' sp' held' t (.agg cs.toArray) d []:=by
 obtain ⟨cs,rfl,_⟩:=okWide_struct hu hv
 obtain ⟨fuel,hf⟩:=h
 obtain ⟨a,b,c⟩:=lvs_ok n t ls hl H enc w base sp held fuel _ _ hf
 simp only at b c
 subst b
 refine ⟨cs.toList,by simp,a,rfl,c,fun w' base' sp' held'=>⟨fuel,?_⟩⟩
 rw [← hf]
 simp only [Array.toArray_toList]
 exact trod_any n t ls hl fuel _
end
theorem fits_b {l:List Lf} {cs:List Value} (h:Fits (.b::l) cs):∃ (b:Bool) (r:List Value),cs = .bool b::r∧Fits l r:=by
 cases cs with
 | nil=>exact h.elim
 | cons v r=>cases v with
   | bool b=>exact ⟨b,r,rfl,h.2⟩
   | _=>exact h.1.elim
theorem fits_s {l:List Lf} {cs:List Value} (h:Fits (.s::l) cs):∃ (s:ByteArray) (r:List Value),cs = .string s::r∧Fits l r:=by
 cases cs with
 | nil=>exact h.elim
 | cons v r=>cases v with
   | string b=>exact ⟨b,r,rfl,h.2⟩
   | _=>exact h.1.elim
theorem fits_i {k:IntKind} {l:List Lf} {cs:List Value} (h:Fits (.i k::l) cs):∃ (n:Int) (r:List Value),cs = .int k n::r∧(Lit.int k n).wf=true∧Fits l r:=by
 cases cs with
 | nil=>exact h.elim
 | cons v r=>cases v with
   | int k' n =>
     obtain ⟨⟨rfl,hw⟩,h2⟩:=h
     exact ⟨n,r,rfl,hw,h2⟩
   | _=>exact h.1.elim
theorem fits_nil {cs:List Value} (h:Fits [] cs):cs=[]:=by
 cases cs with
 | nil=>rfl
 | cons v r=>exact h.elim
theorem laidMet_tail {P:Program} {W:World} {x:String × DataW Unit} {r:List (String × DataW Unit)} (h:laidMet P (x::r) W):laidMet P r W:=by
 obtain ⟨ps,hv,hn,hc⟩:=h
 obtain ⟨name,d⟩:=x
 simp only [DataW.LaidVars] at hv
 obtain ⟨_,_,_,_,p,q,_,_,_,_,hq,rfl⟩:=hv
 exact ⟨q,hq,(List.nodup_append.1 hn).2.1,fun b off hb=>hc b off (List.mem_append_right _ hb)⟩
theorem laid_at {P:Program} {W:World} {laid:List (String × DataW Unit)} {t e:TypeId} {i:Nat} (hf:(laid.filter fun x=>x.2.handleName?.isSome)=[]) (hi:laid[i]? = some ("math/bits.deBruijn64tab",Lib.tabData .u8 U.deB)) (hg:P.globalNamed "math/bits.deBruijn64tab" = some U.tabG) (hty:(P.globals[U.tabG]?).map (·.type)=some t) (ht:P.underlying t=some (.array 64 e))
 (he:P.underlying e=some (.int .u8)) (hc:(P.cellsOf e,P.cellsOf t)=(1,64)) (h:laidMetH P laid W):U.Laid W:=fun k hk=>by
 unfold laidMetH at h
 rw [hf] at h
 have h0:laidMet P (("math/bits.deBruijn64tab",Lib.tabData .u8 U.deB)::laid.drop (i+1)) W:=by
  clear hf
  induction laid generalizing i with
  | nil=>simp at hi
  | cons x r ih =>
    cases i with
    | zero =>
      simp only [List.getElem?_cons_zero,Option.some.injEq] at hi
      subst hi
      simpa using h
    | succ i=>exact ih (by simpa using hi) (laidMet_tail h)
 have h1:=Lib.tabIs_of_head hg hty ht he (Prod.mk.inj hc).1 (Prod.mk.inj hc).2 h0
 have h2:=h1.cell hg k (by simpa [U.deB] using hk)
 first
 | exact h2
 | (rw [h2]; congr 2; simp [List.getD_eq_getElem?_getD])
end Go.Proofs.YtmkgijiniopalaaDoor.O
