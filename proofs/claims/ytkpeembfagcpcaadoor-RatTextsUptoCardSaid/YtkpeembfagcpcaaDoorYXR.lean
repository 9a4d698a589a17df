import Derived.Test.YtkpeembfagcpcaaDoorYSR
import Derived.Test.YtkpeembfagcpcaaDoorYX0
import Derived.Test.YtkpeembfagcpcaaDoorYX1
import Derived.Test.YtkpeembfagcpcaaDoorYRC
import Derived.Test.YtkpeembfagcpcaaDoorYD0
import Derived.Test.YtkpeembfagcpcaaDoorYD1
import Derived.Test.YtkpeembfagcpcaaDoorYD2
import Derived.Laws.Strings
set_option linter.unusedSimpArgs false
set_option linter.unusedVariables false
section
namespace Go.Proofs.YtkpeembfagcpcaaDoor.SB
open Go.RowKit Go.Proofs.YtkpeembfagcpcaaDoor.A Go.Proofs.YtkpeembfagcpcaaDoor.X Go.Proofs.YtkpeembfagcpcaaDoor.M Go.Proofs.YtkpeembfagcpcaaDoor.SA Go.Proofs.YtkpeembfagcpcaaDoorW.PrintWords Go.Proofs.YtkpeembfagcpcaaDoorW.PrintLast Go.Proofs.YtkpeembfagcpcaaDoorW.PrintMore
def lo:Nat→List Int:=fun n=>if h:n=0 then [] else (48+((n%10:Nat):Int))::lo (n/10)
termination_by n=>n
decreasing_by omega
theorem lo_0:lo 0=[]:=by unfold lo; rw [dif_pos rfl]
theorem lo_s {n:Nat} (h:n≠0):lo n=(48+((n%10:Nat):Int))::lo (n/10):=by
 conv=>lhs; unfold lo
 rw [dif_neg h]
def decB (l:List Int):ByteArray:=if l=[] then ⟨#[48]⟩ else strOfNums l.reverse
theorem tx_rev (o:List Int) (hn:o.length≤140737488355328) (d:Nat):∀ (i:Nat) (x:List Int),i≤o.length→o.length - i=d→x.length=o.length →
 (∀ m,m < o.length→x.getD m 0=if m < i∨o.length - 1 - i < m then o.getD (o.length - 1 - m) 0 else o.getD m 0)→2*i≤o.length+1 →
 Ev (fun k=>nat_Text.l3 k x (i:Int) ((o.length:Int) - 1 - i)) (strOfNums o.reverse):=by
 have fin:∀ (i:Nat) (x:List Int),x.length=o.length→(∀ m,m < o.length→x.getD m 0=if m < i∨o.length - 1 - i < m then o.getD (o.length - 1 - m) 0 else o.getD m 0) → ¬ (i:Int) < (o.length:Int) - 1 - i→Ev (fun k=>nat_Text.l3 k x (i:Int) ((o.length:Int) - 1 - i)) (strOfNums o.reverse):=by
  intro i x hl hx hlt
  have hx0:x=o.reverse:=by
   apply List.ext_getElem
   ·rw [List.length_reverse,hl]
   intro m h1 h3
   have:=hx m (by omega)
   rw [List.getD_eq_getElem?_getD,List.getElem?_eq_getElem h1] at this
   rw [List.getElem_reverse]
   simp only [Option.getD_some] at this
   rw [this]
   have h5:o.length - 1 - m < o.length:=by omega
   by_cases e3:m < i∨o.length - 1 - i < m
   ·rw [if_pos e3,List.getD_eq_getElem?_getD,List.getElem?_eq_getElem h5]
    rfl
   rw [if_neg e3,List.getD_eq_getElem?_getD,List.getElem?_eq_getElem (by omega)]
   simp only [Option.getD_some]
   congr 1
   omega
  refine Ev.step (f:=fun _=>some (strOfNums o.reverse)) (fun k=>?_) (Ev.now _)
  simp only [nat_Text.l3]
  rw [if_neg hlt,hx0]
 induction d with
 | zero =>
   intro i x hi hd hl hx h2
   exact fin i x hl hx (by omega)
 | succ d ih =>
   intro i x hi hd hl hx h2
   by_cases hlt:(i:Int) < (o.length:Int) - 1 - i
   rotate_left
   ·exact fin i x hl hx hlt
   have c1:(i:Int)+1=((i+1:Nat):Int):=by omega
   have c2:(o.length:Int) - 1 - i - 1=(o.length:Int) - 1 - ((i+1:Nat):Int):=by omega
   have c3:(o.length:Int) - 1 - i=((o.length - 1 - i:Nat):Int):=by omega
   have hx2:∀ m,m < o.length→((x.set i (rd x ((o.length - 1 - i:Nat):Int))).set (o.length - 1 - i) (rd x (i:Int))).getD m 0=if m < i+1∨o.length - 1 - (i+1) < m then o.getD (o.length - 1 - m) 0 else o.getD m 0:=by
    intro m hm
    have h0:=hx m hm
    have ha:=hx i (by omega)
    have hb:=hx (o.length - 1 - i) (by omega)
    rw [if_neg (by omega)] at ha hb
    by_cases e1:m=o.length - 1 - i
    ·subst e1
     rw [List.getD_eq_getElem?_getD,List.getElem?_set_self (by rw [List.length_set]; omega),Option.getD_some,if_pos (by omega),← getD_eq_rd,ha,show o.length - 1 - (o.length - 1 - i)=i by omega]
    rw [lset_ne _ (by omega)]
    by_cases e2:m=i
    ·subst e2
     rw [List.getD_eq_getElem?_getD,List.getElem?_set_self (by omega),Option.getD_some,if_pos (by omega),← getD_eq_rd,hb]
    rw [lset_ne _ (by omega),h0]
    by_cases e3:m < i∨o.length - 1 - i < m
    ·rw [if_pos e3,if_pos (by omega)]
    rw [if_neg e3,if_neg (by omega)]
   have ihx:=ih (i+1) _ (by omega) (by omega) (by simp only [List.length_set]; exact hl) hx2 (by omega)
   have g1:0≤(o.length:Int) - 1 - i:=by omega
   have g2:(o.length:Int) - 1 - i < (x.length:Int):=by omega
   have g3:0≤(i:Int):=by omega
   have g4:(i:Int) < (x.length:Int):=by omega
   have w1:wrap64 ((i:Int)+1)=(i:Int)+1:=wrap64_id (by omega) (by omega)
   have w2:wrap64 ((o.length:Int) - 1 - i - 1)=(o.length:Int) - 1 - i - 1:=wrap64_id (by omega) (by omega)
   refine Ev.step (fun k=>?_) ihx
   simp only [nat_Text.l3]
   rw [if_pos hlt,if_pos g1,if_pos g2,if_pos g3,if_pos g4,w1,w2,c2,c3,Int.toNat_natCast,Int.toNat_natCast]
   rfl
theorem tx_l3 (o:List Int) (hn:o.length≤140737488355328):Ev (fun k=>nat_Text.l3 k o 0 (wrap64 ((o.length:Int) - 1))) (strOfNums o.reverse):=by
 have h:=tx_rev o hn o.length 0 o (by omega) (by omega) rfl (fun m hm=>by rw [if_neg (by omega)]) (by omega)
 have w:wrap64 ((o.length:Int) - 1)=(o.length:Int) - 1 - ((0:Nat):Int):=by rw [wrap64_id (by omega) (by omega)]; omega
 rw [w]
 exact h
theorem lv_drop_get (l:List Int) (i:Nat) (h:i < l.length):lv b32 (l.drop i)=rd l (i:Int)+b32*lv b32 (l.drop (i+1)):=by
 rw [List.drop_eq_getElem_cons h,← getD_eq_rd,List.getD_eq_getElem?_getD,List.getElem?_eq_getElem h]
 rfl
theorem tx_l1 (o:List Int) (R:ByteArray) (ho:o.length < 140737488355328):∀ (i:Nat) (x:List Int) (r:Int),i≤x.length→x.length≤140737488355328→InR b32 x→0≤r→r < 10 →
 (∀ (x':List Int) (r':Int),x'.length=x.length→InR b32 x' → 0≤r' → r' < 10→10*lv b32 x' + r' = lv b32 (x.take i)+b32^i*(10*lv b32 (x.drop i)+r)→Ev (fun k=>nat_Text.l2 k x' (o++[48+r'])) R) →
 Ev (fun k=>nat_Text.l1 k x o r ((i:Int) - 1)) R
 | 0,x,r,hi,hn,hr,h0,h1,hc=>by
   have h:=hc x r rfl hr h0 h1 (by simp [lv])
   refine Ev.step (fun k=>?_) h
   simp only [nat_Text.l1]
   have w:IntKind.u64.wrap (48+r)%256=48+r:=by rw [IntKind.wrap_u64]; omega
   rw [if_neg (by omega),if_pos ho,w]
 | i+1,x,r,hi,hn,hr,h0,h1,hc=>by
   have hlt:i < x.length:=by omega
   have hw:=InR_rd b32_pos hr (i:Int)
   have ei:(((i+1:Nat):Int) - 1)=(i:Int):=by omega
   have b0:b32=4294967296:=rfl
   have e1:IntKind.u64.wrap (r*4294967296)=r*4294967296:=wraps_u64 _ (by omega) (by omega)
   have e2:IntKind.u64.wrap (rd x (i:Int))=rd x (i:Int):=wraps_u64 _ (by omega) (by omega)
   have e3:Go.bits .or .u64 (r*4294967296) (rd x (i:Int))=r*4294967296+rd x (i:Int):=or64 32 _ _ (by omega) (by omega) (by omega) (by omega) (by omega) (by omega)
   have h2:0≤r*4294967296+rd x (i:Int):=by omega
   have hq0:0≤(r*4294967296+rd x (i:Int))/10:=by omega
   have hq1:(r*4294967296+rd x (i:Int))/10 < 4294967296:=by omega
   have e4:IntKind.u64.wrap ((r*4294967296+rd x (i:Int))/10)=(r*4294967296+rd x (i:Int))/10:=wraps_u64 _ hq0 (by omega)
   have e5:(r*4294967296+rd x (i:Int))/10%4294967296=(r*4294967296+rd x (i:Int))/10:=Int.emod_eq_of_lt hq0 hq1
   have w1:wrap64 ((i:Int) - 1)=(i:Int) - 1:=wrap64_id (by omega) (by omega)
   have hr0:0≤(r*4294967296+rd x (i:Int))%10:=by omega
   have hr1:(r*4294967296+rd x (i:Int))%10 < 10:=by omega
   have hd:10*((r*4294967296+rd x (i:Int))/10)+(r*4294967296+rd x (i:Int))%10=r*b32+rd x (i:Int):=by rw [b0]; omega
   have hr2:InR b32 (x.set i ((r*4294967296+rd x (i:Int))/10)):=InR_set hr i hq0 (by rw [b0]; exact hq1)
   have ih:=tx_l1 o R ho i (x.set i ((r*4294967296+rd x (i:Int))/10)) ((r*4294967296+rd x (i:Int))%10) (by rw [List.length_set]; omega) (by rw [List.length_set]; exact hn) hr2 hr0 hr1 (fun x' r' hl hR p0 p1 hS=>hc x' r' (by rw [hl,List.length_set]) hR p0 p1 (by
    rw [hS,List.take_set_of_le (Nat.le_refl _),lv_drop_get _ i (by rw [List.length_set]; exact hlt),rd_set_self _ hlt,List.drop_set_of_lt (Nat.lt_succ_self _),lv_take_succ _ _ _ hlt,getD_eq_rd,Int.pow_succ]
    generalize (r*4294967296+rd x (i:Int))/10=q at *
    generalize (r*4294967296+rd x (i:Int))%10=s at *
    generalize lv b32 (List.drop (i+1) x)=D
    generalize lv b32 (List.take i x)=T
    generalize b32^i=p
    generalize rd x (i:Int)=u at *
    grind))
   refine Ev.step (fun k=>?_) ih
   simp only [nat_Text.l1]
   rw [ei,if_pos (by omega),if_pos (by omega),if_pos (by omega),e1,e2,e3,tdiv_nn h2,tmod_nn h2,e4,e5,w1,Int.toNat_natCast]
theorem tx_l2 (o:List Int) (R:ByteArray):∀ (n:Nat) (x:List Int),x.length=n→x.length≤140737488355328→InR b32 x →
 (∀ x':List Int,x'.length≤n→InR b32 x' → lv b32 x' = lv b32 x→(x' = []∨lv b32 x' ≠ 0)→Ev (fun k=>nat_Text.l0 k x' o) R) →
 Ev (fun k=>nat_Text.l2 k x o) R
 | 0,x,hl,hn,hr,hc=>by
   have h0:x=[]:=List.length_eq_zero_iff.1 hl
   refine Ev.step (fun k=>?_) (hc x (by omega) hr rfl (Or.inl h0))
   simp only [nat_Text.l2]
   rw [if_neg (by omega)]
 | n+1,x,hl,hn,hr,hc=>by
   have w1:wrap64 ((x.length:Int) - 1)=(n:Int):=by rw [wrap64_id (by omega) (by omega)]; omega
   have hlt:n < x.length:=by omega
   have hsp:lv b32 x=lv b32 (x.take n)+rd x (n:Int)*b32^n:=by
    have:=lv_take_succ b32 x n hlt
    rwa [List.take_of_length_le (by omega),getD_eq_rd] at this
   by_cases hz:rd x (n:Int)=0
   ·have ht:(x.take n).length=n:=by rw [List.length_take]; omega
    have hv:lv b32 (x.take n)=lv b32 x:=by rw [hsp,hz]; omega
    have ih:=tx_l2 o R n (x.take n) ht (by omega) (InR_take hr n) (fun x' h1 h2 h3 h4=>hc x' (by omega) h2 (h3.trans hv) h4)
    refine Ev.step (fun k=>?_) ih
    simp only [nat_Text.l2,w1]
    rw [if_pos (by omega),if_pos (by omega),if_pos (by omega),if_pos hz,if_pos (by omega),Int.toNat_natCast]
   have hw:=InR_rd b32_pos hr (n:Int)
   have hne:lv b32 x≠0:=by
    have h1:=lv_nonneg b32_pos (InR_take hr n)
    have h2:0 < b32^n:=Int.pow_pos b32_pos
    have h3:0 < rd x (n:Int)*b32^n:=Int.mul_pos (by omega) h2
    omega
   refine Ev.step (fun k=>?_) (hc x (by omega) hr rfl (Or.inr hne))
   simp only [nat_Text.l2,w1]
   rw [if_pos (by omega),if_pos (by omega),if_pos (by omega),if_neg hz]
theorem tx_l0:∀ (m:Nat) (n:Nat) (x o:List Int),n < 10^m→lv b32 x=n→InR b32 x→(x=[]∨lv b32 x≠0)→x.length≤140737488355328→o.length+m≤140737488355327 →
 Ev (fun k=>nat_Text.l0 k x o) (decB (o++lo n))
 | m,n,x,o,hm,hv,hr,hx,hn,ho=>by
   by_cases hz:n=0
   ·have he:x=[]:=hx.resolve_right (by rw [hv,hz]; simp)
    subst he
    rw [hz,lo_0,List.append_nil]
    by_cases h0:o=[]
    ·refine Ev.step (f:=fun _=>some (decB o)) (fun k=>?_) (Ev.now _)
     simp only [nat_Text.l0]
     rw [if_neg (by simp),if_pos (by simp [h0]),h0]
     rfl
    have h1:=tx_l3 o (by omega)
    have e:decB o=strOfNums o.reverse:=by unfold decB; rw [if_neg h0]
    rw [e]
    refine Ev.step (fun k=>?_) h1
    simp only [nat_Text.l0]
    rw [if_neg (by simp),if_neg (by intro h; exact h0 (List.length_eq_zero_iff.1 (by omega)))]
   have hxl:0 < x.length:=by
    cases x with
    | nil=>exact absurd (by simpa [lv] using hv.symm) hz
    | cons=>simp
   cases m with
   | zero=>exact absurd (by simpa using hm) hz
   | succ m =>
     have w1:wrap64 ((x.length:Int) - 1)=(x.length:Int) - 1:=wrap64_id (by omega) (by omega)
     have h1:=tx_l1 o (decB (o++lo n)) (by omega) x.length x 0 (Nat.le_refl _) hn hr (by omega) (by omega) (fun x' r' hl hR p0 p1 hS=>by
      have e1:10*lv b32 x' + r' = n:=by
       rw [hS,List.take_of_length_le (Nat.le_refl _),List.drop_length,hv]
       simp [lv]
      have hq:=lv_nonneg b32_pos hR
      have hd:(n/10:Nat)=lv b32 x':=by omega
      have hr9:((n%10:Nat):Int)=r':=by omega
      refine tx_l2 _ _ x'.length x' rfl (by omega) hR (fun y h1 h2 h3 h4=>?_)
      have hlo:decB (o++lo n)=decB ((o++[48+r'])++lo (n/10)):=by
       rw [lo_s hz,hr9,List.append_assoc]
       rfl
      rw [hlo]
      have hp:n/10 < 10^m:=by
       rw [Nat.pow_succ] at hm
       omega
      exact tx_l0 m (n/10) y _ hp (by rw [h3,hd]) h2 h4 (by omega) (by simp only [List.length_append,List.length_cons,List.length_nil]; omega))
     refine Ev.step (fun k=>?_) h1
     simp only [nat_Text.l0]
     rw [if_pos (by omega),w1]
theorem text_spec (a:ByteArray) (ha:a.size≤1099511627776):Ev (fun k=>nat_Text.f k a) (decB (lo (V a))):=by
 obtain ⟨l,hw,hd,hl⟩:=words a (by omega)
 refine Ev.bind hw ?_
 have hb:V a < 10^(3*a.size):=by
  have h1:=V_lt a
  have h2:(256:Nat)^a.size≤(10^3)^a.size:=Nat.pow_le_pow_left (by decide) _
  rw [← Nat.pow_mul] at h2
  omega
 have:=tx_l0 (3*a.size) (V a) l [] hb hd.2.1 hd.1 (by
  by_cases h:l=[]
  ·exact Or.inl h
  refine Or.inr ?_
  have h1:=hd.2.2 h
  have h2:0 < b32^(l.length - 1):=Int.pow_pos b32_pos
  rw [hd.2.1]
  omega) (by omega) (by simp only [List.length_nil]; omega)
 simpa using this
end Go.Proofs.YtkpeembfagcpcaaDoor.SB
end
section
namespace Go.Proofs.YtkpeembfagcpcaaDoor.SB
open Go.RowKit Go.Proofs.YtkpeembfagcpcaaDoor.A Go.Proofs.YtkpeembfagcpcaaDoor.D Go.Proofs.YtkpeembfagcpcaaDoor.H Go.Proofs.YtkpeembfagcpcaaDoor.R Go.Proofs.YtkpeembfagcpcaaDoor.M Go.Proofs.YtkpeembfagcpcaaDoor.SA Go.Proofs.YtkpeembfagcpcaaDoorW.PrintWords Go.Proofs.YtkpeembfagcpcaaDoorW.PrintLast Go.Proofs.YtkpeembfagcpcaaDoorW.PrintMore
def AllD (s:ByteArray) (i:Nat):Prop:=∀ j,i≤j→j < s.size→48≤bt s (j:Int)∧bt s (j:Int)≤57
noncomputable instance (s:ByteArray) (i:Nat):Decidable (AllD s i):=Classical.propDecidable _
def dv (s:ByteArray):Nat→Nat
 | 0=>0
 | i+1=>dv s i*10+(bt s (i:Int) - 48).toNat
noncomputable def readN (s:ByteArray):ByteArray × Int :=
 if 2000 < s.size then (⟨#[]⟩,2) else if s.size=0∨(1 < s.size∧bt s 0=48) ∨ ¬ AllD s 0 then (⟨#[]⟩,15) else (B (dv s s.size),0)
theorem allD_no {s:ByteArray} {i:Nat} (hi:i < s.size) (h:bt s (i:Int) < 48∨57 < bt s (i:Int)):¬ AllD s i:=fun g=>by
 have:=g i (Nat.le_refl _) hi
 omega
theorem allD_cons {s:ByteArray} {i:Nat} (hi:i < s.size) (h1:48≤bt s (i:Int)) (h2:bt s (i:Int)≤57):AllD s i↔AllD s (i+1):=by
 constructor
 ·intro g j hj hs
  exact g j (by omega) hs
 intro g j hj hs
 by_cases e:j=i
 ·subst e; exact ⟨h1,h2⟩
 exact g j (by omega) hs
theorem rd_l1 (s:ByteArray) (R:ByteArray × Int) (n i:Int):∀ (d k:Nat) (x:List Int) (r:Int),k+d=x.length→x.length≤35184372088831→InR b32 x→0≤r→r≤9 →
 (∀ x':List Int,x'.length≤x.length+1→InR b32 x' → lv b32 x' = lv b32 (x.take k)+b32^k*(10*lv b32 (x.drop k)+r)→Ev (fun q=>nat_Read.l0 q s x' n (wrap64 (i+1))) R) →
 Ev (fun q=>nat_Read.l1 q s x r n i (x.length:Int) (k:Int)) R
 | 0,k,x,r,hk,hn,hr,h0,h1,hc=>by
   have b0:b32=4294967296:=rfl
   have e0:lv b32 (x.take k)=lv b32 x:=by rw [List.take_of_length_le (by omega)]
   have e1:lv b32 (x.drop k)=0:=by rw [List.drop_of_length_le (by omega)]; rfl
   by_cases hz:r > 0
   ·have e2:r%4294967296=r:=by omega
    have:=hc (x++[r]) (by simp) (fun y hy=>by
     rcases List.mem_append.1 hy with hy | hy
     ·exact hr y hy
     ·rw [List.mem_singleton.1 hy,b0]; omega) (by
     rw [lv_snoc,e0,e1,show x.length=k by omega]
     grind)
    refine Ev.step (fun q=>?_) this
    simp only [nat_Read.l1]
    rw [if_neg (by omega),if_pos hz,if_pos (by omega),e2]
   have hz0:r=0:=by omega
   subst hz0
   have:=hc x (by omega) hr (by rw [e0,e1]; grind)
   refine Ev.step (fun q=>?_) this
   simp only [nat_Read.l1]
   rw [if_neg (by omega),if_neg hz]
 | d+1,k,x,r,hk,hn,hr,h0,h1,hc=>by
   have hlt:k < x.length:=by omega
   have hw:=InR_rd b32_pos hr (k:Int)
   have b0:b32=4294967296:=rfl
   have e1:IntKind.u64.wrap (rd x (k:Int))=rd x (k:Int):=wraps_u64 _ (by omega) (by omega)
   have e2:IntKind.u64.wrap (10*rd x (k:Int))=10*rd x (k:Int):=wraps_u64 _ (by omega) (by omega)
   have e3:IntKind.u64.wrap (r+10*rd x (k:Int))=r+10*rd x (k:Int):=wraps_u64 _ (by omega) (by omega)
   have w1:wrap64 ((k:Int)+1)=((k+1:Nat):Int):=by rw [wrap64_id (by omega) (by omega)]; rfl
   have q0:0≤(r+10*rd x (k:Int))%4294967296∧(r+10*rd x (k:Int))%4294967296 < 4294967296:=by omega
   have q1:0≤(r+10*rd x (k:Int))/4294967296∧(r+10*rd x (k:Int))/4294967296≤9:=by omega
   have hd:r+10*rd x (k:Int)=(r+10*rd x (k:Int))%4294967296+b32*((r+10*rd x (k:Int))/4294967296):=by rw [b0]; omega
   have hr2:InR b32 (x.set k ((r+10*rd x (k:Int))%4294967296)):=InR_set hr k q0.1 (by rw [b0]; exact q0.2)
   have ih:=rd_l1 s R n i d (k+1) (x.set k ((r+10*rd x (k:Int))%4294967296)) ((r+10*rd x (k:Int))/4294967296) (by rw [List.length_set]; omega) (by rw [List.length_set]; exact hn) hr2 q1.1 q1.2 (fun x' hl hR hS=>hc x' (by rw [List.length_set] at hl; exact hl) hR (by
    rw [hS,List.drop_set_of_lt (Nat.lt_succ_self _),lv_take_succ _ _ _ (by rw [List.length_set]; exact hlt),List.take_set_of_le (Nat.le_refl _),lv_drop b32 x k hlt,List.getD_eq_getElem?_getD,List.getElem?_set_self hlt,Option.getD_some,Int.pow_succ]
    generalize (r+10*rd x (k:Int))%4294967296=a at *
    generalize (r+10*rd x (k:Int))/4294967296=c at *
    generalize lv b32 (List.drop (k+1) x)=D
    generalize lv b32 (List.take k x)=T
    generalize b32^k=p
    generalize rd x (k:Int)=u at *
    grind))
   rw [List.length_set] at ih
   refine Ev.step (fun q=>?_) ih
   simp only [nat_Read.l1]
   rw [if_pos (by omega),if_pos (by omega),if_pos (by omega),e1,e2,e3,w1,Int.toNat_natCast]
theorem rd_l0 (s:ByteArray) (hs:s.size≤2000):∀ (d i:Nat) (x:List Int),i+d=s.size→x.length≤i→InR b32 x→lv b32 x=dv s i →
 Ev (fun k=>nat_Read.l0 k s x (s.size:Int) (i:Int)) (if AllD s i then (B (dv s s.size),0) else (⟨#[]⟩,15))
 | 0,i,x,hd,hl,hr,hv=>by
   have hA:AllD s i:=fun j h1 h2=>by omega
   rw [if_pos hA]
   have ht:=text x (by omega) hr
   rw [hv,Int.toNat_natCast,show i=s.size by omega] at ht
   refine Ev.step (f:=fun k=>(nat_text.f k x).bind fun t=>some (t,0)) (fun k=>?_) (Ev.bind ht (Ev.now _))
   simp only [nat_Read.l0]
   rw [if_neg (by omega)]
 | d+1,i,x,hd,hl,hr,hv=>by
   have hi:i < s.size:=by omega
   have hb:=bt_range s (i:Int)
   by_cases h1:bt s (i:Int) < 48
   ·rw [if_neg (allD_no hi (.inl h1))]
    refine Ev.step (f:=fun k=>nat_Read.j2 k s x (i:Int) (s.size:Int) (i:Int) true) (fun k=>?_) (Ev.step (f:=fun _=>some (⟨#[]⟩,15)) (fun k=>?_) (Ev.now _))
    ·simp only [nat_Read.l0]
     rw [if_pos (by omega),if_pos (by omega),if_pos (by omega),if_pos h1]
    simp only [nat_Read.j2,if_true]
   by_cases h2:bt s (i:Int) > 57
   ·rw [if_neg (allD_no hi (.inr h2))]
    refine Ev.step (f:=fun k=>nat_Read.j2 k s x (i:Int) (s.size:Int) (i:Int) true) (fun k=>?_) (Ev.step (f:=fun _=>some (⟨#[]⟩,15)) (fun k=>?_) (Ev.now _))
    ·simp only [nat_Read.l0]
     rw [if_pos (by omega),if_pos (by omega),if_pos (by omega),if_neg h1,decide_eq_true h2]
    simp only [nat_Read.j2,if_true]
   have hA:=allD_cons hi (by omega) (by omega)
   have ea:(bt s (i:Int) - 48)%256=bt s (i:Int) - 48:=by omega
   have w1:wrap64 ((i:Int)+1)=((i+1:Nat):Int):=by rw [wrap64_id (by omega) (by omega)]; rfl
   have hl1:=rd_l1 s (if AllD s i then (B (dv s s.size),0) else (⟨#[]⟩,15)) (s.size:Int) (i:Int) x.length 0 x (bt s (i:Int) - 48) (by omega) (by omega) hr (by omega) (by omega) (fun x' hl' hR hS=>by
    rw [w1]
    have ih:=rd_l0 s hs d (i+1) x' (by omega) (by omega) hR (by
     rw [hS]
     have e:((bt s (i:Int) - 48).toNat:Int)=bt s (i:Int) - 48:=by omega
     show _=((dv s i*10+(bt s (i:Int) - 48).toNat:Nat):Int)
     push_cast
     rw [e]
     simp only [List.take_zero,List.drop_zero,lv,Int.pow_zero,hv]
     omega)
    rw [show (if AllD s i then (B (dv s s.size),(0:Int)) else (⟨#[]⟩,15))=if AllD s (i+1) then (B (dv s s.size),0) else (⟨#[]⟩,15) by simp only [hA]]
    exact ih)
   refine Ev.step (f:=fun k=>nat_Read.j2 k s x (i:Int) (s.size:Int) (i:Int) false) (fun k=>?_) (Ev.step (fun k=>?_) hl1)
   ·simp only [nat_Read.l0]
    rw [if_pos (by omega),if_pos (by omega),if_pos (by omega),if_neg h1,decide_eq_false h2]
   simp only [nat_Read.j2]
   rw [if_neg (by decide),if_pos (by omega),if_pos (by omega),ea]
   rfl
theorem toList_nil {s:ByteArray}:s.toList=[]↔s.size=0:=by
 rw [ByteArray.toList_eq,← size_toList,List.length_eq_zero_iff]
theorem read_spec (s:ByteArray):Ev (fun k=>nat_Read.f k s) (readN s):=by
 unfold readN
 by_cases h0:2000 < s.size
 ·rw [if_pos h0]
  refine Ev.congr (f:=fun _=>some (⟨#[]⟩,2)) (fun k=>?_) (Ev.now _)
  unfold nat_Read.f
  rw [if_pos (by omega)]
 rw [if_neg h0]
 have bad:Ev (fun k=>nat_Read.j0 k s true) (⟨#[]⟩,15):=by
  refine Ev.step (f:=fun _=>some (⟨#[]⟩,15)) (fun k=>?_) (Ev.now _)
  simp only [nat_Read.j0,if_true]
 have good:Ev (fun k=>nat_Read.j0 k s false) (if AllD s 0 then (B (dv s s.size),0) else (⟨#[]⟩,15)):=by
  refine Ev.step (fun k=>?_) (rd_l0 s (by omega) s.size 0 [] (by omega) (by simp) (fun y hy=>by cases hy) rfl)
  simp only [nat_Read.j0]
  rw [if_neg (by decide)]
  rfl
 by_cases h1:s.size=0
 ·rw [if_pos (.inl h1)]
  refine Ev.congr (fun k=>?_) bad
  unfold nat_Read.f
  rw [if_neg (by omega),if_pos (toList_nil.2 h1)]
 by_cases h2:1 < s.size
 ·by_cases h3:bt s 0=48
  ·rw [if_pos (.inr (.inl ⟨h2,h3⟩))]
   refine Ev.congr (fun k=>?_) bad
   unfold nat_Read.f
   rw [if_neg (by omega),if_neg (fun h=>h1 (toList_nil.1 h)),if_pos (by omega),if_pos (by omega),h3]
   rfl
  have e:(if s.size=0∨(1 < s.size∧bt s 0=48) ∨ ¬ AllD s 0 then ((⟨#[]⟩,15):ByteArray × Int) else (B (dv s s.size),0))=if AllD s 0 then (B (dv s s.size),0) else (⟨#[]⟩,15):=by
   by_cases hA:AllD s 0
   ·rw [if_neg (by simp [h1,h3,hA]),if_pos hA]
   rw [if_pos (.inr (.inr hA)),if_neg hA]
  rw [e]
  refine Ev.congr (fun k=>?_) good
  unfold nat_Read.f
  have hf:(bt s 0==48)=false:=by simpa using h3
  rw [if_neg (by omega),if_neg (fun h=>h1 (toList_nil.1 h)),if_pos (by omega),if_pos (by omega),hf]
 have e:(if s.size=0∨(1 < s.size∧bt s 0=48) ∨ ¬ AllD s 0 then ((⟨#[]⟩,15):ByteArray × Int) else (B (dv s s.size),0))=if AllD s 0 then (B (dv s s.size),0) else (⟨#[]⟩,15):=by
  by_cases hA:AllD s 0
  ·rw [if_neg (by simp [h1,h2,hA]),if_pos hA]
  rw [if_pos (.inr (.inr hA)),if_neg hA]
 rw [e]
 refine Ev.congr (fun k=>?_) good
 unfold nat_Read.f
 rw [if_neg (by omega),if_neg (fun h=>h1 (toList_nil.1 h)),if_neg (by omega)]
theorem dv_lt {s:ByteArray} (hA:AllD s 0):∀ i,i≤s.size→dv s i < 10^i
 | 0,_=>by show 0 < 10^0; decide
 | i+1,h=>by
   have ih:=dv_lt hA i (by omega)
   have:=hA i (by omega) (by omega)
   show dv s i*10+_ < _
   rw [Nat.pow_succ]
   omega
theorem szB {n j:Nat} (h:n < 10^j):(B n).size≤j:=size_B_le (Nat.lt_of_lt_of_le h (Nat.pow_le_pow_left (by decide) _))
theorem nu_l0 (s:ByteArray) (hs:s.size≤2000) (hA:AllD s 0):∀ (m j σ:Nat),m+j=s.size→dv s s.size=dv s m*10^j+σ→σ < 10^j →
 Ev (fun k=>gantref1_Numeral.l0 k s (B σ) (B (10^j)) ((m:Int) - 1)) (B (dv s s.size),0)
 | 0,j,σ,hm,hd,hσ=>by
   have e:dv s s.size=σ:=by rw [hd]; show 0*_+_=_; omega
   rw [e]
   refine Ev.step (f:=fun _=>some (B σ,0)) (fun k=>?_) (Ev.now _)
   simp only [gantref1_Numeral.l0]
   rw [if_neg (by omega)]
 | m+1,j,σ,hm,hd,hσ=>by
   have hb:=hA m (by omega) (by omega)
   have ei:(((m+1:Nat):Int) - 1)=(m:Int):=by omega
   have ea:(bt s (m:Int) - 48)%256=bt s (m:Int) - 48:=by omega
   obtain ⟨c,hc⟩:∃ c,c=(bt s (m:Int) - 48).toNat:=⟨_,rfl⟩
   have hc9:c≤9:=by omega
   have hp:10^(j+1)=10^j*10:=Nat.pow_succ ..
   have hcj:10^j*c≤10^j*9:=Nat.mul_le_mul_left _ hc9
   have s1:(B σ).size≤j+1:=szB (by omega)
   have s2:(B (10^j)).size≤j+1:=szB (by omega)
   have s3:(B c).size≤1:=szB (show c < 10 by omega)
   have s4:(B (10^j*c)).size≤j+1:=szB (by omega)
   have t1:=small_spec (bt s (m:Int) - 48) (by omega) (by omega)
   rw [← hc] at t1
   have t2:=times_spec (B (10^j)) (B c) (by omega) (by omega)
   rw [V_B,V_B] at t2
   have t3:=plus_spec (B σ) (B (10^j*c)) (by omega) (by omega)
   rw [V_B,V_B] at t3
   have e10:(⟨#[10]⟩:ByteArray)=B 10:=by decide +kernel
   have t4:=times_spec (B (10^j)) (B 10) (by omega) (by rw [← e10]; decide)
   rw [V_B,V_B,← hp] at t4
   have w1:wrap64 ((m:Int) - 1)=(m:Int) - 1:=wrap64_id (by omega) (by omega)
   have ih:=nu_l0 s hs hA m (j+1) (σ+10^j*c) (by omega) (by
    rw [hd,hp]
    show (dv s m*10+_)*10^j+σ=_
    rw [← hc]
    generalize 10^j=p
    generalize dv s m=q
    grind) (by omega)
   refine Ev.step (f:=fun k=>(gantref1_Small.f k ((bt s (m:Int) - 48)%256)).bind fun t150=>(gantref1_Times.f k (B (10^j)) t150).bind fun t151=>(gantref1_Plus.f k (B σ) t151).bind fun t152=>(gantref1_Times.f k (B (10^j)) ⟨#[10]⟩).bind fun t153=>gantref1_Numeral.l0 k s t152 t153 (wrap64 ((m:Int) - 1))) (fun k=>?_) ?_
   ·simp only [gantref1_Numeral.l0]
    rw [ei,if_pos (by omega),if_pos (by omega),if_pos (by omega)]
   rw [ea,e10,w1]
   exact Ev.bind t1 (Ev.bind t2 (Ev.bind t3 (Ev.bind t4 ih)))
theorem ten_iff (b:UInt8):tenDigits.data.toList.contains b=true↔48≤b.toNat∧b.toNat≤57:=by
 have h:∀ n:Fin 256,([48,49,50,51,52,53,54,55,56,57]:List UInt8).contains (UInt8.ofNat n.val)=decide (48≤n.val∧n.val≤57):=by decide +kernel
 have:=h ⟨b.toNat,b.toNat_lt⟩
 rw [UInt8.ofNat_toNat] at this
 show ([48,49,50,51,52,53,54,55,56,57]:List UInt8).contains b=true↔_
 rw [this,decide_eq_true_iff]
theorem allD_iff (s:ByteArray):AllD s 0 ↔ ∀ b∈s.data.toList,tenDigits.data.toList.contains b=true:=by
 constructor
 ·intro h b hb
  obtain ⟨j,hj,rfl⟩:=List.getElem_of_mem hb
  have hs:=size_toList s
  have:=h j (Nat.zero_le _) (by omega)
  rw [bt_toList,List.getD_eq_getElem?_getD,List.getElem?_eq_getElem hj,Option.getD_some] at this
  exact (ten_iff _).2 (by omega)
 intro h j _ hj
 have hs:=size_toList s
 have hj':j < s.data.toList.length:=by omega
 have:=(ten_iff _).1 (h _ (List.getElem_mem hj'))
 rw [bt_toList,List.getD_eq_getElem?_getD,List.getElem?_eq_getElem hj',Option.getD_some]
 omega
theorem dw_nil (p:UInt8→Bool) (l:List UInt8):l.dropWhile p=[] ↔ ∀ b∈l,p b=true:=by
 induction l with
 | nil=>simp
 | cons a l ih=>simp only [List.dropWhile_cons]; split<;>simp_all
theorem trim_iff (l cs:List UInt8):Lib.trimS l cs=[] ↔ ∀ b∈l,cs.contains b=true:=by
 unfold Lib.trimS Lib.trimLeftS Lib.trimRightS
 rw [dw_nil]
 constructor
 ·intro h b hb
  have h2:=List.head?_dropWhile_not (cs.contains ·) l.reverse
  cases hd:(l.reverse.dropWhile (cs.contains ·)) with
  | nil=>exact (dw_nil _ _).1 hd b (List.mem_reverse.2 hb)
  | cons y t =>
    rw [hd] at h2
    have:=h y (by rw [hd]; simp)
    simp only [List.head?_cons] at h2
    rw [h2] at this
    cases this
 intro h b hb
 exact h b (List.mem_reverse.1 ((List.dropWhile_sublist _).subset (List.mem_reverse.1 hb)))
theorem numeral_spec (s:ByteArray):Ev (fun k=>gantref1_Numeral.f k s) (readN s):=by
 unfold readN
 by_cases h0:2000 < s.size
 ·rw [if_pos h0]
  refine Ev.congr (f:=fun _=>some (⟨#[]⟩,2)) (fun k=>?_) (Ev.now _)
  unfold gantref1_Numeral.f
  rw [if_pos (by omega)]
 rw [if_neg h0]
 have ht:strings_Trim.f s (⟨#[48,49,50,51,52,53,54,55,56,57]⟩:ByteArray)=some ⟨(Lib.trimS s.data.toList tenDigits.data.toList).toArray⟩:=by
  unfold strings_Trim.f
  rw [if_pos ⟨rfl,by omega⟩]
 have bad:Ev (fun k=>gantref1_Numeral.j0 k s true) (⟨#[]⟩,15):=by
  refine Ev.step (f:=fun _=>some (⟨#[]⟩,15)) (fun k=>?_) (Ev.now _)
  simp only [gantref1_Numeral.j0,if_true]
 have htl:(⟨(Lib.trimS s.data.toList tenDigits.data.toList).toArray⟩:ByteArray).toList=[]↔AllD s 0:=by
  rw [allD_iff,← trim_iff,ByteArray.toList_eq]
 have good:AllD s 0→Ev (fun k=>gantref1_Numeral.j0 k s false) (B (dv s s.size),0):=fun hA=>by
  have w1:wrap64 ((s.size:Int) - 1)=(s.size:Int) - 1:=wrap64_id (by omega) (by omega)
  have h:=nu_l0 s (by omega) hA s.size 0 0 (by omega) (by simp) (by decide)
  have e1:(B (10^0))=⟨#[1]⟩:=by decide +kernel
  rw [B_zero,e1] at h
  refine Ev.step (fun k=>?_) h
  simp only [gantref1_Numeral.j0]
  rw [if_neg (by decide),w1]
 by_cases hA:AllD s 0
 rotate_left
 ·rw [if_pos (.inr (.inr hA))]
  refine Ev.congr (fun k=>?_) bad
  unfold gantref1_Numeral.f
  rw [if_neg (by omega),ht,Option.bind_some,if_neg (fun h=>hA (htl.1 h))]
 by_cases h1:s.size=0
 ·rw [if_pos (.inl h1)]
  refine Ev.congr (fun k=>?_) bad
  unfold gantref1_Numeral.f
  rw [if_neg (by omega),ht,Option.bind_some,if_pos (htl.2 hA),if_pos (toList_nil.2 h1)]
 have n1:¬ s.toList=[]:=fun h=>h1 (toList_nil.1 h)
 by_cases h2:1 < s.size
 ·have n2 : ¬ s.toList = [48] := fun h => by
   have:=congrArg List.length h
   rw [ByteArray.toList_eq,size_toList] at this
   simp at this
   omega
  by_cases h3:bt s 0=48
  ·rw [if_pos (.inr (.inl ⟨h2,h3⟩))]
   refine Ev.congr (fun k=>?_) bad
   unfold gantref1_Numeral.f
   rw [if_neg (by omega),ht,Option.bind_some,if_pos (htl.2 hA),if_neg n1,if_neg n2,if_pos (by omega),h3]
   rfl
  rw [if_neg (by simp [h1,h3,hA])]
  have hf:(bt s 0==48)=false:=by simpa using h3
  refine Ev.congr (fun k=>?_) (good hA)
  unfold gantref1_Numeral.f
  rw [if_neg (by omega),ht,Option.bind_some,if_pos (htl.2 hA),if_neg n1,if_neg n2,if_pos (by omega),hf]
 rw [if_neg (by simp [h1,h2,hA])]
 refine Ev.congr (fun k=>?_) (good hA)
 unfold gantref1_Numeral.f
 rw [if_neg (by omega),ht,Option.bind_some,if_pos (htl.2 hA),if_neg n1]
 by_cases n2:s.toList=[48]
 ·rw [if_pos n2]
 have hf:(bt s 0==48)=false:=by
  rw [beq_eq_false_iff_ne]
  intro h3
  apply n2
  have hz:=size_toList s
  rw [bt0] at h3
  rw [ByteArray.toList_eq]
  cases hq:s.data.toList with
  | nil=>rw [hq] at hz; simp at hz; omega
  | cons c t =>
    rw [hq] at hz h3
    simp at hz h3
    have ht0:t=[]:=List.length_eq_zero_iff.1 (by omega)
    subst ht0
    congr 1
    exact UInt8.toNat_inj.1 (by rw [show (48:UInt8).toNat=48 from rfl]; omega)
 rw [if_neg n2,if_pos (by omega),hf]
end Go.Proofs.YtkpeembfagcpcaaDoor.SB
end
