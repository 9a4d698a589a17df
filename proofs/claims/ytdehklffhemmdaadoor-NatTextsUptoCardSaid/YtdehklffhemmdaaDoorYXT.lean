import Derived.Test.YtdehklffhemmdaaDoorYSR
import Derived.Test.YtdehklffhemmdaaDoorYX0
import Derived.Test.YtdehklffhemmdaaDoorYX1
namespace Go.Proofs.YtdehklffhemmdaaDoor.SB
open Go.RowKit Go.Proofs.YtdehklffhemmdaaDoor.A Go.Proofs.YtdehklffhemmdaaDoor.X Go.Proofs.YtdehklffhemmdaaDoor.M Go.Proofs.YtdehklffhemmdaaDoor.SA Go.Proofs.YtdehklffhemmdaaDoorW.PrintWords Go.Proofs.YtdehklffhemmdaaDoorW.PrintLast Go.Proofs.YtdehklffhemmdaaDoorW.PrintMore
set_option linter.unusedVariables false
set_option linter.unusedSimpArgs false
def lo:Nat→List Int:=fun n=>if h:n=0 then [] else (48+((n%10:Nat):Int))::lo (n/10)
termination_by n=>n
decreasing_by omega
theorem lo_0:lo 0=[]:=by unfold lo; rw [dif_pos rfl]
theorem lo_s {n:Nat} (h:n≠0):lo n=(48+((n%10:Nat):Int))::lo (n/10):=by
  conv=>lhs; unfold lo
  rw [dif_neg h]
def decB (l:List Int):ByteArray:=if l=[] then ⟨#[48]⟩ else strOfNums l.reverse
theorem tx_rev (o:List Int) (hn:o.length≤140737488355328) (d:Nat):∀ (i:Nat) (x:List Int),i≤o.length→o.length - i=d→x.length=o.length →
    (∀ m,m < o.length→x.getD m 0=if m < i∨o.length - 1 - i < m then o.getD (o.length - 1 - m) 0 else o.getD m 0)→2*i≤o.length+1 →
    Ev (fun k=>nat_Text.l3 k x (i:Int) ((o.length:Int) - 1 - i)) (strOfNums o.reverse):=by
  have fin:∀ (i:Nat) (x:List Int),x.length=o.length→(∀ m,m < o.length→x.getD m 0=if m < i∨o.length - 1 - i < m then o.getD (o.length - 1 - m) 0 else o.getD m 0) → ¬ (i:Int) < (o.length:Int) - 1 - i→Ev (fun k=>nat_Text.l3 k x (i:Int) ((o.length:Int) - 1 - i)) (strOfNums o.reverse):=by
    intro i x hl hx hlt
    have hx0:x=o.reverse:=by
      apply List.ext_getElem
      · rw [List.length_reverse,hl]
      intro m h1 h3
      have:=hx m (by omega)
      rw [List.getD_eq_getElem?_getD,List.getElem?_eq_getElem h1] at this
      rw [List.getElem_reverse]
      simp only [Option.getD_some] at this
      rw [this]
      have h5:o.length - 1 - m < o.length:=by omega
      by_cases e3:m < i∨o.length - 1 - i < m
      · rw [if_pos e3,List.getD_eq_getElem?_getD,List.getElem?_eq_getElem h5]
        rfl
      rw [if_neg e3,List.getD_eq_getElem?_getD,List.getElem?_eq_getElem (by omega)]
      simp only [Option.getD_some]
      congr 1
      omega
    refine Ev.step (f:=fun _=>some (strOfNums o.reverse)) (fun k=>?_) (Ev.now _)
    simp only [nat_Text.l3]
    rw [if_neg hlt,hx0]
  induction d with
  | zero =>
    intro i x hi hd hl hx h2
    exact fin i x hl hx (by omega)
  | succ d ih =>
    intro i x hi hd hl hx h2
    by_cases hlt:(i:Int) < (o.length:Int) - 1 - i
    rotate_left
    · exact fin i x hl hx hlt
    have c1:(i:Int)+1=((i+1:Nat):Int):=by omega
    have c2:(o.length:Int) - 1 - i - 1=(o.length:Int) - 1 - ((i+1:Nat):Int):=by omega
    have c3:(o.length:Int) - 1 - i=((o.length - 1 - i:Nat):Int):=by omega
    have hx2:∀ m,m < o.length→((x.set i (rd x ((o.length - 1 - i:Nat):Int))).set (o.length - 1 - i) (rd x (i:Int))).getD m 0=if m < i+1∨o.length - 1 - (i+1) < m then o.getD (o.length - 1 - m) 0 else o.getD m 0:=by
      intro m hm
      have h0:=hx m hm
      have ha:=hx i (by omega)
      have hb:=hx (o.length - 1 - i) (by omega)
      rw [if_neg (by omega)] at ha hb
      by_cases e1:m=o.length - 1 - i
      · subst e1
        rw [List.getD_eq_getElem?_getD,List.getElem?_set_self (by rw [List.length_set]; omega),Option.getD_some,if_pos (by omega),← getD_eq_rd,ha,show o.length - 1 - (o.length - 1 - i)=i by omega]
      rw [lset_ne _ (by omega)]
      by_cases e2:m=i
      · subst e2
        rw [List.getD_eq_getElem?_getD,List.getElem?_set_self (by omega),Option.getD_some,if_pos (by omega),← getD_eq_rd,hb]
      rw [lset_ne _ (by omega),h0]
      by_cases e3:m < i∨o.length - 1 - i < m
      · rw [if_pos e3,if_pos (by omega)]
      rw [if_neg e3,if_neg (by omega)]
    have ihx:=ih (i+1) _ (by omega) (by omega) (by simp only [List.length_set]; exact hl) hx2 (by omega)
    have g1:0≤(o.length:Int) - 1 - i:=by omega
    have g2:(o.length:Int) - 1 - i < (x.length:Int):=by omega
    have g3:0≤(i:Int):=by omega
    have g4:(i:Int) < (x.length:Int):=by omega
    have w1:wrap64 ((i:Int)+1)=(i:Int)+1:=wrap64_id (by omega) (by omega)
    have w2:wrap64 ((o.length:Int) - 1 - i - 1)=(o.length:Int) - 1 - i - 1:=wrap64_id (by omega) (by omega)
    refine Ev.step (fun k=>?_) ihx
    simp only [nat_Text.l3]
    rw [if_pos hlt,if_pos g1,if_pos g2,if_pos g3,if_pos g4,w1,w2,c2,c3,Int.toNat_natCast,Int.toNat_natCast]
    rfl
theorem tx_l3 (o:List Int) (hn:o.length≤140737488355328):Ev (fun k=>nat_Text.l3 k o 0 (wrap64 ((o.length:Int) - 1))) (strOfNums o.reverse):=by
  have h:=tx_rev o hn o.length 0 o (by omega) (by omega) rfl (fun m hm=>by rw [if_neg (by omega)]) (by omega)
  have w:wrap64 ((o.length:Int) - 1)=(o.length:Int) - 1 - ((0:Nat):Int):=by rw [wrap64_id (by omega) (by omega)]; omega
  rw [w]
  exact h
theorem lv_drop_get (l:List Int) (i:Nat) (h:i < l.length):lv b32 (l.drop i)=rd l (i:Int)+b32*lv b32 (l.drop (i+1)):=by
  rw [List.drop_eq_getElem_cons h,← getD_eq_rd,List.getD_eq_getElem?_getD,List.getElem?_eq_getElem h]
  rfl
theorem tx_l1 (o:List Int) (R:ByteArray) (ho:o.length < 140737488355328):∀ (i:Nat) (x:List Int) (r:Int),i≤x.length→x.length≤140737488355328→InR b32 x→0≤r→r < 10 →
    (∀ (x':List Int) (r':Int),x'.length=x.length→InR b32 x' → 0≤r' → r' < 10→10*lv b32 x' + r' = lv b32 (x.take i)+b32^i*(10*lv b32 (x.drop i)+r)→Ev (fun k=>nat_Text.l2 k x' (o++[48+r'])) R) →
    Ev (fun k=>nat_Text.l1 k x o r ((i:Int) - 1)) R
  | 0,x,r,hi,hn,hr,h0,h1,hc=>by
    have h:=hc x r rfl hr h0 h1 (by simp [lv])
    refine Ev.step (fun k=>?_) h
    simp only [nat_Text.l1]
    have w:IntKind.u64.wrap (48+r)%256=48+r:=by rw [IntKind.wrap_u64]; omega
    rw [if_neg (by omega),if_pos ho,w]
  | i+1,x,r,hi,hn,hr,h0,h1,hc=>by
    have hlt:i < x.length:=by omega
    have hw:=InR_rd b32_pos hr (i:Int)
    have ei:(((i+1:Nat):Int) - 1)=(i:Int):=by omega
    have b0:b32=4294967296:=rfl
    have e1:IntKind.u64.wrap (r*4294967296)=r*4294967296:=wraps_u64 _ (by omega) (by omega)
    have e2:IntKind.u64.wrap (rd x (i:Int))=rd x (i:Int):=wraps_u64 _ (by omega) (by omega)
    have e3:Go.bits .or .u64 (r*4294967296) (rd x (i:Int))=r*4294967296+rd x (i:Int):=or64 32 _ _ (by omega) (by omega) (by omega) (by omega) (by omega) (by omega)
    have h2:0≤r*4294967296+rd x (i:Int):=by omega
    have hq0:0≤(r*4294967296+rd x (i:Int))/10:=by omega
    have hq1:(r*4294967296+rd x (i:Int))/10 < 4294967296:=by omega
    have e4:IntKind.u64.wrap ((r*4294967296+rd x (i:Int))/10)=(r*4294967296+rd x (i:Int))/10:=wraps_u64 _ hq0 (by omega)
    have e5:(r*4294967296+rd x (i:Int))/10%4294967296=(r*4294967296+rd x (i:Int))/10:=Int.emod_eq_of_lt hq0 hq1
    have w1:wrap64 ((i:Int) - 1)=(i:Int) - 1:=wrap64_id (by omega) (by omega)
    have hr0:0≤(r*4294967296+rd x (i:Int))%10:=by omega
    have hr1:(r*4294967296+rd x (i:Int))%10 < 10:=by omega
    have hd:10*((r*4294967296+rd x (i:Int))/10)+(r*4294967296+rd x (i:Int))%10=r*b32+rd x (i:Int):=by rw [b0]; omega
    have hr2:InR b32 (x.set i ((r*4294967296+rd x (i:Int))/10)):=InR_set hr i hq0 (by rw [b0]; exact hq1)
    have ih:=tx_l1 o R ho i (x.set i ((r*4294967296+rd x (i:Int))/10)) ((r*4294967296+rd x (i:Int))%10) (by rw [List.length_set]; omega) (by rw [List.length_set]; exact hn) hr2 hr0 hr1 (fun x' r' hl hR p0 p1 hS=>hc x' r' (by rw [hl,List.length_set]) hR p0 p1 (by
      rw [hS,List.take_set_of_le (Nat.le_refl _),lv_drop_get _ i (by rw [List.length_set]; exact hlt),rd_set_self _ hlt,List.drop_set_of_lt (Nat.lt_succ_self _),lv_take_succ _ _ _ hlt,getD_eq_rd,Int.pow_succ]
      generalize (r*4294967296+rd x (i:Int))/10=q at *
      generalize (r*4294967296+rd x (i:Int))%10=s at *
      generalize lv b32 (List.drop (i+1) x)=D
      generalize lv b32 (List.take i x)=T
      generalize b32^i=p
      generalize rd x (i:Int)=u at *
      grind))
    refine Ev.step (fun k=>?_) ih
    simp only [nat_Text.l1]
    rw [ei,if_pos (by omega),if_pos (by omega),if_pos (by omega),e1,e2,e3,tdiv_nn h2,tmod_nn h2,e4,e5,w1,Int.toNat_natCast]
theorem tx_l2 (o:List Int) (R:ByteArray):∀ (n:Nat) (x:List Int),x.length=n→x.length≤140737488355328→InR b32 x →
    (∀ x':List Int,x'.length≤n→InR b32 x' → lv b32 x' = lv b32 x→(x' = []∨lv b32 x' ≠ 0)→Ev (fun k=>nat_Text.l0 k x' o) R) →
    Ev (fun k=>nat_Text.l2 k x o) R
  | 0,x,hl,hn,hr,hc=>by
    have h0:x=[]:=List.length_eq_zero_iff.1 hl
    refine Ev.step (fun k=>?_) (hc x (by omega) hr rfl (Or.inl h0))
    simp only [nat_Text.l2]
    rw [if_neg (by omega)]
  | n+1,x,hl,hn,hr,hc=>by
    have w1:wrap64 ((x.length:Int) - 1)=(n:Int):=by rw [wrap64_id (by omega) (by omega)]; omega
    have hlt:n < x.length:=by omega
    have hsp:lv b32 x=lv b32 (x.take n)+rd x (n:Int)*b32^n:=by
      have:=lv_take_succ b32 x n hlt
      rwa [List.take_of_length_le (by omega),getD_eq_rd] at this
    by_cases hz:rd x (n:Int)=0
    · have ht:(x.take n).length=n:=by rw [List.length_take]; omega
      have hv:lv b32 (x.take n)=lv b32 x:=by rw [hsp,hz]; omega
      have ih:=tx_l2 o R n (x.take n) ht (by omega) (InR_take hr n) (fun x' h1 h2 h3 h4=>hc x' (by omega) h2 (h3.trans hv) h4)
      refine Ev.step (fun k=>?_) ih
      simp only [nat_Text.l2,w1]
      rw [if_pos (by omega),if_pos (by omega),if_pos (by omega),if_pos hz,if_pos (by omega),Int.toNat_natCast]
    have hw:=InR_rd b32_pos hr (n:Int)
    have hne:lv b32 x≠0:=by
      have h1:=lv_nonneg b32_pos (InR_take hr n)
      have h2:0 < b32^n:=Int.pow_pos b32_pos
      have h3:0 < rd x (n:Int)*b32^n:=Int.mul_pos (by omega) h2
      omega
    refine Ev.step (fun k=>?_) (hc x (by omega) hr rfl (Or.inr hne))
    simp only [nat_Text.l2,w1]
    rw [if_pos (by omega),if_pos (by omega),if_pos (by omega),if_neg hz]
theorem tx_l0:∀ (m:Nat) (n:Nat) (x o:List Int),n < 10^m→lv b32 x=n→InR b32 x→(x=[]∨lv b32 x≠0)→x.length≤140737488355328→o.length+m≤140737488355327 →
    Ev (fun k=>nat_Text.l0 k x o) (decB (o++lo n))
  | m,n,x,o,hm,hv,hr,hx,hn,ho=>by
    by_cases hz:n=0
    · have he:x=[]:=hx.resolve_right (by rw [hv,hz]; simp)
      subst he
      rw [hz,lo_0,List.append_nil]
      by_cases h0:o=[]
      · refine Ev.step (f:=fun _=>some (decB o)) (fun k=>?_) (Ev.now _)
        simp only [nat_Text.l0]
        rw [if_neg (by simp),if_pos (by simp [h0]),h0]
        rfl
      have h1:=tx_l3 o (by omega)
      have e:decB o=strOfNums o.reverse:=by unfold decB; rw [if_neg h0]
      rw [e]
      refine Ev.step (fun k=>?_) h1
      simp only [nat_Text.l0]
      rw [if_neg (by simp),if_neg (by intro h; exact h0 (List.length_eq_zero_iff.1 (by omega)))]
    have hxl:0 < x.length:=by
      cases x with
      | nil=>exact absurd (by simpa [lv] using hv.symm) hz
      | cons=>simp
    cases m with
    | zero=>exact absurd (by simpa using hm) hz
    | succ m =>
      have w1:wrap64 ((x.length:Int) - 1)=(x.length:Int) - 1:=wrap64_id (by omega) (by omega)
      have h1:=tx_l1 o (decB (o++lo n)) (by omega) x.length x 0 (Nat.le_refl _) hn hr (by omega) (by omega) (fun x' r' hl hR p0 p1 hS=>by
        have e1:10*lv b32 x' + r' = n:=by
          rw [hS,List.take_of_length_le (Nat.le_refl _),List.drop_length,hv]
          simp [lv]
        have hq:=lv_nonneg b32_pos hR
        have hd:(n/10:Nat)=lv b32 x':=by omega
        have hr9:((n%10:Nat):Int)=r':=by omega
        refine tx_l2 _ _ x'.length x' rfl (by omega) hR (fun y h1 h2 h3 h4=>?_)
        have hlo:decB (o++lo n)=decB ((o++[48+r'])++lo (n/10)):=by
          rw [lo_s hz,hr9,List.append_assoc]
          rfl
        rw [hlo]
        have hp:n/10 < 10^m:=by
          rw [Nat.pow_succ] at hm
          omega
        exact tx_l0 m (n/10) y _ hp (by rw [h3,hd]) h2 h4 (by omega) (by simp only [List.length_append,List.length_cons,List.length_nil]; omega))
      refine Ev.step (fun k=>?_) h1
      simp only [nat_Text.l0]
      rw [if_pos (by omega),w1]
theorem text_spec (a:ByteArray) (ha:a.size≤1099511627776):Ev (fun k=>nat_Text.f k a) (decB (lo (V a))):=by
  obtain ⟨l,hw,hd,hl⟩:=words a (by omega)
  refine Ev.bind hw ?_
  have hb:V a < 10^(3*a.size):=by
    have h1:=V_lt a
    have h2:(256:Nat)^a.size≤(10^3)^a.size:=Nat.pow_le_pow_left (by decide) _
    rw [← Nat.pow_mul] at h2
    omega
  have:=tx_l0 (3*a.size) (V a) l [] hb hd.2.1 hd.1 (by
    by_cases h:l=[]
    · exact Or.inl h
    refine Or.inr ?_
    have h1:=hd.2.2 h
    have h2:0 < b32^(l.length - 1):=Int.pow_pos b32_pos
    rw [hd.2.1]
    omega) (by omega) (by simp only [List.length_nil]; omega)
  simpa using this
end Go.Proofs.YtdehklffhemmdaaDoor.SB
