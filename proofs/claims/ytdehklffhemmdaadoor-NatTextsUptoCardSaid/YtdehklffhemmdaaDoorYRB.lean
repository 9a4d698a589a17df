import Derived.Test.YtdehklffhemmdaaDoorYSR
import Derived.Test.YtdehklffhemmdaaDoorYR0
import Derived.Test.YtdehklffhemmdaaDoorYR1
import Derived.Test.YtdehklffhemmdaaDoorYR2
namespace Go.Proofs.YtdehklffhemmdaaDoor.SB
open Go.RowKit Go.Proofs.YtdehklffhemmdaaDoor.A Go.Proofs.YtdehklffhemmdaaDoor.R Go.Proofs.YtdehklffhemmdaaDoor.H Go.Proofs.YtdehklffhemmdaaDoor.M Go.Proofs.YtdehklffhemmdaaDoor.SA Go.Proofs.YtdehklffhemmdaaDoorW.PrintWords Go.Proofs.YtdehklffhemmdaaDoorW.PrintLast Go.Proofs.YtdehklffhemmdaaDoorW.PrintMore
set_option linter.unusedVariables false
set_option linter.unusedSimpArgs false
theorem bare_spec (a:ByteArray):gantref1_Bare.f a=some (B (V a)):=by
  unfold gantref1_Bare.f strings_TrimLeft.f
  rw [if_pos rfl]
  rfl
theorem digit_spec (a:ByteArray) (hs:a.size≤140737488351232) (i:Nat):gantref1_digit.f a (i:Int)=some ((V a/256^i%256:Nat):Int):=by
  unfold gantref1_digit.f
  by_cases h:i < a.size
  · have e2:=words_i2 (n:=a.size) (i:=i) h (by omega)
    have hd:=drop_lead a.data.toList i (by rw [size_toList]; exact h)
    rw [size_toList] at hd
    have hb:bt a ((a.size - 1 - i:Nat):Int)=((V a/256^i%256:Nat):Int):=by
      rw [bt_toList]; unfold V; rw [hd]
    have hm:V a/256^i%256 < 256:=Nat.mod_lt _ (by decide)
    have g1:((a.size - 1 - i:Nat):Int) < (a.size:Int):=by clear e2 hd hb; omega
    rw [if_pos (Int.ofNat_lt.2 h),e2,if_pos (Int.natCast_nonneg _),if_pos g1,hb,wrap64_id (by clear e2 hd hb; omega) (by clear e2 hd hb; omega)]
  rw [if_neg (by omega)]
  have hlt:V a < 256^i:=Nat.lt_of_lt_of_le (V_lt a) (Nat.pow_le_pow_right (by decide) (by omega))
  rw [Nat.div_eq_of_lt hlt]
  rfl
theorem rev_l1 (o:List Int) (hn:o.length≤140737488355328) (hr:InR 256 o) (d:Nat):∀ (i:Nat) (x:List Int),i≤o.length→o.length - i=d→x.length=o.length →
    (∀ m,m < o.length→x.getD m 0=if m < i∨o.length - 1 - i < m then o.getD (o.length - 1 - m) 0 else o.getD m 0)→2*i≤o.length+1 →
    Ev (fun k=>gantref1_number.l1 k x (i:Int) ((o.length:Int) - 1 - i)) (B (lv 256 o).toNat):=by
  induction d with
  | zero =>
    intro i x hi hd hl hx h2
    have hx0:x=o.reverse:=by
      apply List.ext_getElem
      · rw [List.length_reverse,hl]
      intro m h1 h3
      have:=hx m (by omega)
      rw [List.getD_eq_getElem?_getD,List.getElem?_eq_getElem h1] at this
      rw [List.getElem_reverse]
      simp only [Option.getD_some] at this
      rw [this]
      have h5:o.length - 1 - m < o.length:=by omega
      rw [List.getD_eq_getElem?_getD,List.getElem?_eq_getElem h5]
      rw [if_pos (by omega)]
      rfl
    have hv:=V_strOfNums (InR_reverse hr)
    have hb:bv o.reverse=lv 256 o:=by unfold bv; rw [List.reverse_reverse]
    rw [hb] at hv
    refine Ev.step (f:=fun _=>some (B (lv 256 o).toNat)) (fun k=>?_) (Ev.now _)
    simp only [gantref1_number.l1]
    rw [if_neg (by omega),bare_spec,hx0,show V (strOfNums o.reverse)=(lv 256 o).toNat by omega]
    rfl
  | succ d ih =>
    intro i x hi hd hl hx h2
    by_cases hlt:(i:Int) < (o.length:Int) - 1 - i
    · have c1:(i:Int)+1=((i+1:Nat):Int):=by omega
      have c2:(o.length:Int) - 1 - i - 1=(o.length:Int) - 1 - ((i+1:Nat):Int):=by omega
      have c3:(o.length:Int) - 1 - i=((o.length - 1 - i:Nat):Int):=by omega
      have c4:i < x.length:=by omega
      have c5:o.length - 1 - i < x.length:=by omega
      have hx2:∀ m,m < o.length→((x.set i (rd x ((o.length - 1 - i:Nat):Int))).set (o.length - 1 - i) (rd x (i:Int))).getD m 0=if m < i+1∨o.length - 1 - (i+1) < m then o.getD (o.length - 1 - m) 0 else o.getD m 0:=by
        intro m hm
        have h0:=hx m hm
        have ha:=hx i (by omega)
        have hb:=hx (o.length - 1 - i) (by omega)
        rw [if_neg (by omega)] at ha hb
        by_cases e1:m=o.length - 1 - i
        · subst e1
          rw [List.getD_eq_getElem?_getD,List.getElem?_set_self (by rw [List.length_set]; omega),Option.getD_some,if_pos (by omega),← getD_eq_rd,ha,show o.length - 1 - (o.length - 1 - i)=i by omega]
        rw [lset_ne _ (by omega)]
        by_cases e2:m=i
        · subst e2
          rw [List.getD_eq_getElem?_getD,List.getElem?_set_self (by omega),Option.getD_some,if_pos (by omega),← getD_eq_rd,hb]
        rw [lset_ne _ (by omega),h0]
        by_cases e3:m < i∨o.length - 1 - i < m
        · rw [if_pos e3,if_pos (by omega)]
        rw [if_neg e3,if_neg (by omega)]
      have ihx:=ih (i+1) _ (by omega) (by omega) (by simp only [List.length_set]; exact hl) hx2 (by omega)
      have g1:0≤(o.length:Int) - 1 - i:=by omega
      have g2:(o.length:Int) - 1 - i < (x.length:Int):=by omega
      have g3:0≤(i:Int):=by omega
      have g4:(i:Int) < (x.length:Int):=by omega
      have w1:wrap64 ((i:Int)+1)=(i:Int)+1:=wrap64_id (by omega) (by omega)
      have w2:wrap64 ((o.length:Int) - 1 - i - 1)=(o.length:Int) - 1 - i - 1:=wrap64_id (by omega) (by omega)
      refine Ev.step (fun k=>?_) ihx
      simp only [gantref1_number.l1]
      rw [if_pos hlt,if_pos g1,if_pos g2,if_pos g3,if_pos g4,w1,w2,c2,c3,Int.toNat_natCast,Int.toNat_natCast]
      rfl
    have hx0:x=o.reverse:=by
      apply List.ext_getElem
      · rw [List.length_reverse,hl]
      intro m h1 h3
      have:=hx m (by omega)
      rw [List.getD_eq_getElem?_getD,List.getElem?_eq_getElem h1] at this
      rw [List.getElem_reverse]
      simp only [Option.getD_some] at this
      rw [this]
      have h5:o.length - 1 - m < o.length:=by omega
      by_cases e3:m < i∨o.length - 1 - i < m
      · rw [if_pos e3,List.getD_eq_getElem?_getD,List.getElem?_eq_getElem h5]
        rfl
      rw [if_neg e3,List.getD_eq_getElem?_getD,List.getElem?_eq_getElem (by omega)]
      simp only [Option.getD_some]
      congr 1
      omega
    have hv:=V_strOfNums (InR_reverse hr)
    have hb:bv o.reverse=lv 256 o:=by unfold bv; rw [List.reverse_reverse]
    rw [hb] at hv
    refine Ev.step (f:=fun _=>some (B (lv 256 o).toNat)) (fun k=>?_) (Ev.now _)
    simp only [gantref1_number.l1]
    rw [if_neg hlt,bare_spec,hx0,show V (strOfNums o.reverse)=(lv 256 o).toNat by omega]
    rfl
theorem rev_l1' (o:List Int) (hn:o.length≤140737488355328) (hr:InR 256 o):Ev (fun k=>gantref1_number.l1 k o 0 (wrap64 ((o.length:Int) - 1))) (B (lv 256 o).toNat):=by
  have h:=rev_l1 o hn hr o.length 0 o (by omega) (by omega) rfl (fun m hm=>by rw [if_neg (by omega)]) (by omega)
  have w:wrap64 ((o.length:Int) - 1)=(o.length:Int) - 1 - ((0:Nat):Int):=by rw [wrap64_id (by omega) (by omega)]; omega
  rw [w]
  exact h
theorem number_tail (l:List Int) (m:Nat):∀ (o:List Int) (c:Int) (i:Nat),0≤c→c < 256^m→c < 9223372036854775808→l.length≤i→i+m≤140737488355320→o.length=i→InR 256 o →
    Ev (fun k=>gantref1_number.l0 k l o c (i:Int)) (B (lv 256 o+c*256^i).toNat):=by
  induction m with
  | zero =>
    intro o c i h0 h1 _ hi hm hl hr
    have hc:c=0:=by simp at h1; omega
    subst hc
    have h:=rev_l1' o (by omega) hr
    rw [show lv 256 o+0*256^i=lv 256 o by simp]
    refine Ev.step (f:=fun k=>gantref1_number.j1 k l o 0 (i:Int) false) (fun k=>?_) (Ev.step (f:=fun k=>gantref1_number.l1 k o 0 (wrap64 ((o.length:Int) - 1))) (fun k=>?_) h)
    · simp only [gantref1_number.l0]
      rw [if_neg (by omega)]
      rfl
    simp only [gantref1_number.j1]
    rfl
  | succ m ih =>
    intro o c i h0 h1 hc hi hm hl hr
    by_cases hz:c > 0
    · have hd : c / 256 < 256 ^ m := by
        rw [Int.pow_succ] at h1
        exact Int.ediv_lt_of_lt_mul (by decide) h1
      have hr2:InR 256 (o++[c%256]):=InR_append.2 ⟨hr,InR_cons.2 ⟨⟨by omega,by omega⟩,InR_nil _⟩⟩
      have h:=ih (o++[c%256]) (c/256) (i+1) (by omega) hd (by omega) (by omega) (by omega) (by rw [List.length_append,List.length_singleton]; omega) hr2
      have hv:lv 256 (o++[c%256])+c/256*256^(i+1)=lv 256 o+c*256^i:=by
        rw [lv_snoc,hl,Int.pow_succ]
        have e:c=c/256*256+c%256:=by omega
        generalize c/256=q at *
        generalize c%256=r at *
        subst e
        generalize (256:Int)^i=p
        grind
      rw [hv] at h
      have g1:¬ (i:Int) < (l.length:Int):=by omega
      have g2:o.length < 140737488355328:=by omega
      have g3:c%256%256=c%256:=by omega
      have g4:0≤c:=h0
      have w1:wrap64 (c/256)=c/256:=wrap64_id (by omega) (by omega)
      have w2:wrap64 ((i:Int)+1)=((i+1:Nat):Int):=by rw [wrap64_id (by omega) (by omega)]; omega
      refine Ev.step (f:=fun k=>gantref1_number.j1 k l o c (i:Int) true) (fun k=>?_) (Ev.step (fun k=>?_) h)
      · simp only [gantref1_number.l0]
        rw [if_neg g1,decide_eq_true hz]
      simp only [gantref1_number.j1]
      rw [if_pos trivial,if_neg g1,if_pos g2,tmod_nn g4,tdiv_nn g4,g3,w1,w2]
    have hc0:c=0:=by omega
    subst hc0
    have h:=rev_l1' o (by omega) hr
    rw [show lv 256 o+0*256^i=lv 256 o by simp]
    refine Ev.step (f:=fun k=>gantref1_number.j1 k l o 0 (i:Int) false) (fun k=>?_) (Ev.step (f:=fun k=>gantref1_number.l1 k o 0 (wrap64 ((o.length:Int) - 1))) (fun k=>?_) h)
    · simp only [gantref1_number.l0]
      rw [if_neg (by omega)]
      rfl
    simp only [gantref1_number.j1]
    rfl
theorem number_l0 (l:List Int) (hs:l.length≤140737488355300) (hb:∀ x∈l,0≤x∧x≤4611686018427387904) (d:Nat):∀ (i:Nat) (o:List Int) (c:Int),i≤l.length→l.length - i=d→o.length=i→InR 256 o→0≤c→c≤36028797018963968 →
    lv 256 o+256^i*(c+lv 256 (l.drop i))=lv 256 l→Ev (fun k=>gantref1_number.l0 k l o c (i:Int)) (B (lv 256 l).toNat):=by
  induction d with
  | zero =>
    intro i o c hi hd hl hr h0 h1 hv
    have h:=number_tail l 8 o c i h0 (Int.lt_of_le_of_lt h1 (by decide)) (by omega) (by omega) (by omega) hl hr
    rw [List.drop_of_length_le (by omega)] at hv
    have e:lv 256 o+c*256^i=lv 256 l:=by
      rw [← hv]
      simp only [lv]
      generalize (256:Int)^i=p
      grind
    rw [e] at h
    exact h
  | succ d ih =>
    intro i o c hi hd hl hr h0 h1 hv
    have hlt:i < l.length:=by omega
    have hx:=hb (l.getD i 0) (by rw [List.getD_eq_getElem?_getD,List.getElem?_eq_getElem hlt]; exact List.getElem_mem _)
    rw [getD_eq_rd] at hx
    have hdrop:lv 256 (l.drop i)=rd l (i:Int)+256*lv 256 (l.drop (i+1)):=by
      rw [List.drop_eq_getElem_cons hlt,← getD_eq_rd,List.getD_eq_getElem?_getD,List.getElem?_eq_getElem hlt]
      rfl
    rw [hdrop] at hv
    have hr2:InR 256 (o++[(c+rd l (i:Int))%256]):=InR_append.2 ⟨hr,InR_cons.2 ⟨⟨by omega,by omega⟩,InR_nil _⟩⟩
    have h:=ih (i+1) (o++[(c+rd l (i:Int))%256]) ((c+rd l (i:Int))/256) (by omega) (by omega) (by rw [List.length_append,List.length_singleton]; omega) hr2 (by omega) (by omega) (by
      rw [lv_snoc,hl,← hv,Int.pow_succ]
      have e:c+rd l (i:Int)=(c+rd l (i:Int))/256*256+(c+rd l (i:Int))%256:=by omega
      generalize (c+rd l (i:Int))/256=q at *
      generalize (c+rd l (i:Int))%256=r at *
      generalize (256:Int)^i=p
      generalize lv 256 (l.drop (i+1))=t
      grind)
    have g1:(i:Int) < (l.length:Int):=by omega
    have g2:o.length < 140737488355328:=by omega
    have g3:(c+rd l (i:Int))%256%256=(c+rd l (i:Int))%256:=by omega
    have g4:0≤c+rd l (i:Int):=by omega
    have w0:wrap64 (c+rd l (i:Int))=c+rd l (i:Int):=wrap64_id (by omega) (by omega)
    have w1:wrap64 ((c+rd l (i:Int))/256)=(c+rd l (i:Int))/256:=wrap64_id (by clear w0; omega) (by clear w0; omega)
    have w2:wrap64 ((i:Int)+1)=((i+1:Nat):Int):=by rw [wrap64_id (by clear w0 w1; omega) (by clear w0 w1; omega)]; rfl
    refine Ev.step (f:=fun k=>gantref1_number.j1 k l o c (i:Int) true) (fun k=>?_) (Ev.step (fun k=>?_) h)
    · simp only [gantref1_number.l0]
      rw [if_pos g1]
    simp only [gantref1_number.j1]
    rw [if_pos trivial,if_pos g1,if_pos (Int.natCast_nonneg _),if_pos g2,w0,tmod_nn g4,tdiv_nn g4,g3,w1,w2]
theorem number_spec (l:List Int) (hs:l.length≤140737488355300) (hb:∀ x∈l,0≤x∧x≤4611686018427387904):Ev (fun k=>gantref1_number.f k l) (B (lv 256 l).toNat) :=
  number_l0 l hs hb l.length 0 [] 0 (by omega) (by omega) rfl (InR_nil _) (by omega) (by omega) (by simp [lv])
theorem small_l0 (m:Nat) (hm:m≤100):∀ (j:Nat) (n:Int) (o:List Int),j≤m→0≤n→n < 256^j→n < 9223372036854775808→o.length=m - j→InR 256 o →
    Ev (fun k=>gantref1_Small.l0 k n o) (B (lv 256 o+n*256^(m - j)).toNat):=by
  intro j
  have fin:∀ (j:Nat) (o:List Int),j≤m→o.length=m - j→InR 256 o→Ev (fun k=>gantref1_Small.l0 k 0 o) (B (lv 256 o+0*256^(m - j)).toNat):=by
    intro j o hj hl hr
    have h:=number_spec o (by omega) (fun x hx=>by have:=hr x hx; omega)
    rw [show lv 256 o+0*256^(m - j)=lv 256 o by simp]
    refine Ev.step (f:=fun k=>(gantref1_number.f k o).bind fun t=>some t) (fun k=>?_) (Ev.bind (f:=fun _ t=>some t) h (Ev.now _))
    simp only [gantref1_Small.l0]
    rw [if_neg (by omega)]
  induction j with
  | zero =>
    intro n o hj h0 h1 _ hl hr
    have:n=0:=by simp at h1; omega
    subst this
    exact fin 0 o hj hl hr
  | succ j ih =>
    intro n o hj h0 h1 h2 hl hr
    by_cases hz:n > 0
    · have hd : n / 256 < 256 ^ j := by
        rw [Int.pow_succ] at h1
        exact Int.ediv_lt_of_lt_mul (by decide) h1
      have hr2:InR 256 (o++[n%256]):=InR_append.2 ⟨hr,InR_cons.2 ⟨⟨by omega,by omega⟩,InR_nil _⟩⟩
      have h:=ih (n/256) (o++[n%256]) (by omega) (by omega) hd (by omega) (by rw [List.length_append,List.length_singleton]; omega) hr2
      have hv:lv 256 (o++[n%256])+n/256*256^(m - j)=lv 256 o+n*256^(m - (j+1)):=by
        rw [lv_snoc,hl,show m - j=m - (j+1)+1 by omega,Int.pow_succ]
        have e:n=n/256*256+n%256:=by omega
        generalize n/256=q at *
        generalize n%256=r at *
        subst e
        generalize (256:Int)^(m - (j+1))=p
        grind
      rw [hv] at h
      have g2:o.length < 17592186044416:=by omega
      have w1:wrap64 (n/256)=n/256:=wrap64_id (by omega) (by omega)
      refine Ev.step (fun k=>?_) h
      simp only [gantref1_Small.l0]
      rw [if_pos hz,if_pos g2,tmod_nn h0,tdiv_nn h0,w1]
    have:n=0:=by omega
    subst this
    exact fin (j+1) o hj hl hr
theorem small_spec (n:Int) (h0:0≤n) (h:n < 9223372036854775808):Ev (fun k=>gantref1_Small.f k n) (B n.toNat):=by
  have:=small_l0 8 (by decide) 8 n [] (by omega) h0 (Int.lt_of_lt_of_le h (by decide)) h rfl (InR_nil _)
  rw [show lv 256 []+n*256^(8 - 8)=n by simp [lv]] at this
  exact this
theorem plus_l0 (a b:ByteArray) (ha:a.size≤35184372088832) (hb:b.size≤35184372088832) (n:Nat) (hn:n=max a.size b.size) (d:Nat):∀ (i:Nat) (x:List Int),i≤n→n - i=d→x.length=n →
    (∀ y∈x,0≤y∧y≤510)→(∀ j,i≤j→j < n→x.getD j 0=0)→lv 256 x=(V a%256^i:Nat)+(V b%256^i:Nat)→Ev (fun k=>gantref1_Plus.l0 k a b x (n:Int) (i:Int)) (B (V a+V b)):=by
  induction d with
  | zero =>
    intro i x hi hd hl hx hz hv
    have h:=number_spec x (by omega) (fun y hy=>by have:=hx y hy; omega)
    have e:i=n:=by omega
    subst e
    rw [V_mod a (by omega),V_mod b (by omega)] at hv
    rw [hv,show ((V a:Int)+(V b:Int)).toNat=V a+V b by omega] at h
    refine Ev.succ ?_
    have g:¬ (i:Int) < (i:Int):=by omega
    simp only [gantref1_Plus.l0,if_neg g]
    exact Ev.bind (f:=fun _ t=>some t) h (Ev.now _)
  | succ d ih =>
    intro i x hi hd hl hx hz hv
    have da:=digit_spec a (by omega) i
    have db:=digit_spec b (by omega) i
    have ra:=dg_range a i
    have rb:=dg_range b i
    have g1:(i:Int) < (n:Int):=by omega
    have g2:0≤(i:Int):=by omega
    have g3:(i:Int) < (x.length:Int):=by omega
    have hx2:∀ y∈x.set i (dg a i+dg b i),0≤y∧y≤510:=by
      intro y hy
      rcases mem_set_cases hy with h | h
      · exact hx y h
      subst h; omega
    have hv2:lv 256 (x.set i (dg a i+dg b i))=(V a%256^(i+1):Nat)+(V b%256^(i+1):Nat):=by
      rw [lv_set _ _ _ _ (by omega),hz i (by omega) (by omega),hv,mod_pow_succ,mod_pow_succ]
      simp only [Int.natCast_add,Int.natCast_mul,pow_nat]
      unfold dg
      generalize ((V a/256^i%256:Nat):Int)=p
      generalize ((V b/256^i%256:Nat):Int)=q
      have:(((256:Nat):Int))=256:=rfl
      rw [this]
      grind
    have h:=ih (i+1) (x.set i (dg a i+dg b i)) (by omega) (by omega) (by rw [List.length_set]; exact hl) hx2 (fun j h1 h2=>by rw [lset_ne _ (by omega)]; exact hz j (by omega) h2) hv2
    have w1:wrap64 (dg a i+dg b i)=dg a i+dg b i:=wrap64_id (by omega) (by omega)
    have w2:wrap64 ((i:Int)+1)=((i+1:Nat):Int):=by rw [wrap64_id (by clear w1; omega) (by clear w1; omega)]; rfl
    refine Ev.succ ?_
    change gantref1_digit.f a (i:Int)=some (dg a i) at da
    change gantref1_digit.f b (i:Int)=some (dg b i) at db
    simp only [gantref1_Plus.l0,if_pos g1,da,db,Option.bind_some,if_pos g2,if_pos g3,w1,w2,Int.toNat_natCast]
    exact h
theorem plus_spec (a b:ByteArray) (ha:a.size≤35184372088832) (hb:b.size≤35184372088832):Ev (fun k=>gantref1_Plus.f k a b) (B (V a+V b)):=by
  have hm:mx (a.size:Int) (b.size:Int)=((max a.size b.size:Nat):Int):=by
    unfold mx; split<;>omega
  have h:=plus_l0 a b ha hb (max a.size b.size) rfl (max a.size b.size) 0 (List.replicate (max a.size b.size) 0) (by omega) (by omega) (by rw [List.length_replicate])
    (fun y hy=>by have:=List.eq_of_mem_replicate hy; omega) (fun j _ _=>getD_replicate _ j) (by rw [lv_zeros]; simp [Nat.mod_one])
  have g1:0≤((max a.size b.size:Nat):Int):=Int.natCast_nonneg _
  have g2:max a.size b.size≤35184372088832:=by omega
  simp only [gantref1_Plus.f,hm,if_pos g1,Int.toNat_natCast,if_pos g2,Option.bind_some,List.length_replicate]
  exact h
def sm (f:Nat→Int):Nat→Int
  | 0=>0
  | k+1=>sm f k+f k
theorem sm_congr {f g:Nat→Int}:∀ (n:Nat),(∀ k,k < n→f k=g k)→sm f n=sm g n
  | 0,_=>rfl
  | n+1,h=>by simp only [sm]; rw [sm_congr n (fun k hk=>h k (by omega)),h n (by omega)]
theorem sm_add (f g:Nat→Int):∀ n,sm (fun k=>f k+g k) n=sm f n+sm g n
  | 0=>rfl
  | n+1=>by simp only [sm]; rw [sm_add f g n]; omega
theorem sm_mul (f:Nat→Int) (c:Int):∀ n,sm (fun k=>f k*c) n=sm f n*c
  | 0=>by simp [sm]
  | n+1=>by simp only [sm]; rw [sm_mul f c n,Int.add_mul]
theorem sm_bound {f:Nat→Int} {M:Int} (h:∀ k,0≤f k∧f k≤M):∀ n:Nat,0≤sm f n∧sm f n≤M*n
  | 0=>by simp [sm]
  | n+1=>by
    have ih:=sm_bound h n
    have hn:=h n
    simp only [sm]
    rw [show (((n+1:Nat)):Int)=(n:Int)+1 from rfl,Int.mul_add,Int.mul_one]
    omega
def col (a b:ByteArray) (i:Nat) (k:Nat):Int:=dg a k*dg b (i - k)
theorem col_bound (a b:ByteArray) (i k:Nat):0≤col a b i k∧col a b i k≤65025:=by
  have h1:=dg_range a k
  have h2:=dg_range b (i - k)
  unfold col
  generalize dg a k=x at *
  generalize dg b (i - k)=y at *
  refine ⟨Int.mul_nonneg h1.1 h2.1,?_⟩
  have h3:x*y≤255*y:=Int.mul_le_mul_of_nonneg_right (by omega) h2.1
  omega
def tri (a b:ByteArray) (n:Nat):Int:=sm (fun k=>dg a k*256^k*((V b%256^(n - k):Nat):Int)) n
theorem tri_succ (a b:ByteArray) (n:Nat):tri a b (n+1)=tri a b n+sm (col a b n) (n+1)*256^n:=by
  have h1:∀ k,k < n+1→dg a k*256^k*((V b%256^(n+1 - k):Nat):Int)=dg a k*256^k*((V b%256^(n - k):Nat):Int)+col a b n k*256^n:=by
    intro k hk
    rw [show n+1 - k=(n - k)+1 by omega,mod_pow_succ]
    have e:((V b%256^(n - k)+V b/256^(n - k)%256*256^(n - k):Nat):Int)=((V b%256^(n - k):Nat):Int)+dg b (n - k)*256^(n - k):=by
      rw [Int.natCast_add,Int.natCast_mul,pow_nat]; rfl
    rw [e,Int.mul_add]
    have e2:(256:Int)^n=256^k*256^(n - k):=by rw [← Int.pow_add,show k+(n - k)=n by omega]
    rw [e2]
    unfold col
    grind
  unfold tri
  rw [sm_congr (n+1) h1,sm_add,sm_mul]
  congr 1
  simp only [sm]
  rw [Nat.sub_self,Nat.pow_zero,Nat.mod_one]
  simp
theorem sm_dg (a:ByteArray):∀ n,sm (fun k=>dg a k*256^k) n=((V a%256^n:Nat):Int)
  | 0=>by simp [sm,Nat.mod_one]
  | n+1=>by
    simp only [sm]
    rw [sm_dg a n,mod_pow_succ,Int.natCast_add,Int.natCast_mul,pow_nat]; rfl
theorem dg_big (a:ByteArray) {k:Nat} (h:a.size≤k):dg a k=0:=by
  unfold dg
  have h1:V a < 256^k:=Nat.lt_of_lt_of_le (V_lt a) (Nat.pow_le_pow_right (by decide) h)
  rw [Nat.div_eq_of_lt h1]; rfl
theorem tri_all (a b:ByteArray):tri a b (a.size+b.size)=((V a*V b:Nat):Int):=by
  have h1:∀ k,k < a.size+b.size→dg a k*256^k*((V b%256^(a.size+b.size - k):Nat):Int)=dg a k*256^k*(V b:Int):=by
    intro k hk
    by_cases h:k < a.size
    · rw [V_mod b (n:=a.size+b.size - k) (by omega)]
    rw [dg_big a (by omega)]; simp
  unfold tri
  rw [sm_congr _ h1,sm_mul,sm_dg,V_mod a (by omega),Int.natCast_mul]
theorem times_l1 (a b:ByteArray) (ha:a.size≤1099511627776) (hb:b.size≤1099511627776) (i n:Nat) (hin:i < n) (hn:n≤2199023255552) (R:ByteArray) (d:Nat):∀ (k:Nat) (x:List Int),k≤i+1→i+1 - k=d→x.length=n→x.getD i 0=sm (col a b i) k →
    Ev (fun q=>gantref1_Times.l0 q a b (x.set i (sm (col a b i) (i+1))) (n:Int) ((i:Int)+1)) R→Ev (fun q=>gantref1_Times.l1 q a b x (i:Int) (k:Int) (n:Int) (i:Int)) R:=by
  induction d with
  | zero =>
    intro k x hk hd hl hx hR
    have e:k=i+1:=by omega
    subst e
    refine Ev.succ ?_
    have g:¬ (((i+1:Nat):Int)≤(i:Int)):=by omega
    have w:wrap64 ((i:Int)+1)=(i:Int)+1:=wrap64_id (by omega) (by omega)
    have hs:x.set i (sm (col a b i) (i+1))=x:=by
      rw [← hx]
      refine List.ext_getElem? fun j=>?_
      rw [List.getElem?_set]
      split
      · rename_i h; subst h
        split
        · rename_i h2; rw [List.getD_eq_getElem?_getD,List.getElem?_eq_getElem h2]; rfl
        rename_i h2; rw [List.getElem?_eq_none (by omega)]
      rfl
    rw [hs] at hR
    simp only [gantref1_Times.l1,if_neg g,w]
    exact hR
  | succ d ih =>
    intro k x hk hd hl hx hR
    refine Ev.succ ?_
    have hki:k≤i:=by omega
    have f1:k+1≤i+1:=by omega
    have f2:i+1 - (k+1)=d:=by omega
    have f3:i < x.length:=by omega
    have g:((k:Int)≤(i:Int)):=by omega
    have g2:0≤(i:Int):=Int.natCast_nonneg _
    have g3:(i:Int) < (x.length:Int):=by omega
    have da:=digit_spec a (by omega) k
    have db:=digit_spec b (by omega) (i - k)
    change gantref1_digit.f a (k:Int)=some (dg a k) at da
    change gantref1_digit.f b ((i - k:Nat):Int)=some (dg b (i - k)) at db
    have w1:wrap64 ((i:Int) - (k:Int))=((i - k:Nat):Int):=by rw [wrap64_id (by omega) (by omega)]; omega
    have w2:wrap64 ((k:Int)+1)=((k+1:Nat):Int):=by rw [wrap64_id (by omega) (by omega)]; rfl
    have hrd:rd x (i:Int)=sm (col a b i) k:=by rw [← getD_eq_rd]; exact hx
    have hcol:dg a k*dg b (i - k)=col a b i k:=rfl
    have w3:wrap64 (dg a k*dg b (i - k))=col a b i k:=by
      rw [hcol]
      have cb:=col_bound a b i k
      clear hcol w1 w2 da db ih hR hx hrd
      exact wrap64_id (by omega) (by omega)
    have w4:wrap64 (rd x (i:Int)+col a b i k)=sm (col a b i) (k+1):=by
      rw [hrd]
      have cb:=col_bound a b i k
      have sb:=sm_bound (col_bound a b i) k
      clear hcol w1 w2 w3 da db ih hR hx hrd
      show wrap64 (sm (col a b i) k+col a b i k)=sm (col a b i) k+col a b i k
      generalize sm (col a b i) k=s at *
      generalize col a b i k=t at *
      exact wrap64_id (by omega) (by omega)
    simp only [gantref1_Times.l1,if_pos g,if_pos g2,if_pos g3,da,Option.bind_some,w1,db,w3,w4,w2,Int.toNat_natCast]
    refine ih (k+1) _ f1 f2 (by rw [List.length_set]; exact hl) ?_ ?_
    · rw [getD_eq_rd,rd_set_self _ f3]
    rw [List.set_set]; exact hR
theorem times_l0 (a b:ByteArray) (ha:a.size≤1099511627776) (hb:b.size≤1099511627776) (n:Nat) (hn:n=a.size+b.size) (d:Nat):∀ (i:Nat) (x:List Int),i≤n→n - i=d→x.length=n→(∀ y∈x,0≤y∧y≤4611686018427387904)→(∀ j,i≤j→x.getD j 0=0)→lv 256 (x.take i)=tri a b i →
    Ev (fun k=>gantref1_Times.l0 k a b x (n:Int) (i:Int)) (B (V a*V b)):=by
  induction d with
  | zero =>
    intro i x hi hd hl hx hz hv
    have e:i=n:=by omega
    subst e
    refine Ev.succ ?_
    have g:¬ ((i:Int) < (i:Int)):=by omega
    simp only [gantref1_Times.l0,if_neg g]
    have h:=number_spec x (by omega) hx
    rw [List.take_of_length_le (by omega)] at hv
    rw [hv,hn,tri_all,Int.toNat_natCast] at h
    refine Ev.bind h ?_
    exact Ev.now _
  | succ d ih =>
    intro i x hi hd hl hx hz hv
    refine Ev.succ ?_
    have g:((i:Int) < (n:Int)):=by omega
    simp only [gantref1_Times.l0,if_pos g]
    have sb:=sm_bound (col_bound a b i) (i+1)
    refine times_l1 a b ha hb i n (by omega) (by omega) _ (i+1) 0 x (by omega) (by omega) hl (by rw [hz i (Nat.le_refl _)]; rfl) ?_
    rw [show ((i:Int)+1)=((i+1:Nat):Int) from rfl]
    refine ih (i+1) _ (by omega) (by omega) (by rw [List.length_set]; exact hl) ?_ ?_ ?_
    · intro y hy
      rcases mem_set_cases hy with h | h
      · exact hx y h
      subst h; omega
    · intro j hj
      rw [lset_ne _ (by omega)]
      exact hz j (by omega)
    rw [lv_take_succ _ _ _ (by rw [List.length_set]; omega),List.take_set_of_le (Nat.le_refl i),hv,tri_succ,getD_eq_rd,rd_set_self _ (by omega)]
theorem times_spec (a b:ByteArray) (ha:a.size≤1099511627776) (hb:b.size≤1099511627776):Ev (fun k=>gantref1_Times.f k a b) (B (V a*V b)):=by
  have w:wrap64 ((a.size:Int)+(b.size:Int))=((a.size+b.size:Nat):Int):=by rw [wrap64_id (by omega) (by omega)]; rfl
  have g1:0≤((a.size+b.size:Nat):Int):=Int.natCast_nonneg _
  have g2:a.size+b.size≤35184372088832:=by omega
  have h:=times_l0 a b ha hb (a.size+b.size) rfl (a.size+b.size) 0 (List.replicate (a.size+b.size) 0) (by omega) (by omega) (by rw [List.length_replicate])
    (fun y hy=>by have:=List.eq_of_mem_replicate hy; omega) (fun j _=>getD_replicate _ j) (by simp [lv,tri,sm])
  simp only [gantref1_Times.f,w,if_pos g1,Int.toNat_natCast,if_pos g2,Option.bind_some,List.length_replicate]
  exact h
end Go.Proofs.YtdehklffhemmdaaDoor.SB
