import Derived.Test.YtkpeembfagcpcaaDoorYSR
import Derived.Test.YtkpeembfagcpcaaDoorYR0
import Derived.Test.YtkpeembfagcpcaaDoorYR1
import Derived.Test.YtkpeembfagcpcaaDoorYR2
import Derived.Test.YtkpeembfagcpcaaDoorYR3
set_option linter.unusedSimpArgs false
set_option linter.unusedVariables false
section
namespace Go.Proofs.YtkpeembfagcpcaaDoor.SB
open Go.RowKit Go.Proofs.YtkpeembfagcpcaaDoor.A Go.Proofs.YtkpeembfagcpcaaDoor.B Go.Proofs.YtkpeembfagcpcaaDoor.C Go.Proofs.YtkpeembfagcpcaaDoor.R Go.Proofs.YtkpeembfagcpcaaDoor.H Go.Proofs.YtkpeembfagcpcaaDoor.M Go.Proofs.YtkpeembfagcpcaaDoor.SA Go.Proofs.YtkpeembfagcpcaaDoorW.PrintWords Go.Proofs.YtkpeembfagcpcaaDoorW.PrintLast Go.Proofs.YtkpeembfagcpcaaDoorW.PrintMore
theorem bare_spec (a:ByteArray):gantref1_Bare.f a=some (B (V a)):=by
 unfold gantref1_Bare.f strings_TrimLeft.f
 rw [if_pos rfl]
 rfl
theorem digit_spec (a:ByteArray) (hs:a.size≤140737488351232) (i:Nat):gantref1_digit.f a (i:Int)=some ((V a/256^i%256:Nat):Int):=by
 unfold gantref1_digit.f
 by_cases h:i < a.size
 ·have e2:=words_i2 (n:=a.size) (i:=i) h (by omega)
  have hd:=drop_lead a.data.toList i (by rw [size_toList]; exact h)
  rw [size_toList] at hd
  have hb:bt a ((a.size - 1 - i:Nat):Int)=((V a/256^i%256:Nat):Int):=by
   rw [bt_toList]; unfold V; rw [hd]
  have hm:V a/256^i%256 < 256:=Nat.mod_lt _ (by decide)
  have g1:((a.size - 1 - i:Nat):Int) < (a.size:Int):=by clear e2 hd hb; omega
  rw [if_pos (Int.ofNat_lt.2 h),e2,if_pos (Int.natCast_nonneg _),if_pos g1,hb,wrap64_id (by clear e2 hd hb; omega) (by clear e2 hd hb; omega)]
 rw [if_neg (by omega)]
 have hlt:V a < 256^i:=Nat.lt_of_lt_of_le (V_lt a) (Nat.pow_le_pow_right (by decide) (by omega))
 rw [Nat.div_eq_of_lt hlt]
 rfl
theorem compare_l0 (a b:ByteArray) (ha:a.size≤140737488351232) (hb:b.size≤140737488351232) (i:Nat):∀ n,n=i→(n≤a.size∨n≤b.size)→V a/256^i=V b/256^i →
 Ev (fun k=>gantref1_Compare.l0 k a b ((i:Int) - 1)) (cmpN (V a) (V b)):=by
 induction i with
 | zero =>
   intro n hn _ he
   simp only [Nat.pow_zero,Nat.div_one] at he
   refine Ev.step (f:=fun _=>some (cmpN (V a) (V b))) (fun k=>?_) (Ev.now _)
   simp only [gantref1_Compare.l0]
   rw [if_neg (by omega)]
   unfold cmpN
   rw [if_neg (by omega),if_pos he]
 | succ i ih =>
   intro n hn hle he
   subst hn
   have c1:((i+1:Nat):Int) - 1=(i:Int):=by omega
   have da:=digit_spec a ha i
   have db:=digit_spec b hb i
   have sa:=div_pow_step (V a) i
   have sb:=div_pow_step (V b) i
   have ma:V a/256^i%256 < 256:=Nat.mod_lt _ (by decide)
   have mb:V b/256^i%256 < 256:=Nat.mod_lt _ (by decide)
   have hp:0 < 256^i:=Nat.pow_pos (by decide)
   rw [c1]
   generalize V a/256^i%256=x at *
   generalize V b/256^i%256=y at *
   by_cases hxy:x=y
   ·subst hxy
    have hi:=ih i rfl (by omega) (by omega)
    have g0:(i:Int)≥0:=by omega
    have w1:wrap64 ((x:Int) - (x:Int))=0:=by rw [wrap64_id (by omega) (by omega)]; omega
    have w2:wrap64 ((i:Int) - 1)=(i:Int) - 1:=wrap64_id (by omega) (by omega)
    refine Ev.step (fun k=>?_) hi
    simp only [gantref1_Compare.l0]
    rw [if_pos g0,da,db]
    simp only [Option.bind_some]
    rw [if_pos w1,w2]
   have g0:(i:Int)≥0:=by omega
   have w1:wrap64 ((x:Int) - (y:Int))=(x:Int) - (y:Int):=wrap64_id (by omega) (by omega)
   have g1:¬ ((x:Int) - (y:Int)=0):=by clear w1; omega
   have hr:mx (-1) (mn 1 ((x:Int) - (y:Int)))=cmpN (V a) (V b):=by
    clear w1
    unfold mx mn cmpN
    by_cases hlt:x < y
    ·have : V a < V b := by
      apply Nat.lt_of_not_le
      intro hge
      have:=Nat.div_le_div_right (c:=256^i) hge
      omega
     rw [if_pos this]
     (repeat' split)<;>omega
    have h1:V b < V a:=by
     apply Nat.lt_of_not_le
     intro hge
     have:=Nat.div_le_div_right (c:=256^i) hge
     omega
    rw [if_neg (show ¬ V a < V b by omega),if_neg (show ¬ V a=V b by omega)]
    (repeat' split)<;>omega
   refine Ev.step (f:=fun _=>some (cmpN (V a) (V b))) (fun k=>?_) (Ev.now _)
   simp only [gantref1_Compare.l0]
   rw [if_pos g0,da,db]
   simp only [Option.bind_some]
   rw [w1,if_neg g1,hr]
theorem compare_spec (a b:ByteArray) (ha:a.size≤140737488351232) (hb:b.size≤140737488351232):Ev (fun k=>gantref1_Compare.f k a b) (cmpN (V a) (V b)):=by
 have hm:mx (a.size:Int) (b.size:Int)=((max a.size b.size:Nat):Int):=by
  unfold mx; split<;>omega
 have h1:V a/256^(max a.size b.size)=0:=Nat.div_eq_of_lt (Nat.lt_of_lt_of_le (V_lt a) (Nat.pow_le_pow_right (by decide) (by omega)))
 have h2:V b/256^(max a.size b.size)=0:=Nat.div_eq_of_lt (Nat.lt_of_lt_of_le (V_lt b) (Nat.pow_le_pow_right (by decide) (by omega)))
 have h:=compare_l0 a b ha hb (max a.size b.size) _ rfl (by omega) (by rw [h1,h2])
 refine Ev.congr (fun k=>?_) h
 unfold gantref1_Compare.f
 rw [hm,wrap64_id (by omega) (by omega)]
theorem rev_l1 (o:List Int) (hn:o.length≤140737488355328) (hr:InR 256 o) (d:Nat):∀ (i:Nat) (x:List Int),i≤o.length→o.length - i=d→x.length=o.length →
 (∀ m,m < o.length→x.getD m 0=if m < i∨o.length - 1 - i < m then o.getD (o.length - 1 - m) 0 else o.getD m 0)→2*i≤o.length+1 →
 Ev (fun k=>gantref1_number.l1 k x (i:Int) ((o.length:Int) - 1 - i)) (B (lv 256 o).toNat):=by
 induction d with
 | zero =>
   intro i x hi hd hl hx h2
   have hx0:x=o.reverse:=by
    apply List.ext_getElem
    ·rw [List.length_reverse,hl]
    intro m h1 h3
    have:=hx m (by omega)
    rw [List.getD_eq_getElem?_getD,List.getElem?_eq_getElem h1] at this
    rw [List.getElem_reverse]
    simp only [Option.getD_some] at this
    rw [this]
    have h5:o.length - 1 - m < o.length:=by omega
    rw [List.getD_eq_getElem?_getD,List.getElem?_eq_getElem h5]
    rw [if_pos (by omega)]
    rfl
   have hv:=V_strOfNums (InR_reverse hr)
   have hb:bv o.reverse=lv 256 o:=by unfold bv; rw [List.reverse_reverse]
   rw [hb] at hv
   refine Ev.step (f:=fun _=>some (B (lv 256 o).toNat)) (fun k=>?_) (Ev.now _)
   simp only [gantref1_number.l1]
   rw [if_neg (by omega),bare_spec,hx0,show V (strOfNums o.reverse)=(lv 256 o).toNat by omega]
   rfl
 | succ d ih =>
   intro i x hi hd hl hx h2
   by_cases hlt:(i:Int) < (o.length:Int) - 1 - i
   ·have c1:(i:Int)+1=((i+1:Nat):Int):=by omega
    have c2:(o.length:Int) - 1 - i - 1=(o.length:Int) - 1 - ((i+1:Nat):Int):=by omega
    have c3:(o.length:Int) - 1 - i=((o.length - 1 - i:Nat):Int):=by omega
    have c4:i < x.length:=by omega
    have c5:o.length - 1 - i < x.length:=by omega
    have hx2:∀ m,m < o.length→((x.set i (rd x ((o.length - 1 - i:Nat):Int))).set (o.length - 1 - i) (rd x (i:Int))).getD m 0=if m < i+1∨o.length - 1 - (i+1) < m then o.getD (o.length - 1 - m) 0 else o.getD m 0:=by
     intro m hm
     have h0:=hx m hm
     have ha:=hx i (by omega)
     have hb:=hx (o.length - 1 - i) (by omega)
     rw [if_neg (by omega)] at ha hb
     by_cases e1:m=o.length - 1 - i
     ·subst e1
      rw [List.getD_eq_getElem?_getD,List.getElem?_set_self (by rw [List.length_set]; omega),Option.getD_some,if_pos (by omega),← getD_eq_rd,ha,show o.length - 1 - (o.length - 1 - i)=i by omega]
     rw [lset_ne _ (by omega)]
     by_cases e2:m=i
     ·subst e2
      rw [List.getD_eq_getElem?_getD,List.getElem?_set_self (by omega),Option.getD_some,if_pos (by omega),← getD_eq_rd,hb]
     rw [lset_ne _ (by omega),h0]
     by_cases e3:m < i∨o.length - 1 - i < m
     ·rw [if_pos e3,if_pos (by omega)]
     rw [if_neg e3,if_neg (by omega)]
    have ihx:=ih (i+1) _ (by omega) (by omega) (by simp only [List.length_set]; exact hl) hx2 (by omega)
    have g1:0≤(o.length:Int) - 1 - i:=by omega
    have g2:(o.length:Int) - 1 - i < (x.length:Int):=by omega
    have g3:0≤(i:Int):=by omega
    have g4:(i:Int) < (x.length:Int):=by omega
    have w1:wrap64 ((i:Int)+1)=(i:Int)+1:=wrap64_id (by omega) (by omega)
    have w2:wrap64 ((o.length:Int) - 1 - i - 1)=(o.length:Int) - 1 - i - 1:=wrap64_id (by omega) (by omega)
    refine Ev.step (fun k=>?_) ihx
    simp only [gantref1_number.l1]
    rw [if_pos hlt,if_pos g1,if_pos g2,if_pos g3,if_pos g4,w1,w2,c2,c3,Int.toNat_natCast,Int.toNat_natCast]
    rfl
   have hx0:x=o.reverse:=by
    apply List.ext_getElem
    ·rw [List.length_reverse,hl]
    intro m h1 h3
    have:=hx m (by omega)
    rw [List.getD_eq_getElem?_getD,List.getElem?_eq_getElem h1] at this
    rw [List.getElem_reverse]
    simp only [Option.getD_some] at this
    rw [this]
    have h5:o.length - 1 - m < o.length:=by omega
    by_cases e3:m < i∨o.length - 1 - i < m
    ·rw [if_pos e3,List.getD_eq_getElem?_getD,List.getElem?_eq_getElem h5]
     rfl
    rw [if_neg e3,List.getD_eq_getElem?_getD,List.getElem?_eq_getElem (by omega)]
    simp only [Option.getD_some]
    congr 1
    omega
   have hv:=V_strOfNums (InR_reverse hr)
   have hb:bv o.reverse=lv 256 o:=by unfold bv; rw [List.reverse_reverse]
   rw [hb] at hv
   refine Ev.step (f:=fun _=>some (B (lv 256 o).toNat)) (fun k=>?_) (Ev.now _)
   simp only [gantref1_number.l1]
   rw [if_neg hlt,bare_spec,hx0,show V (strOfNums o.reverse)=(lv 256 o).toNat by omega]
   rfl
theorem rev_l1' (o:List Int) (hn:o.length≤140737488355328) (hr:InR 256 o):Ev (fun k=>gantref1_number.l1 k o 0 (wrap64 ((o.length:Int) - 1))) (B (lv 256 o).toNat):=by
 have h:=rev_l1 o hn hr o.length 0 o (by omega) (by omega) rfl (fun m hm=>by rw [if_neg (by omega)]) (by omega)
 have w:wrap64 ((o.length:Int) - 1)=(o.length:Int) - 1 - ((0:Nat):Int):=by rw [wrap64_id (by omega) (by omega)]; omega
 rw [w]
 exact h
theorem number_tail (l:List Int) (m:Nat):∀ (o:List Int) (c:Int) (i:Nat),0≤c→c < 256^m→c < 9223372036854775808→l.length≤i→i+m≤140737488355320→o.length=i→InR 256 o →
 Ev (fun k=>gantref1_number.l0 k l o c (i:Int)) (B (lv 256 o+c*256^i).toNat):=by
 induction m with
 | zero =>
   intro o c i h0 h1 _ hi hm hl hr
   have hc:c=0:=by simp at h1; omega
   subst hc
   have h:=rev_l1' o (by omega) hr
   rw [show lv 256 o+0*256^i=lv 256 o by simp]
   refine Ev.step (f:=fun k=>gantref1_number.j1 k l o 0 (i:Int) false) (fun k=>?_) (Ev.step (f:=fun k=>gantref1_number.l1 k o 0 (wrap64 ((o.length:Int) - 1))) (fun k=>?_) h)
   ·simp only [gantref1_number.l0]
    rw [if_neg (by omega)]
    rfl
   simp only [gantref1_number.j1]
   rfl
 | succ m ih =>
   intro o c i h0 h1 hc hi hm hl hr
   by_cases hz:c > 0
   ·have hd : c / 256 < 256 ^ m := by
     rw [Int.pow_succ] at h1
     exact Int.ediv_lt_of_lt_mul (by decide) h1
    have hr2:InR 256 (o++[c%256]):=InR_append.2 ⟨hr,InR_cons.2 ⟨⟨by omega,by omega⟩,InR_nil _⟩⟩
    have h:=ih (o++[c%256]) (c/256) (i+1) (by omega) hd (by omega) (by omega) (by omega) (by rw [List.length_append,List.length_singleton]; omega) hr2
    have hv:lv 256 (o++[c%256])+c/256*256^(i+1)=lv 256 o+c*256^i:=by
     rw [lv_snoc,hl,Int.pow_succ]
     have e:c=c/256*256+c%256:=by omega
     generalize c/256=q at *
     generalize c%256=r at *
     subst e
     generalize (256:Int)^i=p
     grind
    rw [hv] at h
    have g1:¬ (i:Int) < (l.length:Int):=by omega
    have g2:o.length < 140737488355328:=by omega
    have g3:c%256%256=c%256:=by omega
    have g4:0≤c:=h0
    have w1:wrap64 (c/256)=c/256:=wrap64_id (by omega) (by omega)
    have w2:wrap64 ((i:Int)+1)=((i+1:Nat):Int):=by rw [wrap64_id (by omega) (by omega)]; omega
    refine Ev.step (f:=fun k=>gantref1_number.j1 k l o c (i:Int) true) (fun k=>?_) (Ev.step (fun k=>?_) h)
    ·simp only [gantref1_number.l0]
     rw [if_neg g1,decide_eq_true hz]
    simp only [gantref1_number.j1]
    rw [if_pos trivial,if_neg g1,if_pos g2,tmod_nn g4,tdiv_nn g4,g3,w1,w2]
   have hc0:c=0:=by omega
   subst hc0
   have h:=rev_l1' o (by omega) hr
   rw [show lv 256 o+0*256^i=lv 256 o by simp]
   refine Ev.step (f:=fun k=>gantref1_number.j1 k l o 0 (i:Int) false) (fun k=>?_) (Ev.step (f:=fun k=>gantref1_number.l1 k o 0 (wrap64 ((o.length:Int) - 1))) (fun k=>?_) h)
   ·simp only [gantref1_number.l0]
    rw [if_neg (by omega)]
    rfl
   simp only [gantref1_number.j1]
   rfl
theorem number_l0 (l:List Int) (hs:l.length≤140737488355300) (hb:∀ x∈l,0≤x∧x≤4611686018427387904) (d:Nat):∀ (i:Nat) (o:List Int) (c:Int),i≤l.length→l.length - i=d→o.length=i→InR 256 o→0≤c→c≤36028797018963968 →
 lv 256 o+256^i*(c+lv 256 (l.drop i))=lv 256 l→Ev (fun k=>gantref1_number.l0 k l o c (i:Int)) (B (lv 256 l).toNat):=by
 induction d with
 | zero =>
   intro i o c hi hd hl hr h0 h1 hv
   have h:=number_tail l 8 o c i h0 (Int.lt_of_le_of_lt h1 (by decide)) (by omega) (by omega) (by omega) hl hr
   rw [List.drop_of_length_le (by omega)] at hv
   have e:lv 256 o+c*256^i=lv 256 l:=by
    rw [← hv]
    simp only [lv]
    generalize (256:Int)^i=p
    grind
   rw [e] at h
   exact h
 | succ d ih =>
   intro i o c hi hd hl hr h0 h1 hv
   have hlt:i < l.length:=by omega
   have hx:=hb (l.getD i 0) (by rw [List.getD_eq_getElem?_getD,List.getElem?_eq_getElem hlt]; exact List.getElem_mem _)
   rw [getD_eq_rd] at hx
   have hdrop:lv 256 (l.drop i)=rd l (i:Int)+256*lv 256 (l.drop (i+1)):=by
    rw [List.drop_eq_getElem_cons hlt,← getD_eq_rd,List.getD_eq_getElem?_getD,List.getElem?_eq_getElem hlt]
    rfl
   rw [hdrop] at hv
   have hr2:InR 256 (o++[(c+rd l (i:Int))%256]):=InR_append.2 ⟨hr,InR_cons.2 ⟨⟨by omega,by omega⟩,InR_nil _⟩⟩
   have h:=ih (i+1) (o++[(c+rd l (i:Int))%256]) ((c+rd l (i:Int))/256) (by omega) (by omega) (by rw [List.length_append,List.length_singleton]; omega) hr2 (by omega) (by omega) (by
    rw [lv_snoc,hl,← hv,Int.pow_succ]
    have e:c+rd l (i:Int)=(c+rd l (i:Int))/256*256+(c+rd l (i:Int))%256:=by omega
    generalize (c+rd l (i:Int))/256=q at *
    generalize (c+rd l (i:Int))%256=r at *
    generalize (256:Int)^i=p
    generalize lv 256 (l.drop (i+1))=t
    grind)
   have g1:(i:Int) < (l.length:Int):=by omega
   have g2:o.length < 140737488355328:=by omega
   have g3:(c+rd l (i:Int))%256%256=(c+rd l (i:Int))%256:=by omega
   have g4:0≤c+rd l (i:Int):=by omega
   have w0:wrap64 (c+rd l (i:Int))=c+rd l (i:Int):=wrap64_id (by omega) (by omega)
   have w1:wrap64 ((c+rd l (i:Int))/256)=(c+rd l (i:Int))/256:=wrap64_id (by clear w0; omega) (by clear w0; omega)
   have w2:wrap64 ((i:Int)+1)=((i+1:Nat):Int):=by rw [wrap64_id (by clear w0 w1; omega) (by clear w0 w1; omega)]; rfl
   refine Ev.step (f:=fun k=>gantref1_number.j1 k l o c (i:Int) true) (fun k=>?_) (Ev.step (fun k=>?_) h)
   ·simp only [gantref1_number.l0]
    rw [if_pos g1]
   simp only [gantref1_number.j1]
   rw [if_pos trivial,if_pos g1,if_pos (Int.natCast_nonneg _),if_pos g2,w0,tmod_nn g4,tdiv_nn g4,g3,w1,w2]
theorem number_spec (l:List Int) (hs:l.length≤140737488355300) (hb:∀ x∈l,0≤x∧x≤4611686018427387904):Ev (fun k=>gantref1_number.f k l) (B (lv 256 l).toNat) :=
 number_l0 l hs hb l.length 0 [] 0 (by omega) (by omega) rfl (InR_nil _) (by omega) (by omega) (by simp [lv])
theorem small_l0 (m:Nat) (hm:m≤100):∀ (j:Nat) (n:Int) (o:List Int),j≤m→0≤n→n < 256^j→n < 9223372036854775808→o.length=m - j→InR 256 o →
 Ev (fun k=>gantref1_Small.l0 k n o) (B (lv 256 o+n*256^(m - j)).toNat):=by
 intro j
 have fin:∀ (j:Nat) (o:List Int),j≤m→o.length=m - j→InR 256 o→Ev (fun k=>gantref1_Small.l0 k 0 o) (B (lv 256 o+0*256^(m - j)).toNat):=by
  intro j o hj hl hr
  have h:=number_spec o (by omega) (fun x hx=>by have:=hr x hx; omega)
  rw [show lv 256 o+0*256^(m - j)=lv 256 o by simp]
  refine Ev.step (f:=fun k=>(gantref1_number.f k o).bind fun t=>some t) (fun k=>?_) (Ev.bind (f:=fun _ t=>some t) h (Ev.now _))
  simp only [gantref1_Small.l0]
  rw [if_neg (by omega)]
 induction j with
 | zero =>
   intro n o hj h0 h1 _ hl hr
   have:n=0:=by simp at h1; omega
   subst this
   exact fin 0 o hj hl hr
 | succ j ih =>
   intro n o hj h0 h1 h2 hl hr
   by_cases hz:n > 0
   ·have hd : n / 256 < 256 ^ j := by
     rw [Int.pow_succ] at h1
     exact Int.ediv_lt_of_lt_mul (by decide) h1
    have hr2:InR 256 (o++[n%256]):=InR_append.2 ⟨hr,InR_cons.2 ⟨⟨by omega,by omega⟩,InR_nil _⟩⟩
    have h:=ih (n/256) (o++[n%256]) (by omega) (by omega) hd (by omega) (by rw [List.length_append,List.length_singleton]; omega) hr2
    have hv:lv 256 (o++[n%256])+n/256*256^(m - j)=lv 256 o+n*256^(m - (j+1)):=by
     rw [lv_snoc,hl,show m - j=m - (j+1)+1 by omega,Int.pow_succ]
     have e:n=n/256*256+n%256:=by omega
     generalize n/256=q at *
     generalize n%256=r at *
     subst e
     generalize (256:Int)^(m - (j+1))=p
     grind
    rw [hv] at h
    have g2:o.length < 17592186044416:=by omega
    have w1:wrap64 (n/256)=n/256:=wrap64_id (by omega) (by omega)
    refine Ev.step (fun k=>?_) h
    simp only [gantref1_Small.l0]
    rw [if_pos hz,if_pos g2,tmod_nn h0,tdiv_nn h0,w1]
   have:n=0:=by omega
   subst this
   exact fin (j+1) o hj hl hr
theorem small_spec (n:Int) (h0:0≤n) (h:n < 9223372036854775808):Ev (fun k=>gantref1_Small.f k n) (B n.toNat):=by
 have:=small_l0 8 (by decide) 8 n [] (by omega) h0 (Int.lt_of_lt_of_le h (by decide)) h rfl (InR_nil _)
 rw [show lv 256 []+n*256^(8 - 8)=n by simp [lv]] at this
 exact this
theorem plus_l0 (a b:ByteArray) (ha:a.size≤35184372088832) (hb:b.size≤35184372088832) (n:Nat) (hn:n=max a.size b.size) (d:Nat):∀ (i:Nat) (x:List Int),i≤n→n - i=d→x.length=n →
 (∀ y∈x,0≤y∧y≤510)→(∀ j,i≤j→j < n→x.getD j 0=0)→lv 256 x=(V a%256^i:Nat)+(V b%256^i:Nat)→Ev (fun k=>gantref1_Plus.l0 k a b x (n:Int) (i:Int)) (B (V a+V b)):=by
 induction d with
 | zero =>
   intro i x hi hd hl hx hz hv
   have h:=number_spec x (by omega) (fun y hy=>by have:=hx y hy; omega)
   have e:i=n:=by omega
   subst e
   rw [V_mod a (by omega),V_mod b (by omega)] at hv
   rw [hv,show ((V a:Int)+(V b:Int)).toNat=V a+V b by omega] at h
   refine Ev.succ ?_
   have g:¬ (i:Int) < (i:Int):=by omega
   simp only [gantref1_Plus.l0,if_neg g]
   exact Ev.bind (f:=fun _ t=>some t) h (Ev.now _)
 | succ d ih =>
   intro i x hi hd hl hx hz hv
   have da:=digit_spec a (by omega) i
   have db:=digit_spec b (by omega) i
   have ra:=dg_range a i
   have rb:=dg_range b i
   have g1:(i:Int) < (n:Int):=by omega
   have g2:0≤(i:Int):=by omega
   have g3:(i:Int) < (x.length:Int):=by omega
   have hx2:∀ y∈x.set i (dg a i+dg b i),0≤y∧y≤510:=by
    intro y hy
    rcases mem_set_cases hy with h | h
    ·exact hx y h
    subst h; omega
   have hv2:lv 256 (x.set i (dg a i+dg b i))=(V a%256^(i+1):Nat)+(V b%256^(i+1):Nat):=by
    rw [lv_set _ _ _ _ (by omega),hz i (by omega) (by omega),hv,mod_pow_succ,mod_pow_succ]
    simp only [Int.natCast_add,Int.natCast_mul,pow_nat]
    unfold dg
    generalize ((V a/256^i%256:Nat):Int)=p
    generalize ((V b/256^i%256:Nat):Int)=q
    have:(((256:Nat):Int))=256:=rfl
    rw [this]
    grind
   have h:=ih (i+1) (x.set i (dg a i+dg b i)) (by omega) (by omega) (by rw [List.length_set]; exact hl) hx2 (fun j h1 h2=>by rw [lset_ne _ (by omega)]; exact hz j (by omega) h2) hv2
   have w1:wrap64 (dg a i+dg b i)=dg a i+dg b i:=wrap64_id (by omega) (by omega)
   have w2:wrap64 ((i:Int)+1)=((i+1:Nat):Int):=by rw [wrap64_id (by clear w1; omega) (by clear w1; omega)]; rfl
   refine Ev.succ ?_
   change gantref1_digit.f a (i:Int)=some (dg a i) at da
   change gantref1_digit.f b (i:Int)=some (dg b i) at db
   simp only [gantref1_Plus.l0,if_pos g1,da,db,Option.bind_some,if_pos g2,if_pos g3,w1,w2,Int.toNat_natCast]
   exact h
theorem plus_spec (a b:ByteArray) (ha:a.size≤35184372088832) (hb:b.size≤35184372088832):Ev (fun k=>gantref1_Plus.f k a b) (B (V a+V b)):=by
 have hm:mx (a.size:Int) (b.size:Int)=((max a.size b.size:Nat):Int):=by
  unfold mx; split<;>omega
 have h:=plus_l0 a b ha hb (max a.size b.size) rfl (max a.size b.size) 0 (List.replicate (max a.size b.size) 0) (by omega) (by omega) (by rw [List.length_replicate])
  (fun y hy=>by have:=List.eq_of_mem_replicate hy; omega) (fun j _ _=>getD_replicate _ j) (by rw [lv_zeros]; simp [Nat.mod_one])
 have g1:0≤((max a.size b.size:Nat):Int):=Int.natCast_nonneg _
 have g2:max a.size b.size≤35184372088832:=by omega
 simp only [gantref1_Plus.f,hm,if_pos g1,Int.toNat_natCast,if_pos g2,Option.bind_some,List.length_replicate]
 exact h
theorem less_l0 (a b:ByteArray) (ha:a.size≤35184372088832) (hb:b.size≤35184372088832) (hab:V b≤V a) (d:Nat):∀ (i:Nat) (x:List Int) (c:Int),i≤a.size→a.size - i=d→x.length=a.size →
 InR 256 x→(∀ j,i≤j→j < a.size→x.getD j 0=0)→(c=0∨c=1)→lv 256 x=(V a%256^i:Nat) - (V b%256^i:Nat)+c*256^i→Ev (fun k=>gantref1_Less.l0 k a b x c (a.size:Int) (i:Int)) (B (V a - V b)):=by
 induction d with
 | zero =>
   intro i x c hi hd hl hx hz hc hv
   have h:=number_spec x (by omega) (fun y hy=>by have:=hx y hy; omega)
   have e:i=a.size:=by omega
   have hlt:=lv_lt (b:=256) (by decide) hx
   rw [hl] at hlt
   have hav:=V_lt a
   have hbv:V b%256^a.size=V b:=Nat.mod_eq_of_lt (Nat.lt_of_le_of_lt hab hav)
   subst e
   rw [V_mod a (by omega),hbv] at hv
   have hc0:c=0:=by
    rcases hc with h0 | h1
    ·exact h0
    exfalso
    rw [h1] at hv
    rw [hv] at hlt
    omega
   subst hc0
   have hv':(lv 256 x).toNat=V a - V b:=by
    rw [hv]
    simp only [Int.zero_mul,Int.add_zero]
    omega
   rw [hv'] at h
   refine Ev.succ ?_
   have g:¬ (a.size:Int) < (a.size:Int):=by omega
   simp only [gantref1_Less.l0,if_neg g]
   exact Ev.bind (f:=fun _ t=>some t) h (Ev.now _)
 | succ d ih =>
   intro i x c hi hd hl hx hz hc hv
   have da:=digit_spec a (by omega) i
   have db:=digit_spec b (by omega) i
   have ra:=dg_range a i
   have rb:=dg_range b i
   have hi2:i < x.length:=by omega
   have g1:(i:Int) < (a.size:Int):=by omega
   have g2:0≤(i:Int):=by omega
   have g3:(i:Int) < (x.length:Int):=by omega
   have hc2:0≤c∧c≤1:=by omega
   have key : ∀ e : Int, (e = 0 ∨ e = 1) → 0 ≤ dg a i - dg b i - c + e * 256 → dg a i - dg b i - c + e * 256 < 256 →
    Ev (fun k=>gantref1_Less.l0 k a b (x.set i (dg a i - dg b i - c+e*256)) e (a.size:Int) ((i+1:Nat):Int)) (B (V a - V b)):=by
    intro e he h0 h1
    refine ih (i+1) _ e (by omega) (by omega) (by rw [List.length_set]; exact hl) (InR_set hx i h0 h1) (fun j h1 h2=>by rw [lset_ne _ (by omega)]; exact hz j (by omega) h2) he ?_
    rw [lv_set _ _ _ _ hi2,hz i (by omega) (by omega),hv,mod_pow_succ,mod_pow_succ,Int.pow_succ]
    simp only [Int.natCast_add,Int.natCast_mul,pow_nat]
    unfold dg
    generalize ((V a/256^i%256:Nat):Int)=p
    generalize ((V b/256^i%256:Nat):Int)=q
    have:(((256:Nat):Int))=256:=rfl
    rw [this]
    grind
   have w1:wrap64 (dg a i - dg b i)=dg a i - dg b i:=wrap64_id (by omega) (by omega)
   have w3:wrap64 (dg a i - dg b i - c)=dg a i - dg b i - c:=wrap64_id (by clear w1; omega) (by clear w1; omega)
   have w2:wrap64 ((i:Int)+1)=((i+1:Nat):Int):=by rw [wrap64_id (by clear w1 w3; omega) (by clear w1 w3; omega)]; rfl
   have hrd:rd (x.set i (dg a i - dg b i - c)) (i:Int)=dg a i - dg b i - c:=rd_set_self x hi2 _
   refine Ev.succ ?_
   change gantref1_digit.f a (i:Int)=some (dg a i) at da
   change gantref1_digit.f b (i:Int)=some (dg b i) at db
   simp only [gantref1_Less.l0,if_pos g1,da,db,Option.bind_some,if_pos g2,if_pos g3,w1,w2,w3,Int.toNat_natCast,hrd,List.set_set]
   by_cases hneg:dg a i - dg b i - c < 0
   ·have h:=key 1 (.inr rfl) (by clear w1 w2 w3; omega) (by clear w1 w2 w3; omega)
    have w4:wrap64 (dg a i - dg b i - c+256)=dg a i - dg b i - c+1*256:=by rw [wrap64_id (by clear w1 w2 w3; omega) (by clear w1 w2 w3; omega)]; rfl
    simp only [if_pos hneg,w4]
    exact h
   have h:=key 0 (.inl rfl) (by clear w1 w2 w3; omega) (by clear w1 w2 w3; omega)
   rw [show dg a i - dg b i - c+0*256=dg a i - dg b i - c by clear w1 w2 w3; omega] at h
   simp only [if_neg hneg]
   exact h
theorem less_spec (a b:ByteArray) (ha:a.size≤35184372088832) (hb:b.size≤35184372088832) (hab:V b≤V a):Ev (fun k=>gantref1_Less.f k a b) (B (V a - V b)):=by
 have h:=less_l0 a b ha hb hab a.size 0 (List.replicate a.size 0) 0 (by omega) (by omega) (by rw [List.length_replicate]) (InR_replicate (by decide) _) (fun j _ _=>getD_replicate _ j) (.inl rfl) (by rw [lv_zeros]; simp [Nat.mod_one])
 have g1:0≤(a.size:Int):=Int.natCast_nonneg _
 simp only [gantref1_Less.f,if_pos g1,Int.toNat_natCast,if_pos ha,Option.bind_some,List.length_replicate]
 exact h
set_option maxRecDepth 20000 in
theorem and1_fin:∀ n:Fin 256,Go.bits .and .i64 ((n.val:Nat):Int) 1=((n.val%2:Nat):Int):=by decide
theorem and1 (n:Nat) (h:n < 256):Go.bits .and .i64 (n:Int) 1=((n%2:Nat):Int):=and1_fin ⟨n,h⟩
theorem shr_i64 (x s:Nat) (hs:s≤7):shr .i64 (x:Int) (s:Int)=((x/2^s:Nat):Int):=by
 have h:=shr_small (k:=.i64) (x:=(x:Int)) (y:=(s:Int)) rfl (by show (s:Int)≤64; omega)
 rw [← h,Int.toNat_natCast]
 have e:(2:Int)^s=((2^s:Nat):Int):=(pow_nat 2 s).symm
 rw [e]; rfl
theorem byte_bit (n i:Nat):n/256^(i/8)%256/2^(i%8)%2=n/2^i%2:=by
 have h256:(256:Nat)=2^8:=rfl
 have hi:2^i=256^(i/8)*2^(i%8):=by
  rw [h256,← Nat.pow_mul,← Nat.pow_add]
  congr 1
  omega
 rw [hi,← Nat.div_div_eq_div_mul]
 generalize n/256^(i/8)=m
 have hm:i%8 < 8:=Nat.mod_lt _ (by decide)
 generalize i%8=s at hm
 have h8:256=2^s*2^(8 - s):=by rw [← Nat.pow_add,show s+(8 - s)=8 by omega]
 rw [h8,Nat.mod_mul_right_div_self,Nat.mod_mod_of_dvd]
 exact ⟨2^(7 - s),by rw [show 8 - s=(7 - s)+1 by omega,Nat.pow_succ,Nat.mul_comm]⟩
theorem bit_spec (a:ByteArray) (hs:a.size≤140737488351232) (i:Nat) (hi:i < 9223372036854775808):gantref1_bit.f a (i:Int)=some ((V a/2^i%2:Nat):Int):=by
 have w:wrap64 (Int.tdiv (i:Int) 8)=((i/8:Nat):Int):=by
  rw [tdiv_nn (Int.natCast_nonneg _),wrap64_id (by omega) (by omega)]; rfl
 have t:Int.tmod (i:Int) 8=((i%8:Nat):Int):=by rw [tmod_nn (Int.natCast_nonneg _)]; rfl
 have d:=digit_spec a hs (i/8)
 have g:0≤((i%8:Nat):Int):=Int.natCast_nonneg _
 have hm:i%8≤7:=by omega
 have hlt:V a/256^(i/8)%256/2^(i%8) < 256:=Nat.lt_of_le_of_lt (Nat.div_le_self _ _) (Nat.mod_lt _ (by decide))
 simp only [gantref1_bit.f,w,t,d,Option.bind_some,if_pos g]
 rw [shr_i64 _ _ hm,and1 _ hlt,byte_bit]
theorem B_one:(⟨#[1]⟩:ByteArray)=B 1:=by
 rw [← B_V (a:=⟨#[1]⟩)]
 ·rfl
 intro c hc
 simp at hc
 subst hc
 decide
theorem V_one:V ⟨#[1]⟩=1:=by rw [B_one,V_B]
theorem cmpN_nn {a b:Nat}:cmpN a b≥0↔b≤a:=by
 unfold cmpN
 (repeat' split)<;>omega
theorem size_two (m k:Nat) (h:m < 256^k):(B (m+m)).size≤k+1∧(B (m+m+1)).size≤k+1:=by
 have e:256^(k+1)=256*256^k:=by rw [Nat.pow_succ,Nat.mul_comm]
 exact ⟨size_B_le (by omega),size_B_le (by omega)⟩
theorem share_l0 (a b:ByteArray) (ha:a.size≤1099511627776) (hb:b.size≤1099511627776) (hb0:V b≠0):∀ (i q r:Nat),i≤8*a.size→V a/2^i=q*V b+r→r < V b →
 Ev (fun k=>gantref1_Share.l0 k a b (B q) (B r) ((i:Int) - 1)) (B (V a/V b),B (V a%V b)):=by
 intro i
 induction i with
 | zero =>
   intro q r hi hq hr
   refine Ev.succ ?_
   have g:¬ (((0:Nat):Int) - 1≥0):=by omega
   simp only [gantref1_Share.l0,if_neg g]
   rw [Nat.pow_zero,Nat.div_one] at hq
   have e1:V a/V b=q:=by
    rw [hq,Nat.mul_comm,Nat.mul_add_div (by omega),Nat.div_eq_of_lt hr,Nat.add_zero]
   have e2:V a%V b=r:=by rw [hq,Nat.mul_comm,Nat.mul_add_mod,Nat.mod_eq_of_lt hr]
   rw [e1,e2]
   exact Ev.now _
 | succ i ih =>
   intro q r hi hq hr
   have hstep:V a/2^i=2*(V a/2^(i+1))+V a/2^i%2:=by
    rw [Nat.pow_succ,← Nat.div_div_eq_div_mul]; omega
   have hqa:q≤V a:=by
    have h1:V a/2^(i+1)≤V a:=Nat.div_le_self _ _
    have h2:q≤q*V b:=Nat.le_mul_of_pos_right q (by omega)
    omega
   have hqs:q < 256^a.size:=Nat.lt_of_le_of_lt hqa (V_lt a)
   have hrs:r < 256^b.size:=Nat.lt_trans hr (V_lt b)
   have sq:(B q).size≤a.size:=size_B_le hqs
   have sr:(B r).size≤b.size:=size_B_le hrs
   have sq2:=size_two q a.size hqs
   have sr2:=size_two r b.size hrs
   have pq:=plus_spec (B q) (B q) (by omega) (by omega)
   have pr:=plus_spec (B r) (B r) (by omega) (by omega)
   rw [V_B] at pq pr
   have bs:=bit_spec a (by omega) i (by omega)
   have wi:(((i+1:Nat):Int) - 1)=(i:Int):=by omega
   have g:((i:Int)≥0):=by omega
   have wi2:wrap64 ((i:Int) - 1)=(i:Int) - 1:=wrap64_id (by omega) (by omega)
   have key:∀ r':Nat,V a/2^i=2*q*V b+r' → r' < 2*V b→(B r').size≤b.size+1→Ev (fun k=>gantref1_Share.j1 k a b (B (q+q)) (B r') (i:Int)) (B (V a/V b),B (V a%V b)):=by
    intro r' h1 h2 h3
    refine Ev.succ ?_
    simp only [gantref1_Share.j1]
    have hc:=compare_spec (B r') b (by omega) (by omega)
    rw [V_B] at hc
    refine Ev.bind hc ?_
    by_cases hge:V b≤r'
    ·simp only [if_pos (cmpN_nn.2 hge),wi2]
     have hl:=less_spec (B r') b (by omega) (by omega) (by rw [V_B]; exact hge)
     rw [V_B] at hl
     refine Ev.bind hl ?_
     have h4:=plus_spec (B (q+q)) ⟨#[1]⟩ (by omega) (by decide)
     rw [V_B,V_one] at h4
     refine Ev.bind h4 ?_
     refine ih (q+q+1) (r' - V b) (by omega) ?_ (by omega)
     rw [h1,show q+q+1=2*q+1 by omega,Nat.add_mul,Nat.one_mul]
     generalize 2*q*V b=z
     omega
    simp only [if_neg (fun h=>hge (cmpN_nn.1 h)),wi2]
    refine ih (q+q) r' (by omega) ?_ (by omega)
    rw [h1,show q+q=2*q by omega]
   refine Ev.succ ?_
   rw [show (fun k=>gantref1_Share.l0 (k+1) a b (B q) (B r) (((i+1:Nat):Int) - 1))=(fun k=>gantref1_Share.l0 (k+1) a b (B q) (B r) (i:Int)) from by rw [wi]]
   simp only [gantref1_Share.l0,if_pos g]
   refine Ev.bind pq ?_
   refine Ev.bind pr ?_
   simp only [bs,Option.bind_some]
   have hb2:V a/2^i%2 < 2:=Nat.mod_lt _ (by decide)
   have hassoc:2*(q*V b)=2*q*V b:=(Nat.mul_assoc 2 q (V b)).symm
   by_cases h1:V a/2^i%2=1
   ·have g1:((V a/2^i%2:Nat):Int)=1:=by rw [h1]; rfl
    simp only [if_pos g1]
    have h4:=plus_spec (B (r+r)) ⟨#[1]⟩ (by omega) (by decide)
    rw [V_B,V_one] at h4
    refine Ev.bind h4 ?_
    refine key (r+r+1) ?_ (by omega) sr2.2
    rw [hq,h1] at hstep
    omega
   have g1:¬ ((V a/2^i%2:Nat):Int)=1:=by omega
   simp only [if_neg g1]
   refine key (r+r) ?_ (by omega) sr2.1
   rw [hq] at hstep
   omega
theorem share_spec (a b:ByteArray) (ha:a.size≤1099511627776) (hb:b.size≤1099511627776) (hb0:V b≠0):Ev (fun k=>gantref1_Share.f k a b) (B (V a/V b),B (V a%V b)):=by
 have w1:wrap64 ((wrap64 (8*(a.size:Int))) - 1)=((8*a.size:Nat):Int) - 1:=by
  rw [wrap64_id (x:=8*(a.size:Int)) (by omega) (by omega),wrap64_id (by omega) (by omega)]; omega
 have h:=share_l0 a b ha hb hb0 (8*a.size) 0 0 (Nat.le_refl _) (by
  have h1:=V_lt a
  rw [show 2^(8*a.size)=256^a.size by rw [Nat.pow_mul]]
  rw [Nat.div_eq_of_lt h1]; omega) (by omega)
 rw [B_zero] at h
 simp only [gantref1_Share.f,w1]
 exact h
def sm (f:Nat→Int):Nat→Int
 | 0=>0
 | k+1=>sm f k+f k
theorem sm_congr {f g:Nat→Int}:∀ (n:Nat),(∀ k,k < n→f k=g k)→sm f n=sm g n
 | 0,_=>rfl
 | n+1,h=>by simp only [sm]; rw [sm_congr n (fun k hk=>h k (by omega)),h n (by omega)]
theorem sm_add (f g:Nat→Int):∀ n,sm (fun k=>f k+g k) n=sm f n+sm g n
 | 0=>rfl
 | n+1=>by simp only [sm]; rw [sm_add f g n]; omega
theorem sm_mul (f:Nat→Int) (c:Int):∀ n,sm (fun k=>f k*c) n=sm f n*c
 | 0=>by simp [sm]
 | n+1=>by simp only [sm]; rw [sm_mul f c n,Int.add_mul]
theorem sm_bound {f:Nat→Int} {M:Int} (h:∀ k,0≤f k∧f k≤M):∀ n:Nat,0≤sm f n∧sm f n≤M*n
 | 0=>by simp [sm]
 | n+1=>by
   have ih:=sm_bound h n
   have hn:=h n
   simp only [sm]
   rw [show (((n+1:Nat)):Int)=(n:Int)+1 from rfl,Int.mul_add,Int.mul_one]
   omega
def col (a b:ByteArray) (i:Nat) (k:Nat):Int:=dg a k*dg b (i - k)
theorem col_bound (a b:ByteArray) (i k:Nat):0≤col a b i k∧col a b i k≤65025:=by
 have h1:=dg_range a k
 have h2:=dg_range b (i - k)
 unfold col
 generalize dg a k=x at *
 generalize dg b (i - k)=y at *
 refine ⟨Int.mul_nonneg h1.1 h2.1,?_⟩
 have h3:x*y≤255*y:=Int.mul_le_mul_of_nonneg_right (by omega) h2.1
 omega
def tri (a b:ByteArray) (n:Nat):Int:=sm (fun k=>dg a k*256^k*((V b%256^(n - k):Nat):Int)) n
theorem tri_succ (a b:ByteArray) (n:Nat):tri a b (n+1)=tri a b n+sm (col a b n) (n+1)*256^n:=by
 have h1:∀ k,k < n+1→dg a k*256^k*((V b%256^(n+1 - k):Nat):Int)=dg a k*256^k*((V b%256^(n - k):Nat):Int)+col a b n k*256^n:=by
  intro k hk
  rw [show n+1 - k=(n - k)+1 by omega,mod_pow_succ]
  have e:((V b%256^(n - k)+V b/256^(n - k)%256*256^(n - k):Nat):Int)=((V b%256^(n - k):Nat):Int)+dg b (n - k)*256^(n - k):=by
   rw [Int.natCast_add,Int.natCast_mul,pow_nat]; rfl
  rw [e,Int.mul_add]
  have e2:(256:Int)^n=256^k*256^(n - k):=by rw [← Int.pow_add,show k+(n - k)=n by omega]
  rw [e2]
  unfold col
  grind
 unfold tri
 rw [sm_congr (n+1) h1,sm_add,sm_mul]
 congr 1
 simp only [sm]
 rw [Nat.sub_self,Nat.pow_zero,Nat.mod_one]
 simp
theorem sm_dg (a:ByteArray):∀ n,sm (fun k=>dg a k*256^k) n=((V a%256^n:Nat):Int)
 | 0=>by simp [sm,Nat.mod_one]
 | n+1=>by
   simp only [sm]
   rw [sm_dg a n,mod_pow_succ,Int.natCast_add,Int.natCast_mul,pow_nat]; rfl
theorem dg_big (a:ByteArray) {k:Nat} (h:a.size≤k):dg a k=0:=by
 unfold dg
 have h1:V a < 256^k:=Nat.lt_of_lt_of_le (V_lt a) (Nat.pow_le_pow_right (by decide) h)
 rw [Nat.div_eq_of_lt h1]; rfl
theorem tri_all (a b:ByteArray):tri a b (a.size+b.size)=((V a*V b:Nat):Int):=by
 have h1:∀ k,k < a.size+b.size→dg a k*256^k*((V b%256^(a.size+b.size - k):Nat):Int)=dg a k*256^k*(V b:Int):=by
  intro k hk
  by_cases h:k < a.size
  ·rw [V_mod b (n:=a.size+b.size - k) (by omega)]
  rw [dg_big a (by omega)]; simp
 unfold tri
 rw [sm_congr _ h1,sm_mul,sm_dg,V_mod a (by omega),Int.natCast_mul]
theorem times_l1 (a b:ByteArray) (ha:a.size≤1099511627776) (hb:b.size≤1099511627776) (i n:Nat) (hin:i < n) (hn:n≤2199023255552) (R:ByteArray) (d:Nat):∀ (k:Nat) (x:List Int),k≤i+1→i+1 - k=d→x.length=n→x.getD i 0=sm (col a b i) k →
 Ev (fun q=>gantref1_Times.l0 q a b (x.set i (sm (col a b i) (i+1))) (n:Int) ((i:Int)+1)) R→Ev (fun q=>gantref1_Times.l1 q a b x (i:Int) (k:Int) (n:Int) (i:Int)) R:=by
 induction d with
 | zero =>
   intro k x hk hd hl hx hR
   have e:k=i+1:=by omega
   subst e
   refine Ev.succ ?_
   have g:¬ (((i+1:Nat):Int)≤(i:Int)):=by omega
   have w:wrap64 ((i:Int)+1)=(i:Int)+1:=wrap64_id (by omega) (by omega)
   have hs:x.set i (sm (col a b i) (i+1))=x:=by
    rw [← hx]
    refine List.ext_getElem? fun j=>?_
    rw [List.getElem?_set]
    split
    ·rename_i h; subst h
     split
     ·rename_i h2; rw [List.getD_eq_getElem?_getD,List.getElem?_eq_getElem h2]; rfl
     rename_i h2; rw [List.getElem?_eq_none (by omega)]
    rfl
   rw [hs] at hR
   simp only [gantref1_Times.l1,if_neg g,w]
   exact hR
 | succ d ih =>
   intro k x hk hd hl hx hR
   refine Ev.succ ?_
   have hki:k≤i:=by omega
   have f1:k+1≤i+1:=by omega
   have f2:i+1 - (k+1)=d:=by omega
   have f3:i < x.length:=by omega
   have g:((k:Int)≤(i:Int)):=by omega
   have g2:0≤(i:Int):=Int.natCast_nonneg _
   have g3:(i:Int) < (x.length:Int):=by omega
   have da:=digit_spec a (by omega) k
   have db:=digit_spec b (by omega) (i - k)
   change gantref1_digit.f a (k:Int)=some (dg a k) at da
   change gantref1_digit.f b ((i - k:Nat):Int)=some (dg b (i - k)) at db
   have w1:wrap64 ((i:Int) - (k:Int))=((i - k:Nat):Int):=by rw [wrap64_id (by omega) (by omega)]; omega
   have w2:wrap64 ((k:Int)+1)=((k+1:Nat):Int):=by rw [wrap64_id (by omega) (by omega)]; rfl
   have hrd:rd x (i:Int)=sm (col a b i) k:=by rw [← getD_eq_rd]; exact hx
   have hcol:dg a k*dg b (i - k)=col a b i k:=rfl
   have w3:wrap64 (dg a k*dg b (i - k))=col a b i k:=by
    rw [hcol]
    have cb:=col_bound a b i k
    clear hcol w1 w2 da db ih hR hx hrd
    exact wrap64_id (by omega) (by omega)
   have w4:wrap64 (rd x (i:Int)+col a b i k)=sm (col a b i) (k+1):=by
    rw [hrd]
    have cb:=col_bound a b i k
    have sb:=sm_bound (col_bound a b i) k
    clear hcol w1 w2 w3 da db ih hR hx hrd
    show wrap64 (sm (col a b i) k+col a b i k)=sm (col a b i) k+col a b i k
    generalize sm (col a b i) k=s at *
    generalize col a b i k=t at *
    exact wrap64_id (by omega) (by omega)
   simp only [gantref1_Times.l1,if_pos g,if_pos g2,if_pos g3,da,Option.bind_some,w1,db,w3,w4,w2,Int.toNat_natCast]
   refine ih (k+1) _ f1 f2 (by rw [List.length_set]; exact hl) ?_ ?_
   ·rw [getD_eq_rd,rd_set_self _ f3]
   rw [List.set_set]; exact hR
theorem times_l0 (a b:ByteArray) (ha:a.size≤1099511627776) (hb:b.size≤1099511627776) (n:Nat) (hn:n=a.size+b.size) (d:Nat):∀ (i:Nat) (x:List Int),i≤n→n - i=d→x.length=n→(∀ y∈x,0≤y∧y≤4611686018427387904)→(∀ j,i≤j→x.getD j 0=0)→lv 256 (x.take i)=tri a b i →
 Ev (fun k=>gantref1_Times.l0 k a b x (n:Int) (i:Int)) (B (V a*V b)):=by
 induction d with
 | zero =>
   intro i x hi hd hl hx hz hv
   have e:i=n:=by omega
   subst e
   refine Ev.succ ?_
   have g:¬ ((i:Int) < (i:Int)):=by omega
   simp only [gantref1_Times.l0,if_neg g]
   have h:=number_spec x (by omega) hx
   rw [List.take_of_length_le (by omega)] at hv
   rw [hv,hn,tri_all,Int.toNat_natCast] at h
   refine Ev.bind h ?_
   exact Ev.now _
 | succ d ih =>
   intro i x hi hd hl hx hz hv
   refine Ev.succ ?_
   have g:((i:Int) < (n:Int)):=by omega
   simp only [gantref1_Times.l0,if_pos g]
   have sb:=sm_bound (col_bound a b i) (i+1)
   refine times_l1 a b ha hb i n (by omega) (by omega) _ (i+1) 0 x (by omega) (by omega) hl (by rw [hz i (Nat.le_refl _)]; rfl) ?_
   rw [show ((i:Int)+1)=((i+1:Nat):Int) from rfl]
   refine ih (i+1) _ (by omega) (by omega) (by rw [List.length_set]; exact hl) ?_ ?_ ?_
   ·intro y hy
    rcases mem_set_cases hy with h | h
    ·exact hx y h
    subst h; omega
   ·intro j hj
    rw [lset_ne _ (by omega)]
    exact hz j (by omega)
   rw [lv_take_succ _ _ _ (by rw [List.length_set]; omega),List.take_set_of_le (Nat.le_refl i),hv,tri_succ,getD_eq_rd,rd_set_self _ (by omega)]
theorem times_spec (a b:ByteArray) (ha:a.size≤1099511627776) (hb:b.size≤1099511627776):Ev (fun k=>gantref1_Times.f k a b) (B (V a*V b)):=by
 have w:wrap64 ((a.size:Int)+(b.size:Int))=((a.size+b.size:Nat):Int):=by rw [wrap64_id (by omega) (by omega)]; rfl
 have g1:0≤((a.size+b.size:Nat):Int):=Int.natCast_nonneg _
 have g2:a.size+b.size≤35184372088832:=by omega
 have h:=times_l0 a b ha hb (a.size+b.size) rfl (a.size+b.size) 0 (List.replicate (a.size+b.size) 0) (by omega) (by omega) (by rw [List.length_replicate])
  (fun y hy=>by have:=List.eq_of_mem_replicate hy; omega) (fun j _=>getD_replicate _ j) (by simp [lv,tri,sm])
 simp only [gantref1_Times.f,w,if_pos g1,Int.toNat_natCast,if_pos g2,Option.bind_some,List.length_replicate]
 exact h
end Go.Proofs.YtkpeembfagcpcaaDoor.SB
end
section
namespace Go.Proofs.YtkpeembfagcpcaaDoor.SB
open Go.RowKit Go.Proofs.YtkpeembfagcpcaaDoor.A Go.Proofs.YtkpeembfagcpcaaDoor.B Go.Proofs.YtkpeembfagcpcaaDoor.C Go.Proofs.YtkpeembfagcpcaaDoor.R Go.Proofs.YtkpeembfagcpcaaDoor.H Go.Proofs.YtkpeembfagcpcaaDoor.M Go.Proofs.YtkpeembfagcpcaaDoor.SA Go.Proofs.YtkpeembfagcpcaaDoorW.PrintWords Go.Proofs.YtkpeembfagcpcaaDoorW.PrintLast Go.Proofs.YtkpeembfagcpcaaDoorW.PrintMore
theorem halved_digit (v i:Nat):v/2/256^i%256=v/256^i%256/2+v/256^(i+1)%256%2*128:=by
 have e1:v/2/256^i=v/256^i/2:=by rw [Nat.div_div_eq_div_mul,Nat.div_div_eq_div_mul,Nat.mul_comm]
 have e2:v/256^(i+1)=v/256^i/256:=by rw [Nat.pow_succ,Nat.div_div_eq_div_mul]
 rw [e1,e2]
 generalize v/256^i=q
 omega
theorem halved_word {p q:Nat} (hp:p < 256) (hq:q < 256):wrap64 (wrap64 (Int.tdiv (p:Int) 2)+wrap64 (Int.tmod (q:Int) 2*128))=((p/2+q%2*128:Nat):Int):=by
 have t1:Int.tdiv (p:Int) 2=((p/2:Nat):Int):=by rw [Int.tdiv_eq_ediv_of_nonneg (Int.natCast_nonneg _)]; omega
 have t2:Int.tmod (q:Int) 2=((q%2:Nat):Int):=by rw [Int.tmod_eq_emod_of_nonneg (Int.natCast_nonneg _)]; omega
 rw [t1,t2,wrap64_id (x:=((p/2:Nat):Int)) (by omega) (by omega),wrap64_id (x:=((q%2:Nat):Int)*128) (by omega) (by omega),wrap64_id (by omega) (by omega)]
 omega
theorem halved_l0 (a:ByteArray) (ha:a.size≤35184372088832) (d:Nat):∀ (i:Nat) (x:List Int),i≤a.size→a.size - i=d→x.length=a.size →
 (∀ y∈x,0≤y∧y≤510)→(∀ j,i≤j→j < a.size→x.getD j 0=0)→lv 256 x=(V a/2%256^i:Nat)→Ev (fun k=>gantref1_halved.l0 k a x (a.size:Int) (i:Int)) (B (V a/2)):=by
 induction d with
 | zero =>
   intro i x hi hd hl hx hz hv
   have h:=number_spec x (by omega) (fun y hy=>by have:=hx y hy; omega)
   have e:i=a.size:=by omega
   subst e
   rw [Nat.mod_eq_of_lt (Nat.lt_of_le_of_lt (Nat.div_le_self _ _) (V_lt a))] at hv
   rw [hv,Int.toNat_natCast] at h
   refine Ev.succ ?_
   have g:¬ (a.size:Int) < (a.size:Int):=by omega
   simp only [gantref1_halved.l0,if_neg g]
   exact Ev.bind (f:=fun _ t=>some t) h (Ev.now _)
 | succ d ih =>
   intro i x hi hd hl hx hz hv
   have da:=digit_spec a (by omega) i
   have db:=digit_spec a (by omega) (i+1)
   have ra:V a/256^i%256 < 256:=Nat.mod_lt _ (by decide)
   have rb:V a/256^(i+1)%256 < 256:=Nat.mod_lt _ (by decide)
   have hw:=halved_word ra rb
   rw [← halved_digit] at hw
   have rz:V a/2/256^i%256 < 256:=Nat.mod_lt _ (by decide)
   have g1:(i:Int) < (a.size:Int):=by omega
   have g2:0≤(i:Int):=by omega
   have g3:(i:Int) < (x.length:Int):=by omega
   have hx2:∀ y∈x.set i ((V a/2/256^i%256:Nat):Int),0≤y∧y≤510:=by
    intro y hy
    rcases mem_set_cases hy with h | h
    ·exact hx y h
    subst h; omega
   have hv2:lv 256 (x.set i ((V a/2/256^i%256:Nat):Int))=(V a/2%256^(i+1):Nat):=by
    rw [lv_set _ _ _ _ (by omega),hz i (by omega) (by omega),hv,mod_pow_succ]
    simp only [Int.natCast_add,Int.natCast_mul,pow_nat]
    have:(((256:Nat):Int))=256:=rfl
    rw [this,Int.sub_zero]
   have h:=ih (i+1) (x.set i ((V a/2/256^i%256:Nat):Int)) (by omega) (by omega) (by rw [List.length_set]; exact hl) hx2 (fun j h1 h2=>by rw [lset_ne _ (by omega)]; exact hz j (by omega) h2) hv2
   have w2:wrap64 ((i:Int)+1)=((i+1:Nat):Int):=by rw [wrap64_id (by clear hw; omega) (by clear hw; omega)]; rfl
   refine Ev.succ ?_
   simp only [gantref1_halved.l0,if_pos g1,da,w2,db,Option.bind_some,if_pos g2,if_pos g3,hw,Int.toNat_natCast]
   exact h
theorem halved_spec (a:ByteArray) (ha:a.size≤35184372088832):Ev (fun k=>gantref1_halved.f k a) (B (V a/2)):=by
 have h:=halved_l0 a ha a.size 0 (List.replicate a.size 0) (by omega) (by omega) (by rw [List.length_replicate])
  (fun y hy=>by have:=List.eq_of_mem_replicate hy; omega) (fun j _ _=>getD_replicate _ j) (by rw [lv_zeros]; simp [Nat.mod_one])
 have g1:0≤(a.size:Int):=Int.natCast_nonneg _
 simp only [gantref1_halved.f,if_pos g1,Int.toNat_natCast,if_pos ha,Option.bind_some,List.length_replicate]
 exact h
theorem gcd_half {a b:Nat} (ha:a%2=0) (hg:Nat.gcd a b%2=1):Nat.gcd (a/2) b=Nat.gcd a b:=by
 have e:a=2*(a/2):=by omega
 have hc:Nat.Coprime (Nat.gcd a b) 2:=by
  unfold Nat.Coprime
  rw [Nat.gcd_comm,Nat.gcd_rec,hg]
  rfl
 refine Nat.dvd_antisymm (Nat.dvd_gcd (Nat.dvd_trans (Nat.gcd_dvd_left _ _) ⟨2,by omega⟩) (Nat.gcd_dvd_right _ _)) (Nat.dvd_gcd ?_ (Nat.gcd_dvd_right _ _))
 have h1:Nat.gcd a b ∣ 2*(a/2):=by rw [← e]; exact Nat.gcd_dvd_left a b
 exact hc.dvd_of_dvd_mul_left h1
theorem bit0_spec {n K:Nat} (h:n < 256^K) (hK:K≤2000000000):gantref1_bit.f (B n) 0=some ((n%2:Nat):Int):=by
 have:=bit_spec (B n) (by have:=size_B_le h; omega) 0 (by decide)
 rwa [V_B,Nat.pow_zero,Nat.div_one] at this
theorem halvedB {n K:Nat} (h:n < 256^K) (hK:K≤2000000000):Ev (fun k=>gantref1_halved.f k (B n)) (B (n/2)):=by
 have:=halved_spec (B n) (by have:=size_B_le h; omega)
 rwa [V_B] at this
theorem compareB {m n K:Nat} (h:m < 256^K) (h2:n < 256^K) (hK:K≤2000000000):Ev (fun k=>gantref1_Compare.f k (B m) (B n)) (cmpN m n):=by
 have:=compare_spec (B m) (B n) (by have:=size_B_le h; omega) (by have:=size_B_le h2; omega)
 rwa [V_B,V_B] at this
theorem lessB {m n K:Nat} (h:m < 256^K) (h2:n < 256^K) (hK:K≤2000000000) (hl:n≤m):Ev (fun k=>gantref1_Less.f k (B m) (B n)) (B (m - n)):=by
 have:=less_spec (B m) (B n) (by have:=size_B_le h; omega) (by have:=size_B_le h2; omega) (by rw [V_B,V_B]; exact hl)
 rwa [V_B,V_B] at this
theorem plusB {m n K:Nat} (h:m < 256^K) (h2:n < 256^K) (hK:K≤2000000000):Ev (fun k=>gantref1_Plus.f k (B m) (B n)) (B (m+n)):=by
 have:=plus_spec (B m) (B n) (by have:=size_B_le h; omega) (by have:=size_B_le h2; omega)
 rwa [V_B,V_B] at this
theorem nilB {n:Nat}:(B n).toList=([]:List UInt8)↔n=0:=by rw [toList_B]; exact bytesOf_eq_nil
theorem common_l2 {K t:Nat} (hK:K≤2000000000) (ht:t < 4611686018427387904) (d:Nat):∀ (i m:Nat),t - i=d→i≤t→m*2^d < 256^K→Ev (fun k=>gantref1_Common.l2 k (B m) (t:Int) (i:Int)) (B (m*2^d)):=by
 induction d with
 | zero =>
   intro i m hd hi hm
   have e:i=t:=by omega
   subst e
   refine Ev.succ ?_
   have g:¬ (i:Int) < (i:Int):=by omega
   simp only [gantref1_Common.l2,if_neg g]
   rw [Nat.pow_zero,Nat.mul_one]
   exact Ev.now _
 | succ d ih =>
   intro i m hd hi hm
   have e:m*2^(d+1)=(m+m)*2^d:=by rw [Nat.pow_succ,← Nat.two_mul,Nat.mul_comm (2^d) 2,← Nat.mul_assoc,Nat.mul_comm m 2]
   rw [e] at hm ⊢
   have hmm:m+m < 256^K:=Nat.lt_of_le_of_lt (Nat.le_mul_of_pos_right _ (Nat.pow_pos (by decide))) hm
   have g:(i:Int) < (t:Int):=by omega
   have w:wrap64 ((i:Int)+1)=((i+1:Nat):Int):=by rw [wrap64_id (by omega) (by omega)]; rfl
   refine Ev.succ ?_
   simp only [gantref1_Common.l2,if_pos g,w]
   exact Ev.bind (plusB (by omega) (by omega) hK) (ih (i+1) (m+m) (by omega) (by omega) hm)
theorem common_l1 {K t:Nat} (hK:K≤2000000000) (ht:t < 4611686018427387904):∀ (fuel a b:Nat),a+b < fuel→a < 256^K→b < 256^K→b≠0→Nat.gcd a b%2=1→Nat.gcd a b*2^t < 256^K →
 Ev (fun k=>gantref1_Common.l1 k (B a) (B b) (t:Int)) (B (Nat.gcd a b*2^t)):=by
 intro fuel
 induction fuel with
 | zero=>intro a b h; omega
 | succ fuel ih =>
   intro a b hf ha hb hb0 hg hs
   refine Ev.succ ?_
   by_cases a0:a=0
   ·subst a0
    simp only [gantref1_Common.l1,if_pos (nilB.2 rfl)]
    rw [Nat.gcd_zero_left] at hs ⊢
    exact common_l2 hK ht t 0 b (by omega) (by omega) hs
   have g0:¬ (B a).toList=([]:List UInt8):=fun h=>a0 (nilB.1 h)
   simp only [gantref1_Common.l1,if_neg g0,bit0_spec ha hK,bit0_spec hb hK,Option.bind_some]
   by_cases ae:a%2=0
   ·have g1:((a%2:Nat):Int)=0:=by omega
    simp only [if_pos g1]
    have hh:=gcd_half ae hg
    have:=ih (a/2) b (by omega) (by omega) hb hb0 (by rw [hh]; exact hg) (by rw [hh]; exact hs)
    rw [hh] at this
    exact Ev.bind (halvedB ha hK) this
   have g1:¬ ((a%2:Nat):Int)=0:=by omega
   simp only [if_neg g1]
   by_cases be:b%2=0
   ·have g2:((b%2:Nat):Int)=0:=by omega
    simp only [if_pos g2]
    have hh:Nat.gcd a (b/2)=Nat.gcd a b:=by
     rw [Nat.gcd_comm,Nat.gcd_comm a b]
     exact gcd_half be (by rw [Nat.gcd_comm]; exact hg)
    have:=ih a (b/2) (by omega) ha (by omega) (by omega) (by rw [hh]; exact hg) (by rw [hh]; exact hs)
    rw [hh] at this
    exact Ev.bind (halvedB hb hK) this
   have g2:¬ ((b%2:Nat):Int)=0:=by omega
   simp only [if_neg g2]
   refine Ev.bind (compareB ha hb hK) ?_
   by_cases hge:b≤a
   ·simp only [if_pos (cmpN_nn.2 hge)]
    have hh:Nat.gcd (a - b) b=Nat.gcd a b:=Nat.gcd_sub_self_left hge
    have:=ih (a - b) b (by omega) (by omega) hb hb0 (by rw [hh]; exact hg) (by rw [hh]; exact hs)
    rw [hh] at this
    exact Ev.bind (lessB ha hb hK hge) this
   simp only [if_neg (fun h=>hge (cmpN_nn.1 h))]
   have hh:Nat.gcd (b - a) a=Nat.gcd a b:=by
    rw [Nat.gcd_comm a b]
    exact Nat.gcd_sub_self_left (by omega)
   have:=ih (b - a) a (by omega) (by omega) ha a0 (by rw [hh]; exact hg) (by rw [hh]; exact hs)
   rw [hh] at this
   exact Ev.bind (lessB hb ha hK (by omega)) this
theorem twos_lt {t K:Nat} (h1:2^t < 256^K) (hK:K≤2000000000):t < 16000000001:=by
 have e:(256:Nat)^K=2^(8*K):=by rw [Nat.pow_mul]
 rw [e] at h1
 have:=(Nat.pow_lt_pow_iff_right (by decide)).1 h1
 omega
theorem both_even {a b:Nat}:wrap64 (((a%2:Nat):Int)+((b%2:Nat):Int))=0↔(a%2=0∧b%2=0):=by
 rw [wrap64_id (by omega) (by omega)]
 omega
theorem wrap_succ {t:Nat} (h:t < 16000000001):wrap64 ((t:Int)+1)=((t+1:Nat):Int):=by
 rw [wrap64_id (by omega) (by omega)]
 rfl
theorem common_l0 {K:Nat} (hK:K≤2000000000):∀ (fuel a b t:Nat),a+b < fuel→a < 256^K→b < 256^K→a≠0→b≠0→Nat.gcd a b*2^t < 256^K →
 Ev (fun k=>gantref1_Common.l0 k (B a) (B b) (t:Int)) (B (Nat.gcd a b*2^t)):=by
 intro fuel
 induction fuel with
 | zero=>intro a b t h; omega
 | succ fuel ih =>
   intro a b t hf ha hb ha0 hb0 hs
   have hg0:0 < Nat.gcd a b:=Nat.gcd_pos_of_pos_left _ (by omega)
   have ht:t < 16000000001:=twos_lt (Nat.lt_of_le_of_lt (Nat.le_mul_of_pos_left _ hg0) hs) hK
   have key:∀ k,gantref1_Common.l0 (k+1) (B a) (B b) (t:Int)=(if wrap64 (((a%2:Nat):Int)+((b%2:Nat):Int))=0 then ((gantref1_halved.f k (B a)).bind fun t165=>((gantref1_halved.f k (B b)).bind fun t166=>(gantref1_Common.l0 k t165 t166 (wrap64 ((t:Int)+1))))) else (gantref1_Common.l1 k (B a) (B b) (t:Int))):=fun k=>by
    rw [gantref1_Common.l0,bit0_spec ha hK,Option.bind_some,bit0_spec hb hK,Option.bind_some]
   refine Ev.succ ?_
   rw [funext key]
   clear key
   by_cases he:a%2=0∧b%2=0
   ·rw [funext fun k=>if_pos (both_even.2 he),wrap_succ ht]
    have e:Nat.gcd a b=2*Nat.gcd (a/2) (b/2):=by
     rw [← Nat.gcd_mul_left]
     congr 1<;>omega
    have e2:Nat.gcd a b*2^t=Nat.gcd (a/2) (b/2)*2^(t+1):=by
     rw [e,Nat.pow_succ,Nat.mul_comm 2,Nat.mul_assoc,Nat.mul_comm 2]
    rw [e2] at hs ⊢
    have:=ih (a/2) (b/2) (t+1) (by omega) (by omega) (by omega) (by omega) (by omega) hs
    exact Ev.bind (halvedB ha hK) (Ev.bind (halvedB hb hK) this)
   rw [funext fun k=>if_neg (fun h=>he (both_even.1 h))]
   refine common_l1 hK (by omega) (a+b+1) a b (by omega) ha hb hb0 ?_ hs
   have h1:=Nat.gcd_dvd_left a b
   have h2:=Nat.gcd_dvd_right a b
   rcases Nat.mod_two_eq_zero_or_one (Nat.gcd a b) with h | h
   ·exfalso
    have hd:2 ∣ Nat.gcd a b:=Nat.dvd_of_mod_eq_zero h
    have:=Nat.mod_eq_zero_of_dvd (Nat.dvd_trans hd h1)
    have:=Nat.mod_eq_zero_of_dvd (Nat.dvd_trans hd h2)
    exact he ⟨by omega,by omega⟩
   exact h
theorem common_spec (a b:ByteArray) (ha:a.size≤2000000000) (hb:b.size≤2000000000):Ev (fun k=>gantref1_Common.f k a b) (B (Nat.gcd (V a) (V b))):=by
 have la:V a < 256^(max a.size b.size):=Nat.lt_of_lt_of_le (V_lt a) (Nat.pow_le_pow_right (by decide) (by omega))
 have lb:V b < 256^(max a.size b.size):=Nat.lt_of_lt_of_le (V_lt b) (Nat.pow_le_pow_right (by decide) (by omega))
 have hK:max a.size b.size≤2000000000:=by omega
 generalize max a.size b.size=K at la lb hK
 simp only [gantref1_Common.f,bare_spec,Option.bind_some]
 generalize V a=m at la ⊢
 generalize V b=n at lb ⊢
 have stop:m=0∨n=0→Ev (fun k=>gantref1_Common.j0 k (B m) (B n) true) (B (Nat.gcd m n)):=by
  intro h
  refine Ev.succ ?_
  simp only [gantref1_Common.j0,if_pos trivial]
  have e:Nat.gcd m n=m+n:=by
   rcases h with h | h
   ·rw [h,Nat.gcd_zero_left,Nat.zero_add]
   rw [h,Nat.gcd_zero_right,Nat.add_zero]
  rw [e]
  exact Ev.bind (f:=fun _ t=>some t) (plusB la lb hK) (Ev.now _)
 by_cases m0:m=0
 ·simp only [if_pos (nilB.2 m0)]
  exact stop (.inl m0)
 simp only [if_neg (fun h=>m0 (nilB.1 h))]
 by_cases n0:n=0
 ·have e:((B n).toList==([]:List UInt8))=true:=by rw [nilB.2 n0]; rfl
  rw [e]
  exact stop (.inr n0)
 have e:((B n).toList==([]:List UInt8))=false:=beq_eq_false_iff_ne.2 fun h=>n0 (nilB.1 h)
 rw [e]
 refine Ev.succ ?_
 simp only [gantref1_Common.j0,Bool.false_eq_true,if_false]
 have:=common_l0 hK (m+n+1) m n 0 (by omega) la lb m0 n0 (by
  rw [Nat.pow_zero,Nat.mul_one]
  exact Nat.lt_of_le_of_lt (Nat.gcd_le_left _ (by omega)) la)
 rwa [Nat.pow_zero,Nat.mul_one] at this
end Go.Proofs.YtkpeembfagcpcaaDoor.SB
end
