import Derived.Test.YtbfpmofhopglfaaGreatDoorYRC
namespace Go.Proofs.YtbfpmofhopglfaaGreatDoor.SB
open Go.RowKit Go.Proofs.YtbfpmofhopglfaaGreatDoor.A Go.Proofs.YtbfpmofhopglfaaGreatDoor.B Go.Proofs.YtbfpmofhopglfaaGreatDoor.C Go.Proofs.YtbfpmofhopglfaaGreatDoor.R Go.Proofs.YtbfpmofhopglfaaGreatDoor.H Go.Proofs.YtbfpmofhopglfaaGreatDoor.M Go.Proofs.YtbfpmofhopglfaaGreatDoor.SA Go.Proofs.YtbfpmofhopglfaaGreatDoorW.PrintWords Go.Proofs.YtbfpmofhopglfaaGreatDoorW.PrintLast Go.Proofs.YtbfpmofhopglfaaGreatDoorW.PrintMore
set_option linter.unusedVariables false
set_option linter.unusedSimpArgs false
def IsRoot (n r:Nat):Prop:=r*r≤n∧n < (r+1)*(r+1)
theorem IsRoot.uniq {n r s:Nat} (h:IsRoot n r) (g:IsRoot n s):r=s:=by
  rcases Nat.lt_trichotomy r s with l | l | l
  · have:=Nat.mul_le_mul (show r+1≤s by omega) (show r+1≤s by omega)
    have:=h.2
    have:=g.1
    omega
  · exact l
  have:=Nat.mul_le_mul (show s+1≤r by omega) (show s+1≤r by omega)
  have:=g.2
  have:=h.1
  omega
theorem V_digit {x:Nat} (h:x < 4):V (strOfNums [(x:Int)])=x∧(strOfNums [(x:Int)]).size=1:=by
  have:∀ y:Fin 4,V (strOfNums [((y.val:Nat):Int)])=y.val∧(strOfNums [((y.val:Nat):Int)]).size=1:=by decide
  exact this ⟨x,h⟩
theorem two_bits {b c:Nat} (hb:b < 2) (hc:c < 2):(wrap64 (wrap64 (2*(b:Int))+(c:Int)))%256=((2*b+c:Nat):Int):=by
  rw [wrap64_id (x:=2*(b:Int)) (by omega) (by omega),wrap64_id (by omega) (by omega)]
  omega
theorem quad_step (v i:Nat):v/4^i=4*(v/4^(i+1))+(2*(v/2^(2*i+1)%2)+v/2^(2*i)%2):=by
  have e:∀ j:Nat,(4:Nat)^j=2^(2*j):=fun j=>by rw [Nat.pow_mul]
  rw [e,e,show 2*(i+1)=2*i+1+1 by omega,Nat.pow_succ,Nat.pow_succ,← Nat.div_div_eq_div_mul,← Nat.div_div_eq_div_mul]
  generalize v/2^(2*i)=q
  omega
theorem idx_two {i:Nat} (h:i < 8000000000):wrap64 (((2*i:Nat):Int)+1)=((2*i+1:Nat):Int)∧wrap64 (2*(i:Int))=((2*i:Nat):Int):=by
  have e:wrap64 (2*(i:Int))=((2*i:Nat):Int):=by rw [wrap64_id (by omega) (by omega)]; omega
  refine ⟨?_,e⟩
  rw [wrap64_id (by omega) (by omega)]
  omega
theorem idx_pred {i:Nat} (h:i < 8000000000):wrap64 ((i:Int) - 1)=(i:Int) - 1:=wrap64_id (by omega) (by omega)
theorem plusB1 {m K:Nat} (h:m < 256^K) (hK:K≤2000000000):Ev (fun k=>gantref1_Plus.f k (B m) ⟨#[1]⟩) (B (m+1)):=by
  have:=plus_spec (B m) ⟨#[1]⟩ (by have:=size_B_le h; omega) (by decide)
  rwa [V_B,V_one] at this
theorem plusBd {m x K:Nat} (h:m < 256^K) (hK:K≤2000000000) (hx:x < 4):Ev (fun k=>gantref1_Plus.f k (B m) (strOfNums [(x:Int)])) (B (m+x)):=by
  obtain ⟨h1,h2⟩:=V_digit hx
  have:=plus_spec (B m) (strOfNums [(x:Int)]) (by have:=size_B_le h; omega) (by omega)
  rwa [V_B,h1] at this
theorem sq_l0 (a:ByteArray) (ha:a.size≤1000000000):∀ (i r m:Nat),i≤4*a.size→r*r+m=V a/4^i→m≤2*r →
    ∃ s,Ev (fun k=>gantref1_Squared.l0 k a (B r) (B m) ((i:Int) - 1)) (B s)∧IsRoot (V a) s:=by
  intro i
  induction i with
  | zero =>
    intro r m hi hq hm
    rw [Nat.pow_zero,Nat.div_one] at hq
    refine ⟨r,?_,by omega,by rw [Nat.add_mul,Nat.mul_add]; omega⟩
    refine Ev.succ ?_
    have g:¬ (((0:Nat):Int) - 1≥0):=by omega
    simp only [gantref1_Squared.l0,if_neg g]
    exact Ev.now _
  | succ i ih =>
    intro r m hi hq hm
    have hstep:=quad_step (V a) i
    rw [← hq] at hstep
    have hb1:V a/2^(2*i+1)%2 < 2:=Nat.mod_lt _ (by decide)
    have hb0:V a/2^(2*i)%2 < 2:=Nat.mod_lt _ (by decide)
    have hle:r*r+m≤V a:=by rw [hq]; exact Nat.div_le_self _ _
    have hv:=V_lt a
    have hr:r≤r*r:=by
      rcases Nat.eq_zero_or_pos r with h | h
      · subst h; exact Nat.le_refl _
      exact Nat.le_mul_of_pos_left r h
    have hK:a.size+1≤2000000000:=by omega
    have hp:256^(a.size+1)=256^a.size*256:=Nat.pow_succ ..
    have hd1 : ∀ d1 d0 : Nat, d1 < 2 → d0 < 2 → V a / 4 ^ i = 4 * (r * r + m) + (2 * d1 + d0) → V a / 2 ^ (2 * i + 1) % 2 = d1 → V a / 2 ^ (2 * i) % 2 = d0 →
        ∃ s,Ev (fun k=>gantref1_Squared.l0 k a (B r) (B m) (((i+1:Nat):Int) - 1)) (B s)∧IsRoot (V a) s:=by
      intro d1 d0 hb1 hb0 hstep e1 e0
      obtain ⟨l1,l2,l3,l4,l5,l6,l7,l8⟩:r < 256^(a.size+1)∧m < 256^(a.size+1)∧m+m < 256^(a.size+1)∧m+m+(m+m) < 256^(a.size+1)∧r+r < 256^(a.size+1)∧r+r+(r+r) < 256^(a.size+1)∧r+r+(r+r)+1 < 256^(a.size+1)∧m+m+(m+m)+(2*d1+d0) < 256^(a.size+1):=by
        rw [hp]
        generalize 256^a.size=P at hv
        generalize r*r=R at hr hle
        clear hstep e1 e0 hq hp ih
        omega
      have wi:(((i+1:Nat):Int) - 1)=(i:Int):=by omega
      have p4:=plusBd (x:=2*d1+d0) l4 hK (by omega)
      have q1:r+r+(r+r)+1≤m+m+(m+m)+(2*d1+d0)→(r+r+1)*(r+r+1)+(m+m+(m+m)+(2*d1+d0) - (r+r+(r+r)+1))=V a/4^i∧m+m+(m+m)+(2*d1+d0) - (r+r+(r+r)+1)≤2*(r+r+1):=fun hge=>by
        have:(r+r+1)*(r+r+1)=4*(r*r)+4*r+1:=by grind
        rw [hstep,this]
        generalize r*r=R
        clear hstep e1 e0 hq hp ih hr hle
        omega
      have q2:¬ r+r+(r+r)+1≤m+m+(m+m)+(2*d1+d0)→(r+r)*(r+r)+(m+m+(m+m)+(2*d1+d0))=V a/4^i∧m+m+(m+m)+(2*d1+d0)≤2*(r+r):=fun hge=>by
        have:(r+r)*(r+r)=4*(r*r):=by grind
        rw [hstep,this]
        generalize r*r=R
        clear hstep e1 e0 hq hp ih hr hle
        omega
      have hi4:i≤4*a.size:=by omega
      have g:((i:Int)≥0):=by omega
      have b1:=bit_spec a (by omega) (2*i+1) (by omega)
      have b0:=bit_spec a (by omega) (2*i) (by omega)
      rw [e1] at b1
      rw [e0] at b0
      obtain ⟨w1,w2⟩:=idx_two (i:=i) (by omega)
      have w3:=idx_pred (i:=i) (by omega)
      have w4:=two_bits hb1 hb0
      have p1:=plusB l1 l1 hK
      have p2:=plusB l2 l2 hK
      have p3:=plusB l3 l3 hK
      have p5:=plusB l5 l5 hK
      have p6:=plusB1 l6 hK
      have p7:=compareB l8 l7 hK
      have p8:=plusB1 l5 hK
      by_cases hge:r+r+(r+r)+1≤m+m+(m+m)+(2*d1+d0)
      · have p9:=lessB l8 l7 hK hge
        obtain ⟨s,h1,h2⟩:=ih (r+r+1) (m+m+(m+m)+(2*d1+d0) - (r+r+(r+r)+1)) hi4 (q1 hge).1 (q1 hge).2
        refine ⟨s,?_,h2⟩
        rw [wi]
        refine Ev.succ ?_
        simp only [gantref1_Squared.l0,if_pos g,w1,w2,b1,b0,Option.bind_some,w4,w3]
        refine Ev.bind p1 (Ev.bind p2 (Ev.bind p3 (Ev.bind p4 (Ev.bind p5 (Ev.bind p6 (Ev.bind p7 ?_))))))
        simp only [if_pos (cmpN_nn.2 hge)]
        exact Ev.bind p8 (Ev.bind p9 h1)
      obtain ⟨s,h1,h2⟩:=ih (r+r) (m+m+(m+m)+(2*d1+d0)) hi4 (q2 hge).1 (q2 hge).2
      refine ⟨s,?_,h2⟩
      rw [wi]
      refine Ev.succ ?_
      simp only [gantref1_Squared.l0,if_pos g,w1,w2,b1,b0,Option.bind_some,w4,w3]
      refine Ev.bind p1 (Ev.bind p2 (Ev.bind p3 (Ev.bind p4 (Ev.bind p5 (Ev.bind p6 (Ev.bind p7 ?_))))))
      simp only [if_neg (fun h=>hge (cmpN_nn.1 h))]
      exact h1
    exact hd1 _ _ hb1 hb0 hstep rfl rfl
theorem squared_spec (a:ByteArray) (ha:a.size≤1000000000):∃ s,Ev (fun k=>gantref1_Squared.f k a) (B s)∧IsRoot (V a) s:=by
  have w1:wrap64 ((wrap64 (4*(a.size:Int))) - 1)=((4*a.size:Nat):Int) - 1:=by
    rw [wrap64_id (x:=4*(a.size:Int)) (by omega) (by omega),wrap64_id (by omega) (by omega)]
    omega
  have h:=sq_l0 a ha (4*a.size) 0 0 (Nat.le_refl _) (by
    have h1:=V_lt a
    rw [show 4^(4*a.size)=256^a.size by rw [Nat.pow_mul]]
    rw [Nat.div_eq_of_lt h1]) (by omega)
  rw [B_zero] at h
  simp only [gantref1_Squared.f,w1]
  exact h
end Go.Proofs.YtbfpmofhopglfaaGreatDoor.SB
