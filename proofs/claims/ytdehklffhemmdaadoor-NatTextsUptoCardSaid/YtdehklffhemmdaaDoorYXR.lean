import Derived.Test.YtdehklffhemmdaaDoorYXT
import Derived.Test.YtdehklffhemmdaaDoorYRB
import Derived.Test.YtdehklffhemmdaaDoorYD0
import Derived.Test.YtdehklffhemmdaaDoorYD1
import Derived.Test.YtdehklffhemmdaaDoorYD2
import Derived.Laws.Strings
namespace Go.Proofs.YtdehklffhemmdaaDoor.SB
open Go.RowKit Go.Proofs.YtdehklffhemmdaaDoor.A Go.Proofs.YtdehklffhemmdaaDoor.D Go.Proofs.YtdehklffhemmdaaDoor.H Go.Proofs.YtdehklffhemmdaaDoor.R Go.Proofs.YtdehklffhemmdaaDoor.M Go.Proofs.YtdehklffhemmdaaDoor.SA Go.Proofs.YtdehklffhemmdaaDoorW.PrintWords Go.Proofs.YtdehklffhemmdaaDoorW.PrintLast Go.Proofs.YtdehklffhemmdaaDoorW.PrintMore
set_option linter.unusedVariables false
set_option linter.unusedSimpArgs false
def AllD (s:ByteArray) (i:Nat):Prop:=∀ j,i≤j→j < s.size→48≤bt s (j:Int)∧bt s (j:Int)≤57
noncomputable instance (s:ByteArray) (i:Nat):Decidable (AllD s i):=Classical.propDecidable _
def dv (s:ByteArray):Nat→Nat
  | 0=>0
  | i+1=>dv s i*10+(bt s (i:Int) - 48).toNat
noncomputable def readN (s:ByteArray):ByteArray × Int :=
  if 2000 < s.size then (⟨#[]⟩,2) else if s.size=0∨(1 < s.size∧bt s 0=48) ∨ ¬ AllD s 0 then (⟨#[]⟩,15) else (B (dv s s.size),0)
theorem allD_no {s:ByteArray} {i:Nat} (hi:i < s.size) (h:bt s (i:Int) < 48∨57 < bt s (i:Int)):¬ AllD s i:=fun g=>by
  have:=g i (Nat.le_refl _) hi
  omega
theorem allD_cons {s:ByteArray} {i:Nat} (hi:i < s.size) (h1:48≤bt s (i:Int)) (h2:bt s (i:Int)≤57):AllD s i↔AllD s (i+1):=by
  constructor
  · intro g j hj hs
    exact g j (by omega) hs
  intro g j hj hs
  by_cases e:j=i
  · subst e; exact ⟨h1,h2⟩
  exact g j (by omega) hs
theorem rd_l1 (s:ByteArray) (R:ByteArray × Int) (n i:Int):∀ (d k:Nat) (x:List Int) (r:Int),k+d=x.length→x.length≤35184372088831→InR b32 x→0≤r→r≤9 →
    (∀ x':List Int,x'.length≤x.length+1→InR b32 x' → lv b32 x' = lv b32 (x.take k)+b32^k*(10*lv b32 (x.drop k)+r)→Ev (fun q=>nat_Read.l0 q s x' n (wrap64 (i+1))) R) →
    Ev (fun q=>nat_Read.l1 q s x r n i (x.length:Int) (k:Int)) R
  | 0,k,x,r,hk,hn,hr,h0,h1,hc=>by
    have b0:b32=4294967296:=rfl
    have e0:lv b32 (x.take k)=lv b32 x:=by rw [List.take_of_length_le (by omega)]
    have e1:lv b32 (x.drop k)=0:=by rw [List.drop_of_length_le (by omega)]; rfl
    by_cases hz:r > 0
    · have e2:r%4294967296=r:=by omega
      have:=hc (x++[r]) (by simp) (fun y hy=>by
        rcases List.mem_append.1 hy with hy | hy
        · exact hr y hy
        · rw [List.mem_singleton.1 hy,b0]; omega) (by
        rw [lv_snoc,e0,e1,show x.length=k by omega]
        grind)
      refine Ev.step (fun q=>?_) this
      simp only [nat_Read.l1]
      rw [if_neg (by omega),if_pos hz,if_pos (by omega),e2]
    have hz0:r=0:=by omega
    subst hz0
    have:=hc x (by omega) hr (by rw [e0,e1]; grind)
    refine Ev.step (fun q=>?_) this
    simp only [nat_Read.l1]
    rw [if_neg (by omega),if_neg hz]
  | d+1,k,x,r,hk,hn,hr,h0,h1,hc=>by
    have hlt:k < x.length:=by omega
    have hw:=InR_rd b32_pos hr (k:Int)
    have b0:b32=4294967296:=rfl
    have e1:IntKind.u64.wrap (rd x (k:Int))=rd x (k:Int):=wraps_u64 _ (by omega) (by omega)
    have e2:IntKind.u64.wrap (10*rd x (k:Int))=10*rd x (k:Int):=wraps_u64 _ (by omega) (by omega)
    have e3:IntKind.u64.wrap (r+10*rd x (k:Int))=r+10*rd x (k:Int):=wraps_u64 _ (by omega) (by omega)
    have w1:wrap64 ((k:Int)+1)=((k+1:Nat):Int):=by rw [wrap64_id (by omega) (by omega)]; rfl
    have q0:0≤(r+10*rd x (k:Int))%4294967296∧(r+10*rd x (k:Int))%4294967296 < 4294967296:=by omega
    have q1:0≤(r+10*rd x (k:Int))/4294967296∧(r+10*rd x (k:Int))/4294967296≤9:=by omega
    have hd:r+10*rd x (k:Int)=(r+10*rd x (k:Int))%4294967296+b32*((r+10*rd x (k:Int))/4294967296):=by rw [b0]; omega
    have hr2:InR b32 (x.set k ((r+10*rd x (k:Int))%4294967296)):=InR_set hr k q0.1 (by rw [b0]; exact q0.2)
    have ih:=rd_l1 s R n i d (k+1) (x.set k ((r+10*rd x (k:Int))%4294967296)) ((r+10*rd x (k:Int))/4294967296) (by rw [List.length_set]; omega) (by rw [List.length_set]; exact hn) hr2 q1.1 q1.2 (fun x' hl hR hS=>hc x' (by rw [List.length_set] at hl; exact hl) hR (by
      rw [hS,List.drop_set_of_lt (Nat.lt_succ_self _),lv_take_succ _ _ _ (by rw [List.length_set]; exact hlt),List.take_set_of_le (Nat.le_refl _),lv_drop b32 x k hlt,List.getD_eq_getElem?_getD,List.getElem?_set_self hlt,Option.getD_some,Int.pow_succ]
      generalize (r+10*rd x (k:Int))%4294967296=a at *
      generalize (r+10*rd x (k:Int))/4294967296=c at *
      generalize lv b32 (List.drop (k+1) x)=D
      generalize lv b32 (List.take k x)=T
      generalize b32^k=p
      generalize rd x (k:Int)=u at *
      grind))
    rw [List.length_set] at ih
    refine Ev.step (fun q=>?_) ih
    simp only [nat_Read.l1]
    rw [if_pos (by omega),if_pos (by omega),if_pos (by omega),e1,e2,e3,w1,Int.toNat_natCast]
theorem rd_l0 (s:ByteArray) (hs:s.size≤2000):∀ (d i:Nat) (x:List Int),i+d=s.size→x.length≤i→InR b32 x→lv b32 x=dv s i →
    Ev (fun k=>nat_Read.l0 k s x (s.size:Int) (i:Int)) (if AllD s i then (B (dv s s.size),0) else (⟨#[]⟩,15))
  | 0,i,x,hd,hl,hr,hv=>by
    have hA:AllD s i:=fun j h1 h2=>by omega
    rw [if_pos hA]
    have ht:=text x (by omega) hr
    rw [hv,Int.toNat_natCast,show i=s.size by omega] at ht
    refine Ev.step (f:=fun k=>(nat_text.f k x).bind fun t=>some (t,0)) (fun k=>?_) (Ev.bind ht (Ev.now _))
    simp only [nat_Read.l0]
    rw [if_neg (by omega)]
  | d+1,i,x,hd,hl,hr,hv=>by
    have hi:i < s.size:=by omega
    have hb:=bt_range s (i:Int)
    by_cases h1:bt s (i:Int) < 48
    · rw [if_neg (allD_no hi (.inl h1))]
      refine Ev.step (f:=fun k=>nat_Read.j2 k s x (i:Int) (s.size:Int) (i:Int) true) (fun k=>?_) (Ev.step (f:=fun _=>some (⟨#[]⟩,15)) (fun k=>?_) (Ev.now _))
      · simp only [nat_Read.l0]
        rw [if_pos (by omega),if_pos (by omega),if_pos (by omega),if_pos h1]
      simp only [nat_Read.j2,if_true]
    by_cases h2:bt s (i:Int) > 57
    · rw [if_neg (allD_no hi (.inr h2))]
      refine Ev.step (f:=fun k=>nat_Read.j2 k s x (i:Int) (s.size:Int) (i:Int) true) (fun k=>?_) (Ev.step (f:=fun _=>some (⟨#[]⟩,15)) (fun k=>?_) (Ev.now _))
      · simp only [nat_Read.l0]
        rw [if_pos (by omega),if_pos (by omega),if_pos (by omega),if_neg h1,decide_eq_true h2]
      simp only [nat_Read.j2,if_true]
    have hA:=allD_cons hi (by omega) (by omega)
    have ea:(bt s (i:Int) - 48)%256=bt s (i:Int) - 48:=by omega
    have w1:wrap64 ((i:Int)+1)=((i+1:Nat):Int):=by rw [wrap64_id (by omega) (by omega)]; rfl
    have hl1:=rd_l1 s (if AllD s i then (B (dv s s.size),0) else (⟨#[]⟩,15)) (s.size:Int) (i:Int) x.length 0 x (bt s (i:Int) - 48) (by omega) (by omega) hr (by omega) (by omega) (fun x' hl' hR hS=>by
      rw [w1]
      have ih:=rd_l0 s hs d (i+1) x' (by omega) (by omega) hR (by
        rw [hS]
        have e:((bt s (i:Int) - 48).toNat:Int)=bt s (i:Int) - 48:=by omega
        show _=((dv s i*10+(bt s (i:Int) - 48).toNat:Nat):Int)
        push_cast
        rw [e]
        simp only [List.take_zero,List.drop_zero,lv,Int.pow_zero,hv]
        omega)
      rw [show (if AllD s i then (B (dv s s.size),(0:Int)) else (⟨#[]⟩,15))=if AllD s (i+1) then (B (dv s s.size),0) else (⟨#[]⟩,15) by simp only [hA]]
      exact ih)
    refine Ev.step (f:=fun k=>nat_Read.j2 k s x (i:Int) (s.size:Int) (i:Int) false) (fun k=>?_) (Ev.step (fun k=>?_) hl1)
    · simp only [nat_Read.l0]
      rw [if_pos (by omega),if_pos (by omega),if_pos (by omega),if_neg h1,decide_eq_false h2]
    simp only [nat_Read.j2]
    rw [if_neg (by decide),if_pos (by omega),if_pos (by omega),ea]
    rfl
theorem toList_nil {s:ByteArray}:s.toList=[]↔s.size=0:=by
  rw [ByteArray.toList_eq,← size_toList,List.length_eq_zero_iff]
theorem read_spec (s:ByteArray):Ev (fun k=>nat_Read.f k s) (readN s):=by
  unfold readN
  by_cases h0:2000 < s.size
  · rw [if_pos h0]
    refine Ev.congr (f:=fun _=>some (⟨#[]⟩,2)) (fun k=>?_) (Ev.now _)
    unfold nat_Read.f
    rw [if_pos (by omega)]
  rw [if_neg h0]
  have bad:Ev (fun k=>nat_Read.j0 k s true) (⟨#[]⟩,15):=by
    refine Ev.step (f:=fun _=>some (⟨#[]⟩,15)) (fun k=>?_) (Ev.now _)
    simp only [nat_Read.j0,if_true]
  have good:Ev (fun k=>nat_Read.j0 k s false) (if AllD s 0 then (B (dv s s.size),0) else (⟨#[]⟩,15)):=by
    refine Ev.step (fun k=>?_) (rd_l0 s (by omega) s.size 0 [] (by omega) (by simp) (fun y hy=>by cases hy) rfl)
    simp only [nat_Read.j0]
    rw [if_neg (by decide)]
    rfl
  by_cases h1:s.size=0
  · rw [if_pos (.inl h1)]
    refine Ev.congr (fun k=>?_) bad
    unfold nat_Read.f
    rw [if_neg (by omega),if_pos (toList_nil.2 h1)]
  by_cases h2:1 < s.size
  · by_cases h3:bt s 0=48
    · rw [if_pos (.inr (.inl ⟨h2,h3⟩))]
      refine Ev.congr (fun k=>?_) bad
      unfold nat_Read.f
      rw [if_neg (by omega),if_neg (fun h=>h1 (toList_nil.1 h)),if_pos (by omega),if_pos (by omega),h3]
      rfl
    have e:(if s.size=0∨(1 < s.size∧bt s 0=48) ∨ ¬ AllD s 0 then ((⟨#[]⟩,15):ByteArray × Int) else (B (dv s s.size),0))=if AllD s 0 then (B (dv s s.size),0) else (⟨#[]⟩,15):=by
      by_cases hA:AllD s 0
      · rw [if_neg (by simp [h1,h3,hA]),if_pos hA]
      rw [if_pos (.inr (.inr hA)),if_neg hA]
    rw [e]
    refine Ev.congr (fun k=>?_) good
    unfold nat_Read.f
    have hf:(bt s 0==48)=false:=by simpa using h3
    rw [if_neg (by omega),if_neg (fun h=>h1 (toList_nil.1 h)),if_pos (by omega),if_pos (by omega),hf]
  have e:(if s.size=0∨(1 < s.size∧bt s 0=48) ∨ ¬ AllD s 0 then ((⟨#[]⟩,15):ByteArray × Int) else (B (dv s s.size),0))=if AllD s 0 then (B (dv s s.size),0) else (⟨#[]⟩,15):=by
    by_cases hA:AllD s 0
    · rw [if_neg (by simp [h1,h2,hA]),if_pos hA]
    rw [if_pos (.inr (.inr hA)),if_neg hA]
  rw [e]
  refine Ev.congr (fun k=>?_) good
  unfold nat_Read.f
  rw [if_neg (by omega),if_neg (fun h=>h1 (toList_nil.1 h)),if_neg (by omega)]
theorem szB {n j:Nat} (h:n < 10^j):(B n).size≤j:=size_B_le (Nat.lt_of_lt_of_le h (Nat.pow_le_pow_left (by decide) _))
theorem nu_l0 (s:ByteArray) (hs:s.size≤2000) (hA:AllD s 0):∀ (m j σ:Nat),m+j=s.size→dv s s.size=dv s m*10^j+σ→σ < 10^j →
    Ev (fun k=>gantref1_Numeral.l0 k s (B σ) (B (10^j)) ((m:Int) - 1)) (B (dv s s.size),0)
  | 0,j,σ,hm,hd,hσ=>by
    have e:dv s s.size=σ:=by rw [hd]; show 0*_+_=_; omega
    rw [e]
    refine Ev.step (f:=fun _=>some (B σ,0)) (fun k=>?_) (Ev.now _)
    simp only [gantref1_Numeral.l0]
    rw [if_neg (by omega)]
  | m+1,j,σ,hm,hd,hσ=>by
    have hb:=hA m (by omega) (by omega)
    have ei:(((m+1:Nat):Int) - 1)=(m:Int):=by omega
    have ea:(bt s (m:Int) - 48)%256=bt s (m:Int) - 48:=by omega
    obtain ⟨c,hc⟩:∃ c,c=(bt s (m:Int) - 48).toNat:=⟨_,rfl⟩
    have hc9:c≤9:=by omega
    have hp:10^(j+1)=10^j*10:=Nat.pow_succ ..
    have hcj:10^j*c≤10^j*9:=Nat.mul_le_mul_left _ hc9
    have s1:(B σ).size≤j+1:=szB (by omega)
    have s2:(B (10^j)).size≤j+1:=szB (by omega)
    have s3:(B c).size≤1:=szB (show c < 10 by omega)
    have s4:(B (10^j*c)).size≤j+1:=szB (by omega)
    have t1:=small_spec (bt s (m:Int) - 48) (by omega) (by omega)
    rw [← hc] at t1
    have t2:=times_spec (B (10^j)) (B c) (by omega) (by omega)
    rw [V_B,V_B] at t2
    have t3:=plus_spec (B σ) (B (10^j*c)) (by omega) (by omega)
    rw [V_B,V_B] at t3
    have e10:(⟨#[10]⟩:ByteArray)=B 10:=by decide +kernel
    have t4:=times_spec (B (10^j)) (B 10) (by omega) (by rw [← e10]; decide)
    rw [V_B,V_B,← hp] at t4
    have w1:wrap64 ((m:Int) - 1)=(m:Int) - 1:=wrap64_id (by omega) (by omega)
    have ih:=nu_l0 s hs hA m (j+1) (σ+10^j*c) (by omega) (by
      rw [hd,hp]
      show (dv s m*10+_)*10^j+σ=_
      rw [← hc]
      generalize 10^j=p
      generalize dv s m=q
      grind) (by omega)
    refine Ev.step (f:=fun k=>(gantref1_Small.f k ((bt s (m:Int) - 48)%256)).bind fun t150=>(gantref1_Times.f k (B (10^j)) t150).bind fun t151=>(gantref1_Plus.f k (B σ) t151).bind fun t152=>(gantref1_Times.f k (B (10^j)) ⟨#[10]⟩).bind fun t153=>gantref1_Numeral.l0 k s t152 t153 (wrap64 ((m:Int) - 1))) (fun k=>?_) ?_
    · simp only [gantref1_Numeral.l0]
      rw [ei,if_pos (by omega),if_pos (by omega),if_pos (by omega)]
    rw [ea,e10,w1]
    exact Ev.bind t1 (Ev.bind t2 (Ev.bind t3 (Ev.bind t4 ih)))
theorem ten_iff (b:UInt8):tenDigits.data.toList.contains b=true↔48≤b.toNat∧b.toNat≤57:=by
  have h:∀ n:Fin 256,([48,49,50,51,52,53,54,55,56,57]:List UInt8).contains (UInt8.ofNat n.val)=decide (48≤n.val∧n.val≤57):=by decide +kernel
  have:=h ⟨b.toNat,b.toNat_lt⟩
  rw [UInt8.ofNat_toNat] at this
  show ([48,49,50,51,52,53,54,55,56,57]:List UInt8).contains b=true↔_
  rw [this,decide_eq_true_iff]
theorem allD_iff (s:ByteArray):AllD s 0 ↔ ∀ b∈s.data.toList,tenDigits.data.toList.contains b=true:=by
  constructor
  · intro h b hb
    obtain ⟨j,hj,rfl⟩:=List.getElem_of_mem hb
    have hs:=size_toList s
    have:=h j (Nat.zero_le _) (by omega)
    rw [bt_toList,List.getD_eq_getElem?_getD,List.getElem?_eq_getElem hj,Option.getD_some] at this
    exact (ten_iff _).2 (by omega)
  intro h j _ hj
  have hs:=size_toList s
  have hj':j < s.data.toList.length:=by omega
  have:=(ten_iff _).1 (h _ (List.getElem_mem hj'))
  rw [bt_toList,List.getD_eq_getElem?_getD,List.getElem?_eq_getElem hj',Option.getD_some]
  omega
theorem dw_nil (p:UInt8→Bool) (l:List UInt8):l.dropWhile p=[] ↔ ∀ b∈l,p b=true:=by
  induction l with
  | nil=>simp
  | cons a l ih=>simp only [List.dropWhile_cons]; split<;>simp_all
theorem trim_iff (l cs:List UInt8):Lib.trimS l cs=[] ↔ ∀ b∈l,cs.contains b=true:=by
  unfold Lib.trimS Lib.trimLeftS Lib.trimRightS
  rw [dw_nil]
  constructor
  · intro h b hb
    have h2:=List.head?_dropWhile_not (cs.contains ·) l.reverse
    cases hd:(l.reverse.dropWhile (cs.contains ·)) with
    | nil=>exact (dw_nil _ _).1 hd b (List.mem_reverse.2 hb)
    | cons y t =>
      rw [hd] at h2
      have:=h y (by rw [hd]; simp)
      simp only [List.head?_cons] at h2
      rw [h2] at this
      cases this
  intro h b hb
  exact h b (List.mem_reverse.1 ((List.dropWhile_sublist _).subset (List.mem_reverse.1 hb)))
theorem numeral_spec (s:ByteArray):Ev (fun k=>gantref1_Numeral.f k s) (readN s):=by
  unfold readN
  by_cases h0:2000 < s.size
  · rw [if_pos h0]
    refine Ev.congr (f:=fun _=>some (⟨#[]⟩,2)) (fun k=>?_) (Ev.now _)
    unfold gantref1_Numeral.f
    rw [if_pos (by omega)]
  rw [if_neg h0]
  have ht:strings_Trim.f s (⟨#[48,49,50,51,52,53,54,55,56,57]⟩:ByteArray)=some ⟨(Lib.trimS s.data.toList tenDigits.data.toList).toArray⟩:=by
    unfold strings_Trim.f
    rw [if_pos ⟨rfl,by omega⟩]
  have bad:Ev (fun k=>gantref1_Numeral.j0 k s true) (⟨#[]⟩,15):=by
    refine Ev.step (f:=fun _=>some (⟨#[]⟩,15)) (fun k=>?_) (Ev.now _)
    simp only [gantref1_Numeral.j0,if_true]
  have htl:(⟨(Lib.trimS s.data.toList tenDigits.data.toList).toArray⟩:ByteArray).toList=[]↔AllD s 0:=by
    rw [allD_iff,← trim_iff,ByteArray.toList_eq]
  have good:AllD s 0→Ev (fun k=>gantref1_Numeral.j0 k s false) (B (dv s s.size),0):=fun hA=>by
    have w1:wrap64 ((s.size:Int) - 1)=(s.size:Int) - 1:=wrap64_id (by omega) (by omega)
    have h:=nu_l0 s (by omega) hA s.size 0 0 (by omega) (by simp) (by decide)
    have e1:(B (10^0))=⟨#[1]⟩:=by decide +kernel
    rw [B_zero,e1] at h
    refine Ev.step (fun k=>?_) h
    simp only [gantref1_Numeral.j0]
    rw [if_neg (by decide),w1]
  by_cases hA:AllD s 0
  rotate_left
  · rw [if_pos (.inr (.inr hA))]
    refine Ev.congr (fun k=>?_) bad
    unfold gantref1_Numeral.f
    rw [if_neg (by omega),ht,Option.bind_some,if_neg (fun h=>hA (htl.1 h))]
  by_cases h1:s.size=0
  · rw [if_pos (.inl h1)]
    refine Ev.congr (fun k=>?_) bad
    unfold gantref1_Numeral.f
    rw [if_neg (by omega),ht,Option.bind_some,if_pos (htl.2 hA),if_pos (toList_nil.2 h1)]
  have n1:¬ s.toList=[]:=fun h=>h1 (toList_nil.1 h)
  by_cases h2:1 < s.size
  · have n2 : ¬ s.toList = [48] := fun h => by
      have:=congrArg List.length h
      rw [ByteArray.toList_eq,size_toList] at this
      simp at this
      omega
    by_cases h3:bt s 0=48
    · rw [if_pos (.inr (.inl ⟨h2,h3⟩))]
      refine Ev.congr (fun k=>?_) bad
      unfold gantref1_Numeral.f
      rw [if_neg (by omega),ht,Option.bind_some,if_pos (htl.2 hA),if_neg n1,if_neg n2,if_pos (by omega),h3]
      rfl
    rw [if_neg (by simp [h1,h3,hA])]
    have hf:(bt s 0==48)=false:=by simpa using h3
    refine Ev.congr (fun k=>?_) (good hA)
    unfold gantref1_Numeral.f
    rw [if_neg (by omega),ht,Option.bind_some,if_pos (htl.2 hA),if_neg n1,if_neg n2,if_pos (by omega),hf]
  rw [if_neg (by simp [h1,h2,hA])]
  refine Ev.congr (fun k=>?_) (good hA)
  unfold gantref1_Numeral.f
  rw [if_neg (by omega),ht,Option.bind_some,if_pos (htl.2 hA),if_neg n1]
  by_cases n2:s.toList=[48]
  · rw [if_pos n2]
  have hf:(bt s 0==48)=false:=by
    rw [beq_eq_false_iff_ne]
    intro h3
    apply n2
    have hz:=size_toList s
    rw [bt0] at h3
    rw [ByteArray.toList_eq]
    cases hq:s.data.toList with
    | nil=>rw [hq] at hz; simp at hz; omega
    | cons c t =>
      rw [hq] at hz h3
      simp at hz h3
      have ht0:t=[]:=List.length_eq_zero_iff.1 (by omega)
      subst ht0
      congr 1
      exact UInt8.toNat_inj.1 (by rw [show (48:UInt8).toNat=48 from rfl]; omega)
  rw [if_neg n2,if_pos (by omega),hf]
end Go.Proofs.YtdehklffhemmdaaDoor.SB
