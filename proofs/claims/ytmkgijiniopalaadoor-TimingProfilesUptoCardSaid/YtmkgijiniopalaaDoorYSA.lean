import Derived.Test.YtmkgijiniopalaaDoorYM
import Derived.Test.YtmkgijiniopalaaDoorYA2
namespace Go.Proofs.YtmkgijiniopalaaDoor.SA
open Go.RowKit Go.Proofs.YtmkgijiniopalaaDoor.M Go.Proofs.YtmkgijiniopalaaDoor.A Go.Proofs.YtmkgijiniopalaaDoorW.PrintWords Go.Proofs.YtmkgijiniopalaaDoorW.PrintLast Go.Proofs.YtmkgijiniopalaaDoorW.PrintMore
theorem bt0 (a:ByteArray):bt a 0=((a.data.toList.getD 0 0).toNat:Int):=bt_toList a 0
theorem V_extract1 (a:ByteArray) (h:0 < a.size) (h0:bt a 0=0):V (a.extract 1 a.size)=V a:=by
 rw [bt0] at h0
 have hl:=size_toList a
 unfold V
 rw [extract_toList]
 cases hq:a.data.toList with
 | nil=>rw [hq] at hl; simp at hl; omega
 | cons c l =>
   rw [hq] at h0
   have hc:c.toNat=0:=by simpa using h0
   rw [be_cons,hc]
   simp
theorem size_extract1 (a:ByteArray) (_h:0 < a.size):(a.extract 1 a.size).size=a.size - 1:=by
 have h1:=size_toList (a.extract 1 a.size)
 rw [extract_toList,List.length_drop,size_toList] at h1
 omega
theorem lead_of (a:ByteArray) (h:a.size=0∨bt a 0≠0):B (V a)=a:=by
 apply B_V
 intro c hc
 rcases h with h | h
 ·have hl:=size_toList a
  cases hq:a.data.toList with
  | nil=>rw [hq] at hc; cases hc
  | cons d l=>rw [hq] at hl; simp at hl; omega
 rw [bt0] at h
 cases hq:a.data.toList with
 | nil=>rw [hq] at hc; cases hc
 | cons d l =>
   rw [hq] at hc h
   simp at hc h
   subst hc
   intro e
   exact h (by rw [e]; rfl)
theorem trim_l0 (n:Nat):∀ a:ByteArray,a.size=n→Ev (fun k=>nat_trim.l0 k a) (B (V a)):=by
 induction n with
 | zero =>
   intro a h
   refine Ev.step (f:=fun _=>some (B (V a))) (fun k=>?_) (Ev.now _)
   simp only [nat_trim.l0]
   rw [if_neg (by omega),lead_of a (.inl h)]
 | succ n ih =>
   intro a h
   by_cases h0:bt a 0=0
   ·refine Ev.step (f:=fun k=>nat_trim.l0 k (a.extract 1 a.size)) (fun k=>?_) ?_
    ·simp only [nat_trim.l0]
     rw [if_pos (by omega),if_pos (by omega),if_pos h0,if_pos (by omega)]
    have:=ih (a.extract 1 a.size) (by rw [size_extract1 a (by omega)]; omega)
    rwa [V_extract1 a (by omega) h0] at this
   refine Ev.step (f:=fun _=>some (B (V a))) (fun k=>?_) (Ev.now _)
   simp only [nat_trim.l0]
   rw [if_pos (by omega),if_pos (by omega),if_neg h0,lead_of a (.inr h0)]
theorem trim (a:ByteArray):Ev (fun k=>nat_trim.f k a) (B (V a)):=trim_l0 _ a rfl
theorem be_take_succ (a:ByteArray) (i:Nat) (h:i < a.size):(be (a.data.toList.take (i+1)):Int)=be (a.data.toList.take i)*256+bt a (i:Int):=by
 have h':i < a.data.toList.length:=by rw [size_toList]; exact h
 rw [List.take_succ_eq_append_getElem h',be_snoc,bt_toList,List.getD_eq_getElem?_getD,List.getElem?_eq_getElem h']
 simp
theorem take_lt (a:ByteArray) (i j:Nat) (h:i≤j):be (a.data.toList.take i) < 256^j:=by
 have h1:=be_lt (a.data.toList.take i)
 refine Nat.lt_of_lt_of_le h1 (Nat.pow_le_pow_right (by decide) ?_)
 rw [List.length_take]; omega
theorem wraps_u64 (n:Int) (h₀:0≤n) (h₁:n < 2^64):IntKind.u64.wrap n=n:=by rw [IntKind.wrap_u64]; omega
theorem wraps_u32 (n:Int) (h₀:0≤n) (h₁:n < 2^32):IntKind.u32.wrap n=n:=by rw [IntKind.wrap_u32]; omega
theorem or64 (i:Nat) (x y:Int) (hx₀:0≤x) (hx:x%2^i=0) (hx₁:x < 2^64) (hy₀:0≤y) (hy:y < 2^i) (hy₁:y < 2^64):Go.bits .or .u64 x y=x+y :=
 bits_join .u64 64 (by decide) wraps_u64 i x y hx₀ hx hx₁ hy₀ hy hy₁
theorem or32 (i:Nat) (x y:Int) (hx₀:0≤x) (hx:x%2^i=0) (hx₁:x < 2^32) (hy₀:0≤y) (hy:y < 2^i) (hy₁:y < 2^32):Go.bits .or .u32 x y=x+y :=
 bits_join .u32 32 (by decide) wraps_u32 i x y hx₀ hx hx₁ hy₀ hy hy₁
theorem or32' (i:Nat) (x y:Int) (hx₀:0≤x) (hx:x < 2^i) (hx₁:x < 2^32) (hy₀:0≤y) (hy:y%2^i=0) (hy₁:y < 2^32):Go.bits .or .u32 x y=x+y:=by
 have h:=or32 i y x hy₀ hy hy₁ hx₀ hx hx₁
 have hc:Go.bits .or .u32 x y=Go.bits .or .u32 y x:=by simp only [Go.bits,BitVec.or_comm]
 rw [hc,h,Int.add_comm]
theorem wrap64_succ {i:Int} {n:Nat} (h0:0≤i) (h:i < (n:Int)) (hn:n≤281474976710656):wrap64 (i+1)=i+1:=by
 unfold wrap64; omega
theorem short_l0 (a:ByteArray) (hs:a.size≤8) (d:Nat):∀ i:Nat,i≤a.size→a.size - i=d →
 Ev (fun k=>nat_short.l0 k a (be (a.data.toList.take i)) (a.size:Int) (i:Int)) (V a:Int):=by
 induction d with
 | zero =>
   intro i hi hd
   refine Ev.step (f:=fun _=>some (V a:Int)) (fun k=>?_) (Ev.now _)
   simp only [nat_short.l0]
   rw [if_neg (by omega),List.take_of_length_le (by rw [size_toList]; omega)]
   rfl
 | succ d ih =>
   intro i hi hd
   refine Ev.step (f:=fun k=>nat_short.l0 k a (be (a.data.toList.take (i+1))) (a.size:Int) ((i+1:Nat):Int)) (fun k=>?_) (ih (i+1) (by omega) (by omega))
   simp only [nat_short.l0]
   rw [if_pos (by omega),if_pos (by omega),if_pos (by omega)]
   have hb:=bt_range a (i:Int)
   have h7:be (a.data.toList.take i) < 256^7:=take_lt a i 7 (by omega)
   have h1:IntKind.u64.wrap ((be (a.data.toList.take i):Int)*256)=(be (a.data.toList.take i):Int)*256:=by
    rw [IntKind.wrap_u64]; omega
   have h2:IntKind.u64.wrap (bt a (i:Int))=bt a (i:Int):=by rw [IntKind.wrap_u64]; omega
   rw [h1,h2,or64 8 _ _ (by omega) (by omega) (by omega) (by omega) (by omega) (by omega),be_take_succ a i (by omega),wrap64_succ (n:=8) (by omega) (by omega) (by omega)]
   rfl
theorem short (a:ByteArray) (hs:a.size≤8):Ev (fun k=>nat_short.f k a) (V a:Int):=short_l0 a hs a.size 0 (by omega) (by omega)
def b32:Int:=4294967296
theorem b32_pos:0 < b32:=by decide
theorem pow_b32 (q:Nat):b32^q=256^(4*q):=by
 unfold b32
 rw [Int.pow_mul]
 rfl
theorem rd_le_lv {b:Int} (hb:0 < b):∀ (l:List Int) (i:Nat),InR b l→l.getD i 0*b^i≤lv b l
 | [],i,_=>by simp [lv]
 | x::l,0,h=>by
   have h1:=InR_cons.1 h
   have h2:=Int.mul_nonneg (Int.le_of_lt hb) (lv_nonneg hb h1.2)
   simp [lv]; omega
 | x::l,i+1,h=>by
   have h1:=InR_cons.1 h
   have h2:=rd_le_lv hb l i h1.2
   have h3:=Int.mul_le_mul_of_nonneg_left h2 (Int.le_of_lt hb)
   simp only [List.getD_cons_succ,lv,Int.pow_succ]
   have e:l.getD i 0*(b^i*b)=b*(l.getD i 0*b^i):=by grind
   omega
theorem be_drop_pred (a:ByteArray) (i:Nat) (h:i < a.size):(be (a.data.toList.drop (a.size - (i+1))):Int)=bt a ((a.size - 1 - i:Nat):Int)*256^i+be (a.data.toList.drop (a.size - i)):=by
 have h':a.size - 1 - i < a.data.toList.length:=by rw [size_toList]; omega
 have e1:a.size - (i+1)=a.size - 1 - i:=by omega
 have e2:a.size - i=a.size - 1 - i+1:=by omega
 have e3:(a.data.toList.drop (a.size - 1 - i+1)).length=i:=by rw [List.length_drop,size_toList]; omega
 rw [e1,e2,List.drop_eq_getElem_cons h',be_cons,e3,bt_toList,List.getD_eq_getElem?_getD,List.getElem?_eq_getElem h']
 simp
theorem shl32 {x:Int} {s:Nat} (h0:0≤x) (hx:x < 256) (hs:s≤24):shl .u32 (x%4294967296) (s:Int)=x*2^s:=by
 unfold shl
 have e:min ((s:Int)).toNat IntKind.u32.bits=s:=by
  have:IntKind.u32.bits=32:=rfl
  omega
 have h1:(2:Int)^s≤2^24:=by
  have:=Nat.pow_le_pow_right (n:=2) (by decide) hs
  exact_mod_cast this
 have h2:x%4294967296=x:=by omega
 have h3:0 < (2:Int)^s:=Int.pow_pos (by decide)
 have h4:x*2^s≤255*2^s:=Int.mul_le_mul_of_nonneg_right (by omega) (Int.le_of_lt h3)
 have h5:0≤x*2^s:=Int.mul_nonneg h0 (Int.le_of_lt h3)
 rw [e,h2,IntKind.wrap_u32]
 omega
theorem words_i1 (i:Nat) (h:i≤281474976710656):wrap64 (Int.tdiv (i:Int) 4)=((i/4:Nat):Int):=by
 rw [tdiv_nn (by omega),wrap64_id (by omega) (by omega)]; omega
theorem words_i2 {n i:Nat} (h:i < n) (hn:n≤281474976710656):wrap64 ((wrap64 ((n:Int) - 1)) - (i:Int))=((n - 1 - i:Nat):Int):=by
 rw [wrap64_id (x:=(n:Int) - 1) (by omega) (by omega),wrap64_id (by omega) (by omega)]; omega
theorem words_i3 (i:Nat):wrap64 ((Int.tmod (i:Int) 4)*8)=((8*(i%4):Nat):Int):=by
 rw [tmod_nn (by omega),wrap64_id (by omega) (by omega)]; omega
theorem words_i4 (n:Nat) (h:n≤281474976710656):wrap64 (Int.tdiv (wrap64 ((n:Int)+3)) 4)=(((n+3)/4:Nat):Int):=by
 rw [wrap64_id (x:=(n:Int)+3) (by omega) (by omega),tdiv_nn (by omega),wrap64_id (by omega) (by omega)]; omega
theorem words_l0 (a:ByteArray) (hs:a.size≤140737488351232) (d:Nat):∀ (i:Nat) (x:List Int),i≤a.size→a.size - i=d→x.length=(a.size+3)/4→InR b32 x →
 lv b32 x=be (a.data.toList.drop (a.size - i)) → ∃ l,Ev (fun k=>nat_words.l0 k a x (a.size:Int) (i:Int)) l∧InR b32 l∧l.length=(a.size+3)/4∧lv b32 l=V a:=by
 induction d with
 | zero =>
   intro i x hi hd hl hr hv
   refine ⟨x,Ev.step (f:=fun _=>some x) (fun k=>?_) (Ev.now _),hr,hl,?_⟩
   ·simp only [nat_words.l0]
    rw [if_neg (by omega)]
   rw [hv,show a.size - i=0 by omega]; rfl
 | succ d ih =>
   intro i x hi hd hl hr hv
   have s0:i < a.size:=by omega
   have s00:a.size≤281474976710656:=by omega
   have s3:i≤281474976710656:=by omega
   have hb:=bt_range a ((a.size - 1 - i:Nat):Int)
   have hq:i/4 < x.length:=by omega
   obtain ⟨q,r,hr4,hqr⟩:∃ q r,r < 4∧i=4*q+r:=⟨i/4,i%4,by omega,by omega⟩
   have eq1:i/4=q:=by omega
   have eq2:i%4=r:=by omega
   rw [eq1] at hq
   have g1:(i:Int) < (a.size:Int):=Int.ofNat_lt.2 s0
   have g2:0≤(q:Int)∧(q:Int) < (x.length:Int):=⟨Int.natCast_nonneg q,Int.ofNat_lt.2 hq⟩
   have g3:0≤((a.size - 1 - i:Nat):Int)∧((a.size - 1 - i:Nat):Int) < (a.size:Int):=⟨Int.natCast_nonneg _,Int.ofNat_lt.2 (by clear hv hr hl hb; omega)⟩
   have g4:0≤((8*r:Nat):Int)∧8*r≤24:=⟨Int.natCast_nonneg _,by clear hd hl hs s00 s3 hb; omega⟩
   have ihx:=ih (i+1)
   have g5:i+1≤a.size∧a.size - (i+1)=d:=by omega
   have hrd:=InR_rd b32_pos hr (q:Int)
   have hge:=rd_le_lv b32_pos x q hr
   rw [getD_eq_rd,hv] at hge
   have hlt:(be (a.data.toList.drop (a.size - i)):Int) < 256^i:=by
    have h1:=be_lt (a.data.toList.drop (a.size - i))
    rw [List.length_drop,size_toList,show a.size - (a.size - i)=i by omega] at h1
    exact lt_pow h1
   have hp:(256:Int)^i=2^(8*r)*b32^q:=by
    have e8:(2:Int)^(8*r)=256^r:=by rw [Int.pow_mul]; rfl
    rw [hqr,Int.pow_add,pow_b32,e8,Int.mul_comm]
   have hbq:0 < b32^q:=Int.pow_pos b32_pos
   have hrl:rd x (q:Int) < 2^(8*r):=by
    have h2:rd x (q:Int)*b32^q < 2^(8*r)*b32^q:=by rw [← hp]; exact Int.lt_of_le_of_lt hge hlt
    exact Int.lt_of_mul_lt_mul_right h2 (Int.le_of_lt hbq)
   have hor:Go.bits .or .u32 (rd x (q:Int)) (bt a ((a.size - 1 - i:Nat):Int)*2^(8*r))=rd x (q:Int)+bt a ((a.size - 1 - i:Nat):Int)*2^(8*r)∧rd x (q:Int)+bt a ((a.size - 1 - i:Nat):Int)*2^(8*r) < b32:=by
    unfold b32 at hrd ⊢
    rcases (by omega:r=0∨r=1∨r=2∨r=3) with rfl | rfl | rfl | rfl
    ·exact ⟨or32' 0 _ _ hrd.1 (by simpa using hrl) (by omega) (by omega) (by omega) (by omega),by omega⟩
    ·exact ⟨or32' 8 _ _ hrd.1 (by simpa using hrl) (by omega) (by omega) (by omega) (by omega),by omega⟩
    ·exact ⟨or32' 16 _ _ hrd.1 (by simpa using hrl) (by omega) (by omega) (by omega) (by omega),by omega⟩
    exact ⟨or32' 24 _ _ hrd.1 (by simpa using hrl) (by omega) (by omega) (by omega) (by omega),by omega⟩
   have hnn:0≤bt a ((a.size - 1 - i:Nat):Int)*2^(8*r):=Int.mul_nonneg hb.1 (Int.le_of_lt (Int.pow_pos (by decide)))
   have g0:=Int.lt_of_le_of_lt hb.2 (by decide:(255:Int) < 256)
   have e1:=words_i1 i s3
   have e2:=words_i2 s0 s00
   have e3:=words_i3 i
   rw [eq1] at e1
   rw [eq2] at e3
   have s1:=wrap64_succ (i:=(i:Int)) (n:=a.size) (Int.natCast_nonneg i) (Int.ofNat_lt.2 s0) s00
   have hv2:lv b32 (x.set q (rd x (q:Int)+bt a ((a.size - 1 - i:Nat):Int)*2^(8*r)))=be (a.data.toList.drop (a.size - (i+1))):=by
    rw [lv_set _ _ _ _ hq,be_drop_pred a i (Int.ofNat_lt.1 g1),hp,hv,getD_eq_rd]
    grind
   obtain ⟨l,h1,h2,h3,h4⟩:=ihx (x.set q (rd x (q:Int)+bt a ((a.size - 1 - i:Nat):Int)*2^(8*r))) g5.1 g5.2 (by rw [List.length_set]; exact hl) (InR_set hr q (Int.add_nonneg hrd.1 hnn) hor.2) hv2
   refine ⟨l,Ev.step (f:=fun k=>nat_words.l0 k a (x.set q (rd x (q:Int)+bt a ((a.size - 1 - i:Nat):Int)*2^(8*r))) (a.size:Int) ((i+1:Nat):Int)) (fun k=>?_) h1,h2,h3,h4⟩
   simp only [nat_words.l0]
   rw [e1,e2,e3,if_pos g1,if_pos g2.1,if_pos g2.2,if_pos g3.1,if_pos g3.2,if_pos g4.1,shl32 hb.1 g0 g4.2,hor.1,s1,Int.toNat_natCast,Int.natCast_succ]
theorem words (a:ByteArray) (hs:a.size≤140737488351232):∃ l,Ev (fun k=>nat_words.f k a) l∧Dig b32 l (V a)∧l.length≤(a.size+3)/4:=by
 have ht:=trim a
 have hsz:=size_BV a
 obtain ⟨l,h1,h2,h3,h4⟩:=words_l0 (B (V a)) (by omega) (B (V a)).size 0 (List.replicate (((B (V a)).size+3)/4) 0) (by omega) (by omega) (by rw [List.length_replicate]) (InR_replicate b32_pos _)
  (by rw [lv_zeros,List.drop_of_length_le (by rw [size_toList]; omega)]; rfl)
 rw [V_B] at h4
 refine ⟨l,?_,⟨h2,h4,fun hne=>?_⟩,by omega⟩
 ·refine Ev.bind ht (Ev.congr (fun k=>?_) h1)
  have e:=words_i4 (B (V a)).size (by omega)
  simp only [e]
  rw [if_pos (by omega),if_pos (by omega),Int.toNat_natCast]
  rfl
 have hlen:l.length≠0:=fun e=>hne (List.eq_nil_of_length_eq_zero e)
 have hn0:V a≠0:=by
  intro e
  have e0:(B (V a)).size=0:=B_size_zero.2 e
  rw [e0] at h3
  omega
 have hp:=B_pos_size hn0
 have h5:256^(4*(l.length - 1))≤256^((B (V a)).size - 1):=Nat.pow_le_pow_right (by decide) (by omega)
 rw [pow_b32]
 exact le_pow (Nat.le_trans h5 hp)
theorem lset_ne {l:List Int} {i j:Nat} (v:Int) (h:i≠j):(l.set i v).getD j 0=l.getD j 0:=by
 rw [List.getD_eq_getElem?_getD,List.getD_eq_getElem?_getD,List.getElem?_set_ne h]
theorem lay4 (x:List Int) (k:Nat) (w:Int) (h0:0≤w) (h1:w < 4294967296) (hk:k+3 < x.length) (hz:∀ j,k≤j→j < k+4→x.getD j 0=0) :
 bv ((((x.set k (w/16777216%256)).set (k+1) (w/65536%256)).set (k+2) (w/256%256)).set (k+3) (w%256))=bv x+w*256^(x.length - 4 - k):=by
 rw [bv_set _ _ _ (by simp only [List.length_set]; omega),bv_set _ _ _ (by simp only [List.length_set]; omega),bv_set _ _ _ (by simp only [List.length_set]; omega),bv_set _ _ _ (by omega)]
 simp only [List.length_set]
 rw [lset_ne _ (by omega),lset_ne _ (by omega),lset_ne _ (by omega),lset_ne _ (by omega),lset_ne _ (by omega),lset_ne _ (by omega),
  hz k (by omega) (by omega),hz (k+1) (by omega) (by omega),hz (k+2) (by omega) (by omega),hz (k+3) (by omega) (by omega)]
 obtain ⟨m,hm⟩:∃ m,x.length - 4 - k=m:=⟨_,rfl⟩
 rw [show x.length - 1 - k=m+3 by omega,show x.length - 1 - (k+1)=m+2 by omega,show x.length - 1 - (k+2)=m+1 by omega,show x.length - 1 - (k+3)=m by omega,hm]
 have e:w=w/16777216%256*16777216+w/65536%256*65536+w/256%256*256+w%256:=by omega
 generalize w/16777216%256=a at *
 generalize w/65536%256=b at *
 generalize w/256%256=c at *
 generalize w%256=d at *
 subst e
 simp only [Int.pow_succ]
 generalize (256:Int)^m=p
 grind
theorem text_i (n i:Nat) (h:i < n) (hn:n≤70368744177664):wrap64 (4*(wrap64 ((wrap64 ((n:Int) - 1)) - (i:Int))))=((4*(n - 1 - i):Nat):Int):=by
 rw [wrap64_id (x:=(n:Int) - 1) (by omega) (by omega),wrap64_id (x:=(n:Int) - 1 - i) (by omega) (by omega),wrap64_id (by omega) (by omega)]; omega
theorem wrap64_add (k j:Nat) (h:k+j≤281474976710660):wrap64 ((k:Int)+(j:Int))=((k+j:Nat):Int):=by rw [wrap64_id (by omega) (by omega)]; omega
theorem text_l0 (l:List Int) (hn:l.length≤70368744177664) (hr:InR b32 l) (d:Nat):∀ (i:Nat) (x:List Int),i≤l.length→l.length - i=d→x.length=4*l.length→InR 256 x →
 (∀ j,j < 4*(l.length - i)→x.getD j 0=0)→bv x=lv b32 (l.take i)→Ev (fun k=>nat_text.l0 k l x l (l.length:Int) (i:Int)) (B (lv b32 l).toNat):=by
 induction d with
 | zero =>
   intro i x hi hd hl hx hz hv
   have h1:=trim (strOfNums x)
   have h2:=V_strOfNums hx
   rw [hv,List.take_of_length_le (by omega)] at h2
   have h3:V (strOfNums x)=(lv b32 l).toNat:=by omega
   rw [h3] at h1
   refine Ev.step (f:=fun k=>(nat_trim.f k (strOfNums x)).bind fun t=>some t) (fun k=>?_) (Ev.bind (f:=fun _ t=>some t) h1 (Ev.now _))
   simp only [nat_text.l0]
   rw [if_neg (by omega)]
 | succ d ih =>
   intro i x hi hd hl hx hz hv
   have hw:=InR_rd b32_pos hr (i:Int)
   unfold b32 at hw
   have c0:i < l.length:=by omega
   have c1:4*(l.length - 1 - i)+3 < x.length:=by omega
   have c2:4*l.length - 4 - 4*(l.length - 1 - i)=4*i:=by omega
   have c3:l.length - (i+1)=l.length - 1 - i:=by omega
   have hl4:=lay4 x (4*(l.length - 1 - i)) (rd l (i:Int)) hw.1 hw.2 c1 (fun j h1 h2=>hz j (by omega))
   rw [hl,c2,← pow_b32,hv] at hl4
   have hts:=lv_take_succ b32 l i c0
   rw [getD_eq_rd] at hts
   rw [← hts] at hl4
   have hz2:∀ j,j < 4*(l.length - (i+1))→((((x.set (4*(l.length - 1 - i)) (rd l (i:Int)/16777216%256)).set (4*(l.length - 1 - i)+1) (rd l (i:Int)/65536%256)).set (4*(l.length - 1 - i)+2) (rd l (i:Int)/256%256)).set (4*(l.length - 1 - i)+3) (rd l (i:Int)%256)).getD j 0=0:=by
    intro j hj
    rw [lset_ne _ (by omega),lset_ne _ (by omega),lset_ne _ (by omega),lset_ne _ (by omega)]
    exact hz j (by omega)
   have hx2:InR 256 ((((x.set (4*(l.length - 1 - i)) (rd l (i:Int)/16777216%256)).set (4*(l.length - 1 - i)+1) (rd l (i:Int)/65536%256)).set (4*(l.length - 1 - i)+2) (rd l (i:Int)/256%256)).set (4*(l.length - 1 - i)+3) (rd l (i:Int)%256)) :=
    InR_set (InR_set (InR_set (InR_set hx _ (by omega) (by omega)) _ (by omega) (by omega)) _ (by omega) (by omega)) _ (by omega) (by omega)
   have ihx:=ih (i+1) _ (by omega) (by omega) (by simp only [List.length_set]; exact hl) hx2 hz2 hl4
   have g1:(i:Int) < (l.length:Int):=by omega
   have g2:((4*(l.length - 1 - i):Nat):Int) < (x.length:Int):=by omega
   have g3:((4*(l.length - 1 - i)+1:Nat):Int) < (x.length:Int):=by omega
   have g4:((4*(l.length - 1 - i)+2:Nat):Int) < (x.length:Int):=by omega
   have g5:((4*(l.length - 1 - i)+3:Nat):Int) < (x.length:Int):=by omega
   have g6:4*(l.length - 1 - i)+3≤281474976710660:=by omega
   have e0:=text_i l.length i c0 hn
   have e1:wrap64 (((4*(l.length - 1 - i):Nat):Int)+1)=_:=wrap64_add _ 1 (Nat.le_trans (by clear e0; omega) g6)
   have e2:wrap64 (((4*(l.length - 1 - i):Nat):Int)+2)=_:=wrap64_add _ 2 (Nat.le_trans (by clear e0 e1; omega) g6)
   have e3:wrap64 (((4*(l.length - 1 - i):Nat):Int)+3)=_:=wrap64_add _ 3 g6
   have s1:=wrap64_succ (i:=(i:Int)) (n:=l.length) (Int.natCast_nonneg i) (Int.ofNat_lt.2 c0) (Nat.le_trans hn (by decide))
   refine Ev.step (fun k=>?_) ihx
   simp only [nat_text.l0]
   simp only [e0,e1,e2,e3,s1,Int.toNat_natCast]
   rw [if_pos g1,if_pos (Int.natCast_nonneg _),if_pos g1,if_pos (Int.natCast_nonneg _),if_pos g2,if_pos (Int.natCast_nonneg _),if_pos g3,if_pos (Int.natCast_nonneg _),if_pos g4,if_pos (Int.natCast_nonneg _),if_pos g5]
   rfl
theorem text_m (n:Nat) (hn:n≤70368744177664):wrap64 (4*(n:Int))=((4*n:Nat):Int):=by rw [wrap64_id (by omega) (by omega)]; omega
theorem text (l:List Int) (hn:l.length≤70368744177664) (hr:InR b32 l):Ev (fun k=>nat_text.f k l) (B (lv b32 l).toNat):=by
 have h:=text_l0 l hn hr l.length 0 (List.replicate (4*l.length) 0) (by omega) (by omega) (by rw [List.length_replicate]) (InR_replicate (by decide) _)
  (fun j _=>by rw [List.getD_eq_getElem?_getD,List.getElem?_replicate]; split<;>rfl) (by rw [bv_zeros]; rfl)
 have g:4*l.length≤281474976710656:=by omega
 have e:=text_m l.length hn
 refine Ev.congr (fun k=>?_) h
 unfold nat_text.f
 rw [e,if_pos (Int.natCast_nonneg _),if_pos (by rw [Int.toNat_natCast]; exact g),Int.toNat_natCast]
 rfl
end Go.Proofs.YtmkgijiniopalaaDoor.SA
