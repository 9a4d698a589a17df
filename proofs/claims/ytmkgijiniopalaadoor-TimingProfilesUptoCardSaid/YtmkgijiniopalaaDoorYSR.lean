import Derived.Test.YtmkgijiniopalaaDoorYSA
import Derived.Test.YtmkgijiniopalaaDoorYHB
import Derived.Test.YtmkgijiniopalaaDoorYB0
import Derived.Test.YtmkgijiniopalaaDoorYB1
import Derived.Test.YtmkgijiniopalaaDoorYC0
import Derived.Test.YtmkgijiniopalaaDoorYC1
import Derived.Test.YtmkgijiniopalaaDoorYC2
import Derived.Test.YtmkgijiniopalaaDoorYKD
import Derived.Lib.ItoaNum
set_option linter.unusedSimpArgs false
set_option linter.unusedVariables false
section
namespace Go.Proofs.YtmkgijiniopalaaDoor.SB
open Go.RowKit Go.Proofs.YtmkgijiniopalaaDoor.M Go.Proofs.YtmkgijiniopalaaDoor.SA Go.Proofs.YtmkgijiniopalaaDoor.A Go.Proofs.YtmkgijiniopalaaDoor.H Go.Proofs.YtmkgijiniopalaaDoor.B Go.Proofs.YtmkgijiniopalaaDoorW.PrintWords Go.Proofs.YtmkgijiniopalaaDoorW.PrintLast Go.Proofs.YtmkgijiniopalaaDoorW.PrintMore
theorem toList_data (a:ByteArray):a.toList=a.data.toList:=ByteArray.toList_eq a
theorem toList_B (n:Nat):(B n).toList=bytesOf n:=by rw [toList_data,B_toList]
theorem Ev.ret {α:Type} (r:α):Ev (fun _=>some r) r:=Ev.now r
theorem of_spec (n:Int) (h:n < 9223372036854775808):nat_Of.f n=some (B n.toNat):=by
 unfold nat_Of.f
 by_cases h1:n < 1
 ·rw [if_pos h1,show n.toNat=0 by omega,B_zero]
 rw [if_neg h1]
 have e:IntKind.u64.wrap n=n:=by rw [IntKind.wrap_u64]; omega
 unfold nat_fromShort.f
 rw [e,if_pos (by omega)]
 rfl
def cmpN (a b:Nat):Int:=if a < b then -1 else if a=b then 0 else 1
end Go.Proofs.YtmkgijiniopalaaDoor.SB
end
section
namespace Go.Proofs.YtmkgijiniopalaaDoor.SB
open Go.RowKit Go.Proofs.YtmkgijiniopalaaDoor.M Go.Proofs.YtmkgijiniopalaaDoor.SA Go.Proofs.YtmkgijiniopalaaDoor.A Go.Proofs.YtmkgijiniopalaaDoor.H Go.Proofs.YtmkgijiniopalaaDoor.B Go.Proofs.YtmkgijiniopalaaDoorW.PrintWords Go.Proofs.YtmkgijiniopalaaDoorW.PrintLast Go.Proofs.YtmkgijiniopalaaDoorW.PrintMore
theorem getD_replicate (n:Nat) (j:Nat):(List.replicate n (0:Int)).getD j 0=0:=by
 rw [List.getD_eq_getElem?_getD,List.getElem?_replicate]; split<;>rfl
theorem compareBytes_be:∀ (l m:List UInt8),l.length=m.length→Lib.compareBytes l m=cmpN (be l) (be m)
 | [],[],_=>by simp [Lib.compareBytes,cmpN,be_nil]
 | [],_::_,h=>by simp at h
 | _::_,[],h=>by simp at h
 | c::l,d::m,h=>by
   have hl:l.length=m.length:=by simpa using h
   have ih:=compareBytes_be l m hl
   have h1:=be_lt l
   have h2:=be_lt m
   rw [hl] at h1
   have hp:0 < 256^m.length:=Nat.pow_pos (by decide)
   simp only [Lib.compareBytes]
   rw [be_cons,be_cons,hl]
   by_cases hcd:c < d
   ·have:c.toNat+1≤d.toNat:=UInt8.lt_iff_toNat_lt.1 hcd
    have hm:=Nat.mul_le_mul_right (256^m.length) this
    rw [Nat.add_mul] at hm
    rw [if_pos hcd]
    unfold cmpN
    rw [if_pos (by omega)]
   by_cases hdc:d < c
   ·have:d.toNat+1≤c.toNat:=UInt8.lt_iff_toNat_lt.1 hdc
    have hm:=Nat.mul_le_mul_right (256^m.length) this
    rw [Nat.add_mul] at hm
    rw [if_neg hcd,if_pos hdc]
    unfold cmpN
    rw [if_neg (by omega),if_neg (by omega)]
   have e:c.toNat=d.toNat:=by
    have h3:¬ c.toNat < d.toNat:=fun h=>hcd (UInt8.lt_iff_toNat_lt.2 h)
    have h4:¬ d.toNat < c.toNat:=fun h=>hdc (UInt8.lt_iff_toNat_lt.2 h)
    omega
   rw [if_neg hcd,if_neg hdc,ih,e]
   unfold cmpN
   generalize d.toNat*256^m.length=p
   (repeat' split)<;>omega
theorem lt_of_size_lt {m n:Nat} (h:(B m).size < (B n).size):m < n:=by
 apply Nat.lt_of_not_le
 intro hle
 have h1:m < 256^(B m).size:=lt_of_size_B (Nat.le_refl _)
 have:=size_B_le (n:=n) (k:=(B m).size) (by omega)
 omega
theorem cmp_spec (a b:ByteArray):Ev (fun k=>nat_Cmp.f k a b) (cmpN (V a) (V b)):=by
 refine Ev.bind (trim a) ?_
 refine Ev.bind (trim b) ?_
 by_cases h1:(B (V a)).size < (B (V b)).size
 ·have hlt:=lt_of_size_lt h1
  have g:((B (V a)).size:Int) < ((B (V b)).size:Int):=by omega
  simp only [if_pos g]
  unfold cmpN
  rw [if_pos hlt]
  exact Ev.now _
 have g:¬ ((B (V a)).size:Int) < ((B (V b)).size:Int):=by omega
 simp only [if_neg g]
 by_cases h2:(B (V b)).size < (B (V a)).size
 ·have hlt:=lt_of_size_lt h2
  have g2:((B (V a)).size:Int) > ((B (V b)).size:Int):=by omega
  simp only [if_pos g2]
  unfold cmpN
  rw [if_neg (by omega),if_neg (by omega)]
  exact Ev.now _
 have g2:¬ ((B (V a)).size:Int) > ((B (V b)).size:Int):=by omega
 have hl:(B (V a)).data.toList.length=(B (V b)).data.toList.length:=by rw [size_toList,size_toList]; omega
 have hc:=compareBytes_be _ _ hl
 change Lib.compareBytes _ _=cmpN (V (B (V a))) (V (B (V b))) at hc
 rw [V_B,V_B] at hc
 simp only [if_neg g2,strings_Compare.f,hc,Option.bind_some]
 exact Ev.now _
theorem u64_sub {t:Int} (h0:-9223372036854775808≤t) (h1:t < 9223372036854775808):(0≤t∧IntKind.u64.wrap t=t)∨(t < 0∧IntKind.u64.wrap t=t+18446744073709551616):=by
 rw [IntKind.wrap_u64]
 by_cases h:0≤t
 ·left; omega
 right; omega
theorem sub_digit2 {t:Int} (h0:-4294967296≤t) (h1:t < 4294967296):∃ e:Int,(e=0∨e=1)∧IntKind.u64.wrap t%4294967296=t+e*4294967296∧0≤t+e*4294967296∧t+e*4294967296 < 4294967296∧IntKind.u64.wrap t/9223372036854775808=e:=by
 rcases u64_sub (t:=t) (by omega) (by omega) with ⟨h,e⟩ | ⟨h,e⟩
 ·exact ⟨0,.inl rfl,by rw [e]; omega,by omega,by omega,by rw [e]; omega⟩
 exact ⟨1,.inr rfl,by rw [e]; omega,by omega,by omega,by rw [e]; omega⟩
theorem u64_id {t:Int} (h0:0≤t) (h1:t < 18446744073709551616):IntKind.u64.wrap t=t:=by rw [IntKind.wrap_u64]; omega
theorem u64_wrap_sub (t y:Int):IntKind.u64.wrap (IntKind.u64.wrap t - y)=IntKind.u64.wrap (t - y):=by
 rw [IntKind.wrap_u64,IntKind.wrap_u64,IntKind.wrap_u64]; omega
theorem lv_take_all (b:Int) (y:List Int) {i j:Nat} (hi:y.length≤i) (hj:y.length≤j):lv b (y.take i)=lv b (y.take j):=by
 rw [lv_take_ge b y i hi,lv_take_ge b y j hj]
theorem nless_l0 (y:List Int) (hy:InR b32 y) (x0:Int) (n:Nat) (hn:n≤281474976710656) (d:Nat):∀ (i:Nat) (x:List Int) (c:Int),i≤n→n - i=d→x.length=n→InR b32 x→(c=0∨c=1) →
 lv b32 x - c*b32^i=x0 - lv b32 (y.take i) → ∃ (r:List Int) (e:Int),Ev (fun k=>nat_less.l0 k x y c (n:Int) (i:Int)) r∧r.length=n∧InR b32 r∧(e=0∨e=1)∧lv b32 r - e*b32^n=x0 - lv b32 (y.take n):=by
 induction d with
 | zero =>
   intro i x c hi hd hl hx hc hv
   have e:i=n:=by omega
   subst e
   refine ⟨x,c,Ev.succ ?_,hl,hx,hc,hv⟩
   have g:¬ (i:Int) < (i:Int):=by omega
   simp only [nat_less.l0,if_neg g]
   exact Ev.now _
 | succ d ih =>
   intro i x c hi hd hl hx hc hv
   have k1:i+1≤n∧n - (i+1)=d:=by omega
   have rx:=InR_rd b32_pos hx (i:Int)
   unfold b32 at rx
   have hi2:i < x.length:=by omega
   have g1:(i:Int) < (n:Int):=by omega
   have g2:0≤(i:Int):=by omega
   have g3:(i:Int) < (x.length:Int):=by omega
   have w2:=wrap64_succ (i:=(i:Int)) (n:=n) g2 g1 hn
   have hux:=u64_id rx.1 (Int.lt_trans rx.2 (by decide))
   by_cases hj:i < y.length
   ·have ry:=InR_rd b32_pos hy (i:Int)
    unfold b32 at ry
    have g4:(i:Int) < (y.length:Int):=Int.ofNat_lt.2 hj
    have huy:=u64_id ry.1 (Int.lt_trans ry.2 (by decide))
    obtain ⟨e,he,h1,h2,h3,h4⟩:=sub_digit2 (t:=rd x (i:Int) - c - rd y (i:Int)) (by clear w2 hux huy hv; omega) (by clear w2 hux huy hv; omega)
    have hv2:lv b32 (x.set i (rd x (i:Int) - c - rd y (i:Int)+e*4294967296)) - e*b32^(i+1)=x0 - lv b32 (y.take (i+1)):=by
     rw [lv_set _ _ _ _ hi2,lv_take_succ b32 y i hj,getD_eq_rd,getD_eq_rd,Int.pow_succ]
     have:b32=4294967296:=rfl
     generalize lv b32 x=p at *
     generalize lv b32 (y.take i)=q at *
     generalize b32^i=t at *
     rw [this]
     grind
    obtain ⟨r,e2,r1,r2,r3,r4,r5⟩:=ih (i+1) _ e k1.1 k1.2 (by rw [List.length_set]; exact hl) (InR_set hx i h2 h3) he hv2
    refine ⟨r,e2,Ev.succ ?_,r2,r3,r4,r5⟩
    simp only [nat_less.l0,if_pos g1,if_pos g2,if_pos g3,if_pos g4,hux,huy,u64_wrap_sub,h1,h4,w2,Int.toNat_natCast]
    exact r1
   have g4:¬ (i:Int) < (y.length:Int):=fun h=>hj (Int.ofNat_lt.1 h)
   obtain ⟨e,he,h1,h2,h3,h4⟩:=sub_digit2 (t:=rd x (i:Int) - c) (by clear w2 hux hv; omega) (by clear w2 hux hv; omega)
   have hv2:lv b32 (x.set i (rd x (i:Int) - c+e*4294967296)) - e*b32^(i+1)=x0 - lv b32 (y.take (i+1)):=by
    rw [lv_set _ _ _ _ hi2,lv_take_all b32 y (i:=i+1) (j:=i) (Nat.le_succ_of_le (Nat.le_of_not_lt hj)) (Nat.le_of_not_lt hj),getD_eq_rd,Int.pow_succ]
    have:b32=4294967296:=rfl
    generalize lv b32 x=p at *
    generalize lv b32 (y.take i)=q at *
    generalize b32^i=t at *
    rw [this]
    grind
   obtain ⟨r,e2,r1,r2,r3,r4,r5⟩:=ih (i+1) _ e k1.1 k1.2 (by rw [List.length_set]; exact hl) (InR_set hx i h2 h3) he hv2
   refine ⟨r,e2,Ev.succ ?_,r2,r3,r4,r5⟩
   simp only [nat_less.l0,if_pos g1,if_pos g2,if_pos g3,if_neg g4,hux,h1,h4,w2,Int.toNat_natCast]
   exact r1
theorem Dig_len {b:Int} (hb:1 < b) {l m:List Int} {p q:Nat} (hl:Dig b l p) (hm:Dig b m q) (h:q≤p):m.length≤l.length:=by
 by_cases hz:m=[]
 ·subst hz; simp
 have h1:=hm.2.2 hz
 have h2:=lv_lt (by omega) hl.1
 rw [hl.2.1] at h2
 have h3:b^(m.length - 1) < b^l.length:=by omega
 have h4:m.length - 1 < l.length:=by
  apply Nat.lt_of_not_le
  intro hle
  have h5:b^l.length≤b^(m.length - 1):=by
   obtain ⟨j,hj⟩:=Nat.exists_eq_add_of_le hle
   rw [hj,Int.pow_add]
   have h6:1≤b^j:=by have:=Int.pow_pos (n:=b) (m:=j) (by omega); omega
   have h7:0 < b^l.length:=Int.pow_pos (by omega)
   have:=Int.mul_le_mul_of_nonneg_left h6 (Int.le_of_lt h7)
   omega
  omega
 omega
theorem sub_spec (a b:ByteArray) (ha:a.size≤140737488351232) (hb:b.size≤140737488351232):Ev (fun k=>nat_Sub.f k a b) (if V a < V b then (⟨#[]⟩,1) else (B (V a - V b),0)):=by
 refine Ev.bind (cmp_spec a b) ?_
 by_cases hlt:V a < V b
 ·have g:cmpN (V a) (V b) < 0:=by unfold cmpN; rw [if_pos hlt]; decide
  simp only [if_pos g,if_pos hlt]
  exact Ev.now _
 have g:¬ cmpN (V a) (V b) < 0:=by unfold cmpN; (repeat' split)<;>omega
 simp only [if_neg g,if_neg hlt]
 obtain ⟨x,hx1,hx2,hx3⟩:=words a ha
 obtain ⟨y,hy1,hy2,hy3⟩:=words b hb
 have hlen:=Dig_len (by decide) hx2 hy2 (by omega)
 obtain ⟨r,e,r1,r2,r3,r4,r5⟩:=nless_l0 y hy2.1 (V a) x.length (by omega) x.length 0 x 0 (by omega) (by omega) rfl hx2.1 (.inl rfl) (by rw [hx2.2.1]; simp [lv])
 rw [List.take_of_length_le hlen,hy2.2.1] at r5
 have hrl:=lv_lt b32_pos r3
 rw [r2] at hrl
 have hr0:=lv_nonneg b32_pos r3
 have he:e=0:=by
  rcases r4 with h0 | h1
  ·exact h0
  exfalso
  subst h1
  have hx4:=lv_lt b32_pos hx2.1
  rw [hx2.2.1] at hx4
  omega
 subst he
 have hv:(lv b32 r).toNat=V a - V b:=by omega
 have ht:=text r (by omega) r3
 rw [hv] at ht
 refine Ev.bind hx1 ?_
 refine Ev.bind hy1 ?_
 refine Ev.bind (g:=fun k=>nat_less.f k x y) r1 ?_
 exact Ev.bind (f:=fun _ t=>some (t,(0:Int))) ht (Ev.now _)
end Go.Proofs.YtmkgijiniopalaaDoor.SB
end
section
namespace Go.Proofs.YtmkgijiniopalaaDoor.SB
open Go.RowKit Go.Proofs.YtmkgijiniopalaaDoor.M Go.Proofs.YtmkgijiniopalaaDoor.SA Go.Proofs.YtmkgijiniopalaaDoor.A Go.Proofs.YtmkgijiniopalaaDoor.H Go.Proofs.YtmkgijiniopalaaDoor.B Go.Proofs.YtmkgijiniopalaaDoorW.PrintWords Go.Proofs.YtmkgijiniopalaaDoorW.PrintLast Go.Proofs.YtmkgijiniopalaaDoorW.PrintMore
theorem add_l0 (x y:List Int) (hx:InR b32 x) (hy:InR b32 y) (hxy:y.length≤x.length) (hn:x.length≤281474976710 ) (d:Nat):∀ (i:Nat) (z:List Int) (c:Int),i≤x.length→x.length - i=d→z.length=x.length+1→InR b32 z→(∀ j,i≤j→z.getD j 0=0)→(0≤c∧c≤1) →
 lv b32 z+c*b32^i=lv b32 (x.take i)+lv b32 (y.take i)→Ev (fun k=>nat_Add.l0 k x y z c x (x.length:Int) (i:Int)) (B (lv b32 x+lv b32 y).toNat):=by
 induction d with
 | zero =>
   intro i z c hi hd hl hz h0 hc hv
   have e:i=x.length:=by omega
   have g:¬ (i:Int) < (x.length:Int):=by omega
   have g2:(x.length:Int) < (z.length:Int):=by omega
   have g3:x.length < z.length:=by omega
   have ec:c%4294967296=c:=by clear hv; omega
   have hz2:InR b32 (z.set x.length c):=InR_set hz _ hc.1 (by unfold b32; clear hv; omega)
   have ht:=text (z.set x.length c) (by rw [List.length_set]; clear hv; omega) hz2
   have hvv:lv b32 (z.set x.length c)=lv b32 x+lv b32 y:=by
    rw [lv_set _ _ _ _ g3,h0 _ (Nat.le_of_eq e)]
    subst e
    rw [lv_take_ge b32 x _ (Nat.le_refl _),lv_take_ge b32 y _ hxy] at hv
    rw [← hv]
    grind
   rw [hvv] at ht
   refine Ev.succ ?_
   simp only [nat_Add.l0,if_neg g,if_pos (Int.natCast_nonneg x.length),if_pos g2,ec,Int.toNat_natCast]
   exact Ev.bind (f:=fun _ t=>some t) ht (Ev.now _)
 | succ d ih =>
   intro i z c hi hd hl hz h0 hc hv
   have k1:i+1≤x.length∧x.length - (i+1)=d:=by omega
   have k2:i < x.length:=by omega
   have k3:i < z.length:=by omega
   have rx:=InR_rd b32_pos hx (i:Int)
   unfold b32 at rx
   have g1:(i:Int) < (x.length:Int):=by omega
   have g2:0≤(i:Int):=by omega
   have g3:(i:Int) < (z.length:Int):=by omega
   have w2:=wrap64_succ (i:=(i:Int)) (n:=x.length) g2 g1 (Nat.le_trans hn (by decide))
   have hux:=u64_id rx.1 (Int.lt_trans rx.2 (by decide))
   have hcx:IntKind.u64.wrap (c+rd x (i:Int))=c+rd x (i:Int):=u64_id (by clear w2 hux hv; omega) (by clear w2 hux hv; omega)
   by_cases hj:i < y.length
   ·have ry:=InR_rd b32_pos hy (i:Int)
    unfold b32 at ry
    have g4:(i:Int) < (y.length:Int):=Int.ofNat_lt.2 hj
    have huy:=u64_id ry.1 (Int.lt_trans ry.2 (by decide))
    have hs:IntKind.u64.wrap (c+rd x (i:Int)+rd y (i:Int))=c+rd x (i:Int)+rd y (i:Int):=u64_id (by clear w2 hux hv huy hcx; omega) (by clear w2 hux hv huy hcx; omega)
    have hq:0≤(c+rd x (i:Int)+rd y (i:Int))/4294967296∧(c+rd x (i:Int)+rd y (i:Int))/4294967296≤1:=by clear w2 hux hv huy hcx hs; omega
    have hr:0≤(c+rd x (i:Int)+rd y (i:Int))%4294967296∧(c+rd x (i:Int)+rd y (i:Int))%4294967296 < 4294967296:=by clear w2 hux hv huy hcx hs; omega
    have hv2:lv b32 (z.set i ((c+rd x (i:Int)+rd y (i:Int))%4294967296))+(c+rd x (i:Int)+rd y (i:Int))/4294967296*b32^(i+1)=lv b32 (x.take (i+1))+lv b32 (y.take (i+1)):=by
     have e:c+rd x (i:Int)+rd y (i:Int)=(c+rd x (i:Int)+rd y (i:Int))/4294967296*4294967296+(c+rd x (i:Int)+rd y (i:Int))%4294967296:=by clear w2 hux hv huy hcx hs; omega
     rw [lv_set _ _ _ _ k3,h0 i (Nat.le_refl _),lv_take_succ b32 y i hj,lv_take_succ b32 x i k2,getD_eq_rd,getD_eq_rd,Int.pow_succ]
     have:b32=4294967296:=rfl
     generalize (c+rd x (i:Int)+rd y (i:Int))/4294967296=q at *
     generalize (c+rd x (i:Int)+rd y (i:Int))%4294967296=r at *
     generalize lv b32 z=p1 at *
     generalize lv b32 (x.take i)=p2 at *
     generalize lv b32 (y.take i)=p3 at *
     generalize b32^i=t at *
     rw [this]
     clear w2 hux huy hcx hs
     grind
    have h:=ih (i+1) _ _ k1.1 k1.2 (by rw [List.length_set]; exact hl) (InR_set hz i hr.1 hr.2) (fun j hj=>by rw [lset_ne _ (Nat.ne_of_lt hj)]; exact h0 j (Nat.le_of_succ_le hj)) hq hv2
    refine Ev.succ ?_
    simp only [nat_Add.l0,if_pos g1,if_pos g2,if_pos g3,if_pos g4,hux,huy,hcx,hs,w2,Int.toNat_natCast]
    exact h
   have g4:¬ (i:Int) < (y.length:Int):=fun h=>hj (Int.ofNat_lt.1 h)
   have hq:0≤(c+rd x (i:Int))/4294967296∧(c+rd x (i:Int))/4294967296≤1:=by clear w2 hux hv hcx; omega
   have hr:0≤(c+rd x (i:Int))%4294967296∧(c+rd x (i:Int))%4294967296 < 4294967296:=by clear w2 hux hv hcx; omega
   have hv2:lv b32 (z.set i ((c+rd x (i:Int))%4294967296))+(c+rd x (i:Int))/4294967296*b32^(i+1)=lv b32 (x.take (i+1))+lv b32 (y.take (i+1)):=by
    have e:c+rd x (i:Int)=(c+rd x (i:Int))/4294967296*4294967296+(c+rd x (i:Int))%4294967296:=by clear w2 hux hv hcx; omega
    rw [lv_set _ _ _ _ k3,h0 i (Nat.le_refl _),lv_take_all b32 y (i:=i+1) (j:=i) (Nat.le_succ_of_le (Nat.le_of_not_lt hj)) (Nat.le_of_not_lt hj),lv_take_succ b32 x i k2,getD_eq_rd,Int.pow_succ]
    have:b32=4294967296:=rfl
    generalize (c+rd x (i:Int))/4294967296=q at *
    generalize (c+rd x (i:Int))%4294967296=r at *
    generalize lv b32 z=p1 at *
    generalize lv b32 (x.take i)=p2 at *
    generalize lv b32 (y.take i)=p3 at *
    generalize b32^i=t at *
    rw [this]
    clear w2 hux hcx
    grind
   have h:=ih (i+1) _ _ k1.1 k1.2 (by rw [List.length_set]; exact hl) (InR_set hz i hr.1 hr.2) (fun j hj=>by rw [lset_ne _ (Nat.ne_of_lt hj)]; exact h0 j (Nat.le_of_succ_le hj)) hq hv2
   refine Ev.succ ?_
   simp only [nat_Add.l0,if_pos g1,if_pos g2,if_pos g3,if_neg g4,hux,hcx,w2,Int.toNat_natCast]
   exact h
theorem add_j1 (x y:List Int) (hx:InR b32 x) (hy:InR b32 y) (hxy:y.length≤x.length) (hn:x.length≤281474976710):Ev (fun k=>nat_Add.j1 k x y) (B (lv b32 x+lv b32 y).toNat):=by
 have h:=add_l0 x y hx hy hxy hn x.length 0 (List.replicate (x.length+1) 0) 0 (by omega) (by omega) (by rw [List.length_replicate]) (InR_replicate b32_pos _) (fun j _=>getD_replicate _ j) (by omega) (by rw [lv_zeros]; simp [lv])
 have g2:x.length+1≤70368744177664:=by omega
 have w:wrap64 ((x.length:Int)+1)=((x.length+1:Nat):Int):=by rw [wrap64_id (by omega) (by omega)]; rfl
 refine Ev.succ ?_
 simp only [nat_Add.j1,w,if_pos (Int.natCast_nonneg _),Int.toNat_natCast,if_pos g2]
 exact h
theorem add_spec (a b:ByteArray) (ha:a.size≤1099511627776) (hb:b.size≤1099511627776):Ev (fun k=>nat_Add.f k a b) (B (V a+V b)):=by
 have sa:=size_BV a
 have sb:=size_BV b
 have big:Ev (fun k=>nat_Add.j0 k (B (V a)) (B (V b)) false) (B (V a+V b)):=by
  obtain ⟨x,hx1,hx2,hx3⟩:=words (B (V a)) (by omega)
  obtain ⟨y,hy1,hy2,hy3⟩:=words (B (V b)) (by omega)
  rw [V_B] at hx2 hy2
  refine Ev.succ ?_
  have gf:¬ (false=true):=by decide
  simp only [nat_Add.j0,if_neg gf]
  refine Ev.bind hx1 ?_
  refine Ev.bind hy1 ?_
  by_cases hl:x.length < y.length
  ·have g:(x.length:Int) < (y.length:Int):=Int.ofNat_lt.2 hl
   simp only [if_pos g]
   have h:=add_j1 y x hy2.1 hx2.1 (by omega) (by omega)
   rw [hx2.2.1,hy2.2.1,show ((V b:Int)+(V a:Int)).toNat=V a+V b by omega] at h
   exact h
  have g:¬ (x.length:Int) < (y.length:Int):=fun h=>hl (Int.ofNat_lt.1 h)
  simp only [if_neg g]
  have h:=add_j1 x y hx2.1 hy2.1 (by omega) (by omega)
  rw [hx2.2.1,hy2.2.1,show ((V a:Int)+(V b:Int)).toNat=V a+V b by omega] at h
  exact h
 refine Ev.bind (trim a) ?_
 refine Ev.bind (trim b) ?_
 by_cases h1:(B (V a)).size < 8
 rotate_left
 ·have g1:¬ ((B (V a)).size:Int) < 8:=by omega
  simp only [if_neg g1]
  exact big
 have g1:((B (V a)).size:Int) < 8:=by omega
 simp only [if_pos g1]
 by_cases h2:(B (V b)).size < 8
 ·have g2:((B (V b)).size:Int) < 8:=by omega
  have ra:=short (B (V a)) (by omega)
  have rb:=short (B (V b)) (by omega)
  rw [V_B] at ra rb
  have la:V a < 256^7:=lt_of_size_B (by omega)
  have lb:V b < 256^7:=lt_of_size_B (by omega)
  have hu:IntKind.u64.wrap ((V a:Int)+(V b:Int))=((V a+V b:Nat):Int):=by rw [u64_id (by omega) (by omega)]; rfl
  have hf:nat_fromShort.f ((V a+V b:Nat):Int)=some (B (V a+V b)):=by
   unfold nat_fromShort.f
   rw [if_pos (by clear hu; omega),Int.toNat_natCast]
  rw [decide_eq_true g2]
  refine Ev.succ ?_
  simp only [nat_Add.j0,if_pos trivial]
  refine Ev.bind ra ?_
  refine Ev.bind rb ?_
  simp only [hu,hf,Option.bind_some]
  exact Ev.now _
 have g2:¬ ((B (V b)).size:Int) < 8:=by omega
 rw [decide_eq_false g2]
 exact big
theorem cmpN_neg {a b:Nat}:cmpN a b < 0↔a < b:=by
 unfold cmpN
 (repeat' split)<;>omega
end Go.Proofs.YtmkgijiniopalaaDoor.SB
end
section
namespace Go.Proofs.YtmkgijiniopalaaDoor.SB
open Go.RowKit Go.Proofs.YtmkgijiniopalaaDoor.A Go.Proofs.YtmkgijiniopalaaDoor.B Go.Proofs.YtmkgijiniopalaaDoor.C Go.Proofs.YtmkgijiniopalaaDoor.H Go.Proofs.YtmkgijiniopalaaDoor.M Go.Proofs.YtmkgijiniopalaaDoor.SA Go.Proofs.YtmkgijiniopalaaDoorW.PrintWords Go.Proofs.YtmkgijiniopalaaDoorW.PrintLast Go.Proofs.YtmkgijiniopalaaDoorW.PrintMore
theorem mul_step {w y o c:Int} (hw:0≤w∧w < b32) (hy:0≤y∧y < b32) (ho:0≤o∧o < b32) (hc:0≤c∧c < b32) :
 IntKind.u64.wrap (c+IntKind.u64.wrap (IntKind.u64.wrap (IntKind.u64.wrap w*IntKind.u64.wrap y)+IntKind.u64.wrap o))=c+(w*y+o)∧0≤c+(w*y+o)∧(c+(w*y+o))/4294967296 < b32:=by
 unfold b32 at *
 have h1:0≤w*y:=Int.mul_nonneg hw.1 hy.1
 have h2:w*y≤4294967295*y:=Int.mul_le_mul_of_nonneg_right (by omega) hy.1
 have h3:4294967295*y≤18446744065119617025:=by omega
 rw [u64_id (t:=w) hw.1 (by omega),u64_id (t:=y) hy.1 (by omega),u64_id (t:=o) ho.1 (by omega)]
 generalize w*y=p at *
 rw [u64_id (t:=p) h1 (by omega),u64_id (t:=p+o) (by omega) (by omega),u64_id (t:=c+(p+o)) (by omega) (by omega)]
 exact ⟨rfl,by omega,by omega⟩
theorem lv_drop (b:Int) (l:List Int) (k:Nat) (h:k < l.length):lv b (l.drop k)=rd l (k:Int)+b*lv b (l.drop (k+1)):=by
 have e:l.drop k=rd l (k:Int)::l.drop (k+1):=by
  rw [← getD_eq_rd,List.drop_eq_getElem_cons h,List.getD_eq_getElem?_getD,List.getElem?_eq_getElem h]; rfl
 rw [e]; rfl
theorem mul_alg (p c w yk o D P:Int) (h1:p=c+(w*yk+o)) (b:Int) (q r:Int) (hq:p=b*q+r):(r - o)*P+q*(P*b)+w*D*(P*b)=c*P+w*(yk+b*D)*P:=by
 have:r=c+(w*yk+o) - b*q:=by omega
 rw [this]
 grind
theorem mul_l1 (x y:List Int) (hx:InR b32 x) (hy:InR b32 y) (n i:Nat) (hn:n=x.length+y.length) (hs:n≤70368744177664) (hi:i < x.length) (R:ByteArray) (d:Nat):∀ (k:Nat) (o:List Int) (c:Int),k≤y.length→y.length - k=d→o.length=n→InR b32 o→(∀ j,i+y.length≤j→o.getD j 0=0)→(0≤c∧c < b32) →
 (∀ o':List Int,o'.length=n→InR b32 o' → (∀ j,i+1+y.length≤j→o'.getD j 0=0)→lv b32 o' = lv b32 o+c*b32^(i+k)+rd x (i:Int)*lv b32 (y.drop k)*b32^(i+k)→Ev (fun q=>nat_Mul.l0 q y o' x (x.length:Int) ((i+1:Nat):Int)) R) →
 Ev (fun q=>nat_Mul.l1 q y o (i:Int) (rd x (i:Int)) c x (x.length:Int) (i:Int) y (y.length:Int) (k:Int)) R:=by
 induction d with
 | zero =>
   intro k o c hk hd hl ho hz hc hR
   have e:k=y.length:=by omega
   have fi:i+y.length < o.length:=by omega
   have w1:wrap64 ((i:Int)+(y.length:Int))=((i+y.length:Nat):Int):=by rw [wrap64_id (by omega) (by omega)]; rfl
   have w2:wrap64 ((i:Int)+1)=((i+1:Nat):Int):=by rw [wrap64_id (by clear w1; omega) (by clear w1; omega)]; rfl
   have g:¬ ((k:Int) < (y.length:Int)):=by clear w1 w2; omega
   have g1:0≤((i+y.length:Nat):Int):=Int.natCast_nonneg _
   have g2:((i+y.length:Nat):Int) < (o.length:Int):=Int.ofNat_lt.2 fi
   have hcm:c%4294967296=c:=by unfold b32 at hc; clear w1 w2; omega
   refine Ev.succ ?_
   simp only [nat_Mul.l1,if_neg g,w1,w2,if_pos g1,if_pos g2,hcm,Int.toNat_natCast]
   refine hR _ (by rw [List.length_set]; exact hl) (InR_set ho _ hc.1 hc.2) (fun j hj=>?_) ?_
   ·have hne:i+y.length≠j:=by clear w1 w2; omega
    rw [lset_ne _ hne]; exact hz j (by clear w1 w2; omega)
   rw [lv_set _ _ _ _ fi,hz _ (Nat.le_refl _),e,List.drop_eq_nil_of_le (Nat.le_refl _)]
   simp [lv]
 | succ d ih =>
   intro k o c hk hd hl ho hz hc hR
   have hky:k < y.length:=by omega
   have f1:k+1≤y.length:=by omega
   have f2:y.length - (k+1)=d:=by omega
   have fi:i+k < o.length:=by omega
   have g:((k:Int) < (y.length:Int)):=by omega
   have g0:0≤(k:Int):=Int.natCast_nonneg _
   have ms:=mul_step (InR_rd b32_pos hx (i:Int)) (InR_rd b32_pos hy (k:Int)) (InR_rd b32_pos ho ((i+k:Nat):Int)) hc
   have w1:wrap64 ((i:Int)+(k:Int))=((i+k:Nat):Int):=by clear ms; rw [wrap64_id (by omega) (by omega)]; rfl
   have w2:wrap64 ((k:Int)+1)=((k+1:Nat):Int):=by clear ms w1; rw [wrap64_id (by omega) (by omega)]; rfl
   have g1:0≤((i+k:Nat):Int):=Int.natCast_nonneg _
   have g2:((i+k:Nat):Int) < (o.length:Int):=Int.ofNat_lt.2 fi
   refine Ev.succ ?_
   simp only [nat_Mul.l1,if_pos g,if_pos g0,w1,w2,if_pos g1,if_pos g2,Int.toNat_natCast,ms.1]
   obtain ⟨p,hp⟩:∃ p,c+(rd x (i:Int)*rd y (k:Int)+rd o ((i+k:Nat):Int))=p:=⟨_,rfl⟩
   have hp0:=ms.2.1
   have hp1:=ms.2.2
   rw [hp] at hp0 hp1 ⊢
   clear ms w1 w2
   have hm0:0≤p%4294967296:=Int.emod_nonneg _ (by decide)
   have hm1:p%4294967296 < b32:=Int.emod_lt_of_pos _ (by decide)
   have hd0:0≤p/4294967296:=Int.ediv_nonneg hp0 (by decide)
   refine ih (k+1) _ _ f1 f2 (by rw [List.length_set]; exact hl) (InR_set ho _ hm0 hm1) (fun j hj=>?_) ⟨hd0,hp1⟩ (fun o' h1 h2 h3 h4=>hR o' h1 h2 h3 ?_)
   ·have hne:i+k≠j:=by omega
    rw [lset_ne _ hne]; exact hz j hj
   rw [h4,lv_set _ _ _ _ fi,getD_eq_rd,lv_drop b32 y k hky,show i+(k+1)=(i+k)+1 from rfl,Int.pow_succ]
   have:=mul_alg p c (rd x (i:Int)) (rd y (k:Int)) (rd o ((i+k:Nat):Int)) (lv b32 (y.drop (k+1))) (b32^(i+k)) hp.symm b32 (p/4294967296) (p%4294967296) (Int.mul_ediv_add_emod p 4294967296).symm
   generalize (p%4294967296 - rd o ((i+k:Nat):Int))*b32^(i+k)=A1 at *
   generalize p/4294967296*(b32^(i+k)*b32)=A2 at *
   generalize rd x (i:Int)*lv b32 (y.drop (k+1))*(b32^(i+k)*b32)=A3 at *
   generalize c*b32^(i+k)=A4 at *
   generalize rd x (i:Int)*(rd y (k:Int)+b32*lv b32 (y.drop (k+1)))*b32^(i+k)=A5 at *
   generalize lv b32 o=A6 at *
   clear h4 hp hR ih hm0 hm1 hd0 hp0 hp1
   omega
theorem mul_l0 (x y:List Int) (hx:InR b32 x) (hy:InR b32 y) (n:Nat) (hn:n=x.length+y.length) (hs:n≤70368744177664) (d:Nat):∀ (i:Nat) (o:List Int),i≤x.length→x.length - i=d→o.length=n→InR b32 o→(∀ j,i+y.length≤j→o.getD j 0=0)→lv b32 o=lv b32 (x.take i)*lv b32 y →
 Ev (fun q=>nat_Mul.l0 q y o x (x.length:Int) (i:Int)) (B (lv b32 x*lv b32 y).toNat):=by
 induction d with
 | zero =>
   intro i o hi hd hl ho hz hv
   have e:i=x.length:=by omega
   have g:¬ ((i:Int) < (x.length:Int)):=by omega
   refine Ev.succ ?_
   simp only [nat_Mul.l0,if_neg g]
   have h:=text o (by omega) ho
   rw [hv,List.take_of_length_le (by omega)] at h
   refine Ev.bind h ?_
   exact Ev.now _
 | succ d ih =>
   intro i o hi hd hl ho hz hv
   have hix:i < x.length:=by omega
   have f1:i+1≤x.length:=by omega
   have f2:x.length - (i+1)=d:=by omega
   have g:((i:Int) < (x.length:Int)):=by omega
   have g0:0≤(i:Int):=Int.natCast_nonneg _
   refine Ev.succ ?_
   simp only [nat_Mul.l0,if_pos g,if_pos g0]
   refine mul_l1 x y hx hy n i hn hs hix _ y.length 0 o 0 (Nat.zero_le _) rfl hl ho hz ⟨Int.le_refl 0,b32_pos⟩ (fun o' h1 h2 h3 h4=>?_)
   refine ih (i+1) o' f1 f2 h1 h2 h3 ?_
   rw [h4,hv,lv_take_succ _ _ _ hix,getD_eq_rd,List.drop_zero,Nat.add_zero]
   grind
theorem mul_spec (a b:ByteArray) (ha:a.size≤1099511627776) (hb:b.size≤1099511627776):Ev (fun k=>nat_Mul.f k a b) (B (V a*V b)):=by
 have sa:=size_BV a
 have sb:=size_BV b
 refine Ev.bind (trim a) ?_
 refine Ev.bind (trim b) ?_
 have w:wrap64 (((B (V a)).size:Int)+((B (V b)).size:Int))=(((B (V a)).size+(B (V b)).size:Nat):Int):=by rw [wrap64_id (by omega) (by omega)]; rfl
 simp only [w]
 by_cases h1:(B (V a)).size+(B (V b)).size≤8
 ·have g1:(((B (V a)).size+(B (V b)).size:Nat):Int)≤8:=by clear w; omega
  simp only [if_pos g1]
  have ra:=short (B (V a)) (by clear w; omega)
  have rb:=short (B (V b)) (by clear w; omega)
  rw [V_B] at ra rb
  have hlt:V a*V b < 256^8:=by
   have e1:=lt_of_size_B (n:=V a) (Nat.le_refl _)
   have e2:=lt_of_size_B (n:=V b) (Nat.le_refl _)
   refine Nat.lt_of_lt_of_le (Nat.mul_lt_mul'' e1 e2) ?_
   rw [← Nat.pow_add]
   exact Nat.pow_le_pow_right (by decide) h1
  have e8:(256:Nat)^8=18446744073709551616:=by decide
  rw [e8] at hlt
  have hu:IntKind.u64.wrap ((V a:Int)*(V b:Int))=((V a*V b:Nat):Int):=by
   rw [← Int.natCast_mul]
   exact u64_id (Int.natCast_nonneg _) (by clear w; omega)
  have hf:nat_fromShort.f ((V a*V b:Nat):Int)=some (B (V a*V b)):=by
   unfold nat_fromShort.f
   rw [if_pos (by clear hu w; omega),Int.toNat_natCast]
  refine Ev.bind ra ?_
  refine Ev.bind rb ?_
  simp only [hu,hf,Option.bind_some]
  exact Ev.now _
 have g1:¬ (((B (V a)).size+(B (V b)).size:Nat):Int)≤8:=by clear w; omega
 simp only [if_neg g1]
 clear w
 obtain ⟨x,hx1,hx2,hx3⟩:=words (B (V a)) (by omega)
 obtain ⟨y,hy1,hy2,hy3⟩:=words (B (V b)) (by omega)
 rw [V_B] at hx2 hy2
 have fs:x.length+y.length≤70368744177664:=by clear hx1 hy1; omega
 have w:wrap64 ((x.length:Int)+(y.length:Int))=((x.length+y.length:Nat):Int):=by rw [wrap64_id (by omega) (by omega)]; rfl
 have g2:0≤((x.length+y.length:Nat):Int):=Int.natCast_nonneg _
 refine Ev.bind hx1 ?_
 refine Ev.bind hy1 ?_
 simp only [w,if_pos g2,Int.toNat_natCast,if_pos fs]
 have h:=mul_l0 x y hx2.1 hy2.1 (x.length+y.length) rfl fs x.length 0 (List.replicate (x.length+y.length) 0) (Nat.zero_le _) rfl (by rw [List.length_replicate]) (InR_replicate b32_pos _) (fun j _=>getD_replicate _ j) (by rw [lv_zeros]; simp [lv])
 rw [hx2.2.1,hy2.2.1,← Int.natCast_mul,Int.toNat_natCast] at h
 exact h
end Go.Proofs.YtmkgijiniopalaaDoor.SB
end
section
namespace Go.Proofs.YtmkgijiniopalaaDoor.SB
open Go.RowKit Go.Proofs.YtmkgijiniopalaaDoor.A Go.Proofs.YtmkgijiniopalaaDoor.B Go.Proofs.YtmkgijiniopalaaDoor.C Go.Proofs.YtmkgijiniopalaaDoor.H Go.Proofs.YtmkgijiniopalaaDoor.M Go.Proofs.YtmkgijiniopalaaDoor.SA Go.Proofs.YtmkgijiniopalaaDoorW.PrintWords Go.Proofs.YtmkgijiniopalaaDoorW.PrintLast Go.Proofs.YtmkgijiniopalaaDoorW.PrintMore
theorem two_pow_cast (s:Nat):(2:Int)^s=((2^s:Nat):Int):=(pow_nat 2 s).symm
theorem pow_split {s:Nat} (hs:s≤32):(b32:Int)=2^s*2^(32 - s):=by rw [← Int.pow_add,show s+(32 - s)=32 by omega]; rfl
theorem left_digit {w c:Int} {s:Nat} (hs:s≤31) (hw:0≤w∧w < b32) (hc:0≤c∧c < 2^s) :
 ∃ n:Int,shl .u64 (IntKind.u64.wrap w) (s:Int)=n∧n=w*2^s∧0≤n∧Go.bits .or .u32 c (n%4294967296)=c+n%4294967296∧c+n%4294967296 < b32∧n/4294967296%4294967296=n/4294967296∧0≤n/4294967296∧n/4294967296 < 2^s:=by
 refine ⟨_,rfl,?_⟩
 have hp:(0:Int) < 2^s:=Int.pow_pos (by decide)
 have hq:(0:Int) < 2^(32 - s):=Int.pow_pos (by decide)
 have hb:=pow_split (s:=s) (by omega)
 have hp31:(2:Int)^s≤2147483648:=by
  rw [two_pow_cast]
  have:=Nat.pow_le_pow_right (n:=2) (by decide) hs
  have e:2^31=2147483648:=by decide
  rw [e] at this
  omega
 have h1:0≤w*2^s:=Int.mul_nonneg hw.1 (Int.le_of_lt hp)
 have h2:w*2^s≤w*2147483648:=Int.mul_le_mul_of_nonneg_left hp31 hw.1
 have h3:w*2147483648 < 18446744073709551616:=by unfold b32 at hw; omega
 have e1:shl .u64 (IntKind.u64.wrap w) (s:Int)=w*2^s:=by
  have h:=shl_small (k:=.u64) (x:=IntKind.u64.wrap w) (y:=(s:Int)) rfl (by show (s:Int)≤64; omega)
  rw [← h,Int.toNat_natCast,u64_id (t:=w) hw.1 (by unfold b32 at hw; omega),u64_id h1 (by omega)]
 rw [e1]
 have hlt:w*2^s/4294967296 < 2^s:=by
  refine Int.ediv_lt_of_lt_mul (by decide) ?_
  rw [Int.mul_comm (2^s)]
  exact Int.mul_lt_mul_of_pos_right hw.2 hp
 have hge:0≤w*2^s/4294967296:=Int.ediv_nonneg h1 (by decide)
 have hmod:w*2^s%4294967296=2^s*(w%2^(32 - s)):=by
  rw [show (4294967296:Int)=2^s*2^(32 - s) from hb,Int.mul_comm w,Int.mul_emod_mul_of_pos _ _ hp]
 have hr0:0≤w%2^(32 - s):=Int.emod_nonneg _ (by omega)
 have hr1:w%2^(32 - s)+1≤2^(32 - s):=Int.emod_lt_of_pos _ hq
 have hm2:2^s*(w%2^(32 - s)+1)≤b32:=by rw [hb]; exact Int.mul_le_mul_of_nonneg_left hr1 (Int.le_of_lt hp)
 rw [Int.mul_add,Int.mul_one] at hm2
 have hm0:0≤2^s*(w%2^(32 - s)):=Int.mul_nonneg (Int.le_of_lt hp) hr0
 have hdvd:w*2^s%4294967296%2^s=0:=by rw [hmod]; exact Int.mul_emod_right _ _
 rw [← hmod] at hm2 hm0
 refine ⟨rfl,h1,?_,by omega,?_,hge,hlt⟩
 ·have:=b32_pos
  refine or32' s c _ hc.1 hc.2 ?_ hm0 hdvd ?_
  ·have e:(2:Int)^32=4294967296:=by decide
   rw [e]; omega
  have e:(2:Int)^32=4294967296:=by decide
  rw [e]; exact Int.emod_lt_of_pos _ (by decide)
 exact Int.emod_eq_of_lt hge (by omega)
theorem left_l0 (l:List Int) (hl:InR b32 l) (hs:l.length≤70368744177663) (s:Nat) (hs31:s≤31) (d:Nat):∀ (i:Nat) (o:List Int),i≤l.length→l.length - i=d→o.length=l.length+1→InR b32 o→(∀ j,i < j→o.getD j 0=0)→o.getD i 0 < 2^s→lv b32 o=lv b32 (l.take i)*2^s →
 ∃ r,Ev (fun k=>nat_left.l0 k (s:Int) o l (l.length:Int) (i:Int)) r∧r.length=l.length+1∧InR b32 r∧lv b32 r=lv b32 l*2^s:=by
 induction d with
 | zero =>
   intro i o hi hd hol ho hz hc hv
   have g:¬ ((i:Int) < (l.length:Int)):=by omega
   refine ⟨o,?_,hol,ho,?_⟩
   ·refine Ev.succ ?_
    simp only [nat_left.l0,if_neg g]
    exact Ev.now _
   rw [hv,List.take_of_length_le (by omega)]
 | succ d ih =>
   intro i o hi hd hol ho hz hc hv
   have hil:i < l.length:=by omega
   have f1:i+1≤l.length:=by omega
   have f2:l.length - (i+1)=d:=by omega
   have fo:i < o.length:=by omega
   have fo1:i+1 < o.length:=by omega
   have g:((i:Int) < (l.length:Int)):=by omega
   have g0:0≤(i:Int):=Int.natCast_nonneg _
   have gs:0≤(s:Int):=Int.natCast_nonneg _
   have g1:(i:Int) < (o.length:Int):=Int.ofNat_lt.2 fo
   have g2:0≤((i+1:Nat):Int):=Int.natCast_nonneg _
   have g3:((i+1:Nat):Int) < (o.length:Int):=Int.ofNat_lt.2 fo1
   have w1:wrap64 ((i:Int)+1)=((i+1:Nat):Int):=by rw [wrap64_id (by omega) (by omega)]; rfl
   rw [getD_eq_rd] at hc
   obtain ⟨n,hn,hn2,hn0,hor,hlt,hdm,hd0,hd1⟩:=left_digit hs31 (InR_rd b32_pos hl (i:Int)) ⟨(InR_rd b32_pos ho (i:Int)).1,hc⟩
   have hm0:0≤n%4294967296:=Int.emod_nonneg _ (by decide)
   have ho0:=(InR_rd b32_pos ho (i:Int)).1
   have hdb:n/4294967296 < b32:=by
    clear w1 hn ih
    have h31:(2:Int)^s≤2147483648:=by
     rw [two_pow_cast]
     have:=Nat.pow_le_pow_right (n:=2) (by decide) hs31
     have e:2^31=2147483648:=by decide
     rw [e] at this
     omega
    unfold b32
    omega
   have hsum:0≤rd o (i:Int)+n%4294967296:=by clear w1 hn ih hor; omega
   obtain ⟨r,hr,hr1,hr2,hr3⟩:=ih (i+1) ((o.set i (rd o (i:Int)+n%4294967296)).set (i+1) (n/4294967296)) f1 f2 (by rw [List.length_set,List.length_set]; exact hol)
    (InR_set (InR_set ho _ hsum hlt) _ hd0 hdb)
    (fun j hj=>by rw [lset_ne _ (by clear w1 hn hor hlt; omega),lset_ne _ (by clear w1 hn hor hlt; omega)]; exact hz j (by clear w1 hn hor hlt; omega))
    (by rw [getD_eq_rd,rd_set_self _ (by rw [List.length_set]; exact fo1)]; exact hd1)
    (by
     rw [lv_set _ _ _ _ (by rw [List.length_set]; exact fo1),lset_ne _ (by clear w1 hn hor hlt; omega),hz (i+1) (by clear w1 hn hor hlt; omega),lv_set _ _ _ _ fo,getD_eq_rd,hv,lv_take_succ _ _ _ hil,getD_eq_rd,Int.pow_succ]
     have e:=(Int.mul_ediv_add_emod n 4294967296).symm
     have e2:(b32:Int)=4294967296:=rfl
     rw [e2]
     generalize (4294967296:Int)^i=P
     have e3:n=rd l (i:Int)*2^s:=hn2
     rw [Int.add_mul,Int.mul_assoc,Int.mul_comm P (2^s),← Int.mul_assoc (rd l (i:Int)),← e3]
     generalize lv 4294967296 (l.take i)*2^s=Z
     generalize rd o (i:Int)=c
     generalize n/4294967296=q at *
     generalize n%4294967296=m at *
     rw [e]
     grind)
   refine ⟨r,?_,hr1,hr2,hr3⟩
   refine Ev.succ ?_
   simp only [nat_left.l0,if_pos g,if_pos g0,if_pos gs,if_pos g1,w1,if_pos g2,if_pos g3,hn,hor,hdm,Int.toNat_natCast]
   exact hr
theorem left_spec (l:List Int) (hl:InR b32 l) (hs:l.length≤70368744177663) (s:Nat) (hs31:s≤31):∃ r,Ev (fun k=>nat_left.f k l (s:Int)) r∧r.length=l.length+1∧InR b32 r∧lv b32 r=lv b32 l*2^s:=by
 have w1:wrap64 ((l.length:Int)+1)=((l.length+1:Nat):Int):=by rw [wrap64_id (by omega) (by omega)]; rfl
 have g:0≤((l.length+1:Nat):Int):=Int.natCast_nonneg _
 have g1:l.length+1≤70368744177664:=by clear w1; omega
 have hp:(0:Int) < 2^s:=Int.pow_pos (by decide)
 obtain ⟨r,hr,h1,h2,h3⟩:=left_l0 l hl hs s hs31 l.length 0 (List.replicate (l.length+1) 0) (Nat.zero_le _) rfl (by rw [List.length_replicate]) (InR_replicate b32_pos _) (fun j _=>getD_replicate _ j) (by rw [getD_replicate]; exact hp) (by rw [lv_zeros]; simp [lv])
 refine ⟨r,?_,h1,h2,h3⟩
 simp only [nat_left.f,w1,if_pos g,Int.toNat_natCast,if_pos g1]
 exact hr
end Go.Proofs.YtmkgijiniopalaaDoor.SB
end
section
namespace Go.Proofs.YtmkgijiniopalaaDoor.SB
open Go.RowKit Go.Proofs.YtmkgijiniopalaaDoor.A Go.Proofs.YtmkgijiniopalaaDoor.B Go.Proofs.YtmkgijiniopalaaDoor.C Go.Proofs.YtmkgijiniopalaaDoor.H Go.Proofs.YtmkgijiniopalaaDoor.M Go.Proofs.YtmkgijiniopalaaDoor.SA Go.Proofs.YtmkgijiniopalaaDoorW.PrintWords Go.Proofs.YtmkgijiniopalaaDoorW.PrintLast Go.Proofs.YtmkgijiniopalaaDoorW.PrintMore
theorem tk_step {c d v u r:Int} (hc:0≤c∧c < b32) (hd:0≤d∧d < b32) (hv:0≤v∧v < b32) (hu:0≤u∧u < b32) (hr:r=0∨r=1) :
 ∃ s e:Int,IntKind.u64.wrap (c+IntKind.u64.wrap (d*IntKind.u64.wrap v))=s∧s=c+d*v∧0≤s/4294967296∧s/4294967296 < b32∧(e=0∨e=1) ∧
   IntKind.u64.wrap (IntKind.u64.wrap (IntKind.u64.wrap u - s%4294967296) - r)%4294967296=u - s%4294967296 - r+e*4294967296∧0≤u - s%4294967296 - r+e*4294967296∧u - s%4294967296 - r+e*4294967296 < b32 ∧
   IntKind.u64.wrap (IntKind.u64.wrap (IntKind.u64.wrap u - s%4294967296) - r)/9223372036854775808=e:=by
 unfold b32 at *
 have h1:0≤d*v:=Int.mul_nonneg hd.1 hv.1
 have h2:d*v≤4294967295*v:=Int.mul_le_mul_of_nonneg_right (by omega) hv.1
 rw [u64_id (t:=v) hv.1 (by omega),u64_id (t:=u) hu.1 (by omega)]
 generalize d*v=p at *
 rw [u64_id (t:=p) h1 (by omega),u64_id (t:=c+p) (by omega) (by omega)]
 obtain ⟨e,he,e1,e2,e3,e4⟩:=sub_digit2 (t:=u - (c+p)%4294967296 - r) (by omega) (by omega)
 rw [← u64_wrap_sub] at e1 e4
 exact ⟨c+p,e,rfl,rfl,by clear e1 e4; omega,by clear e1 e4; omega,he,e1,e2,e3,e4⟩
theorem tk_alg (s c d v r e b P u L Vt Lp Q:Int) (hs:s=c+d*v) (q m:Int) (hq:s=b*q+m) (h:Lp=L - d*Vt*P+(c+r)*(P*Q)) :
 Lp+((u - m - r+e*b) - u)*(P*Q)=L - d*(Vt+v*Q)*P+(q+e)*(P*Q*b):=by
 have:m=c+d*v - b*q:=by omega
 rw [h,this]
 grind
theorem tkS_spec (U W:List Int) (off:Nat) (d:Int) (hU:InR b32 U) (hW:InR b32 W) (hd:0≤d∧d < b32) (hoff:off+W.length < U.length):∀ i:Nat,i≤W.length →
 InR b32 (tkS U W off d i).1∧(0≤(tkS U W off d i).2.1∧(tkS U W off d i).2.1 < b32)∧((tkS U W off d i).2.2=0∨(tkS U W off d i).2.2=1) ∧
 lv b32 (tkS U W off d i).1=lv b32 U - d*lv b32 (W.take i)*b32^off+((tkS U W off d i).2.1+(tkS U W off d i).2.2)*b32^(off+i) ∧
 (∀ j,off+i≤j→(tkS U W off d i).1.getD j 0=U.getD j 0)
 | 0,_=>⟨hU,⟨Int.le_refl 0,b32_pos⟩,.inl rfl,by simp [tkS,lv],fun j _=>rfl⟩
 | i+1,hi=>by
   have f1:i≤W.length:=by omega
   have f2:i < W.length:=by omega
   obtain ⟨h1,h2,h3,h4,h5⟩:=tkS_spec U W off d hU hW hd hoff i f1
   have hl:=tkS_length U W off d i
   have f3:off+i < (tkS U W off d i).1.length:=by rw [hl]; omega
   simp only [tkS]
   generalize tkS U W off d i=p at *
   obtain ⟨s,e,hs,hs2,hq0,hq1,he,hm,hm0,hm1,ht⟩:=tk_step h2 hd (InR_rd b32_pos hW (i:Int)) (InR_rd b32_pos h1 ((off+i:Nat):Int)) h3
   rw [hs,hm,ht]
   refine ⟨InR_set h1 _ hm0 hm1,⟨hq0,hq1⟩,he,?_,fun j hj=>?_⟩
   ·rw [lv_set _ _ _ _ f3,getD_eq_rd,lv_take_succ _ _ _ f2,getD_eq_rd,show off+(i+1)=(off+i)+1 from rfl,Int.pow_succ,Int.pow_add]
    rw [Int.pow_add] at h4
    exact tk_alg s p.2.1 d (rd W (i:Int)) p.2.2 e b32 (b32^off) (rd p.1 ((off+i:Nat):Int)) (lv b32 U) (lv b32 (W.take i)) (lv b32 p.1) (b32^i) hs2 (s/4294967296) (s%4294967296) (Int.mul_ediv_add_emod s 4294967296).symm h4
   have hne:off+i≠j:=by omega
   rw [lset_ne _ hne]
   exact h5 j (by omega)
theorem tk_spec (U W:List Int) (off:Nat) (d:Int) (hU:InR b32 U) (hW:InR b32 W) (hd:0≤d∧d < b32) (hoff:off+W.length < U.length) :
 ∃ e:Int,(e=0∨e=1)∧tkB U W off d=decide (0 < e)∧InR b32 (tkU U W off d)∧(tkU U W off d).length=U.length∧lv b32 (tkU U W off d)=lv b32 U - d*lv b32 W*b32^off+e*b32^(off+W.length+1) ∧
   (∀ j,off+W.length < j→(tkU U W off d).getD j 0=U.getD j 0):=by
 obtain ⟨h1,h2,h3,h4,h5⟩:=tkS_spec U W off d hU hW hd hoff W.length (Nat.le_refl _)
 have hl:=tkS_length U W off d W.length
 have f3:off+W.length < (tkS U W off d W.length).1.length:=by rw [hl]; exact hoff
 unfold tkB tkU tkT
 simp only []
 generalize tkS U W off d W.length=p at *
 have hu:=InR_rd b32_pos h1 ((off+W.length:Nat):Int)
 obtain ⟨u,hx⟩:∃ u,rd p.1 ((off+W.length:Nat):Int)=u:=⟨_,rfl⟩
 have key:∃ e:Int,(e=0∨e=1)∧IntKind.u64.wrap (IntKind.u64.wrap (IntKind.u64.wrap u - p.2.1) - p.2.2)%4294967296=u - p.2.1 - p.2.2+e*4294967296∧0≤u - p.2.1 - p.2.2+e*4294967296∧u - p.2.1 - p.2.2+e*4294967296 < 4294967296∧IntKind.u64.wrap (IntKind.u64.wrap (IntKind.u64.wrap u - p.2.1) - p.2.2)/9223372036854775808=e:=by
  rw [hx] at hu
  generalize p.2.1=c at *
  generalize p.2.2=r at *
  clear h4 h5 h1 hx hl f3
  unfold b32 at *
  rw [u64_id (t:=u) hu.1 (by omega),u64_wrap_sub]
  exact sub_digit2 (t:=u - c - r) (by omega) (by omega)
 obtain ⟨e,he,e1,e2,e3,e4⟩:=key
 rw [← hx] at e1 e2 e3 e4
 rw [e1,e4]
 refine ⟨e,he,rfl,InR_set h1 _ e2 e3,by rw [List.length_set]; exact hl,?_,fun j hj=>?_⟩
 ·rw [lv_set _ _ _ _ f3,getD_eq_rd,h4,List.take_length,Int.pow_succ]
  have e5:(b32:Int)=4294967296:=rfl
  rw [e5]
  generalize (4294967296:Int)^(off+W.length)=P
  generalize d*lv 4294967296 W*4294967296^off=Z
  grind
 have hne:off+W.length≠j:=by omega
 rw [lset_ne _ hne]
 exact h5 j (by omega)
theorem pbS_spec (U W:List Int) (off:Nat) (hU:InR b32 U) (hW:InR b32 W) (hoff:off+W.length < U.length):∀ i:Nat,i≤W.length →
 InR b32 (pbS U W off i).1∧((pbS U W off i).2=0∨(pbS U W off i).2=1)∧lv b32 (pbS U W off i).1=lv b32 U+lv b32 (W.take i)*b32^off - (pbS U W off i).2*b32^(off+i) ∧
 (∀ j,off+i≤j→(pbS U W off i).1.getD j 0=U.getD j 0)
 | 0,_=>⟨hU,.inl rfl,by simp [pbS,lv],fun j _=>rfl⟩
 | i+1,hi=>by
   have f1:i≤W.length:=by omega
   have f2:i < W.length:=by omega
   obtain ⟨h1,h3,h4,h5⟩:=pbS_spec U W off hU hW hoff i f1
   have hl:=pbS_length U W off i
   have f3:off+i < (pbS U W off i).1.length:=by rw [hl]; omega
   simp only [pbS]
   generalize pbS U W off i=p at *
   have hu:=InR_rd b32_pos h1 ((off+i:Nat):Int)
   have hv:=InR_rd b32_pos hW (i:Int)
   have key:∃ q m:Int,IntKind.u64.wrap (p.2+IntKind.u64.wrap (IntKind.u64.wrap (rd p.1 ((off+i:Nat):Int))+IntKind.u64.wrap (rd W (i:Int))))/4294967296=q∧IntKind.u64.wrap (p.2+IntKind.u64.wrap (IntKind.u64.wrap (rd p.1 ((off+i:Nat):Int))+IntKind.u64.wrap (rd W (i:Int))))%4294967296=m∧p.2+(rd p.1 ((off+i:Nat):Int)+rd W (i:Int))=4294967296*q+m∧0≤m∧m < 4294967296∧(q=0∨q=1):=by
    generalize rd p.1 ((off+i:Nat):Int)=u at *
    generalize rd W (i:Int)=v at *
    generalize p.2=c at *
    clear h4 h5 h1 hl f3
    unfold b32 at *
    rw [u64_id (t:=u) hu.1 (by omega),u64_id (t:=v) hv.1 (by omega),u64_id (t:=u+v) (by omega) (by omega),u64_id (t:=c+(u+v)) (by omega) (by omega)]
    exact ⟨_,_,rfl,rfl,by omega,by omega,by omega,by omega⟩
   obtain ⟨q,m,hq,hm,hqm,hm0,hm1,hq1⟩:=key
   rw [hq,hm]
   refine ⟨InR_set h1 _ hm0 hm1,hq1,?_,fun j hj=>?_⟩
   ·rw [lv_set _ _ _ _ f3,getD_eq_rd,lv_take_succ _ _ _ f2,getD_eq_rd,show off+(i+1)=(off+i)+1 from rfl,Int.pow_succ,Int.pow_add,h4,Int.pow_add]
    have e5:(b32:Int)=4294967296:=rfl
    rw [e5]
    have:m=p.2+(rd p.1 ((off+i:Nat):Int)+rd W (i:Int)) - 4294967296*q:=by omega
    rw [this]
    generalize (4294967296:Int)^off=P
    generalize (4294967296:Int)^i=Q
    clear hq hm hqm this h4
    grind
   have hne:off+i≠j:=by omega
   rw [lset_ne _ hne]
   exact h5 j (by omega)
theorem pb_spec (U W:List Int) (off:Nat) (hU:InR b32 U) (hW:InR b32 W) (hoff:off+W.length < U.length) :
 ∃ f:Int,(f=0∨f=1)∧InR b32 (pbU U W off)∧(pbU U W off).length=U.length∧lv b32 (pbU U W off)=lv b32 U+lv b32 W*b32^off - f*b32^(off+W.length+1) ∧
   (∀ j,off+W.length < j→(pbU U W off).getD j 0=U.getD j 0):=by
 obtain ⟨h1,h3,h4,h5⟩:=pbS_spec U W off hU hW hoff W.length (Nat.le_refl _)
 have hl:=pbS_length U W off W.length
 have f3:off+W.length < (pbS U W off W.length).1.length:=by rw [hl]; exact hoff
 unfold pbU
 simp only []
 generalize pbS U W off W.length=p at *
 rw [show ((off:Int)+(W.length:Int))=((off+W.length:Nat):Int) from rfl]
 have hu:=InR_rd b32_pos h1 ((off+W.length:Nat):Int)
 generalize hx:rd p.1 ((off+W.length:Nat):Int)=u at *
 have key:∃ q m:Int,(u+p.2)%4294967296=m∧u+p.2=4294967296*q+m∧0≤m∧m < 4294967296∧(q=0∨q=1):=by
  clear h4 h5 h1 hl f3 hx
  unfold b32 at *
  exact ⟨(u+p.2)/4294967296,_,rfl,by omega,by omega,by omega,by omega⟩
 obtain ⟨q,m,hm,hqm,hm0,hm1,hq1⟩:=key
 rw [hm]
 refine ⟨q,hq1,InR_set h1 _ hm0 hm1,by rw [List.length_set]; exact hl,?_,fun j hj=>?_⟩
 ·rw [lv_set _ _ _ _ f3,getD_eq_rd,hx,h4,List.take_length,Int.pow_succ]
  have e5:(b32:Int)=4294967296:=rfl
  rw [e5]
  have:m=u+p.2 - 4294967296*q:=by omega
  rw [this]
  generalize (4294967296:Int)^(off+W.length)=P
  generalize lv 4294967296 W*4294967296^off=Z
  clear hm hqm this h4
  grind
 have hne:off+W.length≠j:=by omega
 rw [lset_ne _ hne]
 exact h5 j (by omega)
end Go.Proofs.YtmkgijiniopalaaDoor.SB
end
section
namespace Go.Proofs.YtmkgijiniopalaaDoor.SB
open Go.RowKit Go.Proofs.YtmkgijiniopalaaDoor.A Go.Proofs.YtmkgijiniopalaaDoor.B Go.Proofs.YtmkgijiniopalaaDoor.C Go.Proofs.YtmkgijiniopalaaDoor.H Go.Proofs.YtmkgijiniopalaaDoor.L Go.Proofs.YtmkgijiniopalaaDoor.M Go.Proofs.YtmkgijiniopalaaDoor.SA Go.Proofs.YtmkgijiniopalaaDoorW.PrintWords Go.Proofs.YtmkgijiniopalaaDoorW.PrintLast Go.Proofs.YtmkgijiniopalaaDoorW.PrintMore
theorem or_hi {x y:Int} (hx:0≤x∧x < b32) (hy:0≤y∧y < b32):Go.bits .or .u64 (IntKind.u64.wrap (x*4294967296)) (IntKind.u64.wrap y)=x*b32+y:=by
 unfold b32 at *
 rw [u64_id (t:=x*4294967296) (by omega) (by omega),u64_id (t:=y) hy.1 (by omega)]
 have e64:(2:Int)^64=18446744073709551616:=by decide
 have e32:(2:Int)^32=4294967296:=by decide
 exact or64 32 _ _ (by omega) (by rw [e32]; omega) (by rw [e64]; omega) hy.1 (by rw [e32]; omega) (by rw [e64]; omega)
theorem top_le {b P v1 v2 vl u2 wl top:Int} (hb:0 < b) (hP:0 < P) (hl:vl < P) (hw:0≤wl) (hu:0≤u2) (h:(top*b+u2)*P+wl < b*((v1*b+v2)*P+vl)):top≤v1*b+v2:=by
 have hbP:0 < b*P:=Int.mul_pos hb hP
 have h1:0≤u2*P:=Int.mul_nonneg hu (Int.le_of_lt hP)
 have h2:b*vl≤b*P:=Int.mul_le_mul_of_nonneg_left (Int.le_of_lt hl) (Int.le_of_lt hb)
 have h3:(b*P)*top < (b*P)*(v1*b+v2+1):=by
  have e1:(b*P)*top=(top*b+u2)*P - u2*P:=by grind
  have e2:(b*P)*(v1*b+v2+1)=b*((v1*b+v2)*P+vl) - b*vl+b*P:=by grind
  rw [e1,e2]
  omega
 have:=Int.lt_of_mul_lt_mul_left h3 (Int.le_of_lt hbP)
 omega
structure Est (U Vl:List Int) (n k:Nat) (P vl wl top:Int):Prop where
 rU:InR b32 U
 rV:InR b32 Vl
 n2:2≤n
 nV:n≤Vl.length
 kU:k+n < U.length
 sU:U.length≤281474976710656
 hP:0 < P
 hv1:1≤rd Vl ((n - 1:Nat):Int)
 vl0:0≤vl
 vl1:vl < P
 wl0:0≤wl
 wl1:wl < P
 top0:0≤top
 lt:(top*b32+rd U ((k+n - 2:Nat):Int))*P+wl < b32*((rd Vl ((n - 1:Nat):Int)*b32+rd Vl ((n - 2:Nat):Int))*P+vl)
def Est.W (U:List Int) (n k:Nat) (P wl top:Int):Int:=(top*b32+rd U ((k+n - 2:Nat):Int))*P+wl
def Est.v (Vl:List Int) (n:Nat) (P vl:Int):Int:=(rd Vl ((n - 1:Nat):Int)*b32+rd Vl ((n - 2:Nat):Int))*P+vl
theorem est_loop (q U Vl:List Int) (by_:Int) (n k:Nat) (P vl wl top:Int) (E:Est U Vl n k P vl wl top) (R:List Int × List Int)
 (hR:∀ d:Int,0≤d→d < b32→Est.W U n k P wl top < (d+1)*Est.v Vl n P vl→d*Est.v Vl n P vl≤Est.W U n k P wl top+Est.v Vl n P vl→Ev (fun K=>nat_long.j3 K q by_ (n:Int) U Vl (k:Int) d) R) :
 ∀ (m:Nat) (d rest:Int),d=(m:Int)→d < 18446744073709551616→0≤rest→rest < b32→top=d*rd Vl ((n - 1:Nat):Int)+rest→Est.W U n k P wl top < (d+1)*Est.v Vl n P vl →
   Ev (fun K=>nat_long.l1 K q by_ (n:Int) U Vl (k:Int) d rest) R:=by
 have hn:=E.n2
 have hnV:=E.nV
 have hkU:=E.kU
 have hsU:=E.sU
 have iv1:=InR_rd b32_pos E.rV ((n - 1:Nat):Int)
 have iv2:=InR_rd b32_pos E.rV ((n - 2:Nat):Int)
 have iu2:=InR_rd b32_pos E.rU ((k+n - 2:Nat):Int)
 have hv1:=E.hv1
 have hlt:=E.lt
 have htop:=top_le b32_pos E.hP E.vl1 E.wl0 iu2.1 hlt
 have hvnn:0≤Est.v Vl n P vl:=Int.add_nonneg (Int.mul_nonneg (Int.add_nonneg (Int.mul_nonneg iv1.1 (Int.le_of_lt b32_pos)) iv2.1) (Int.le_of_lt E.hP)) E.vl0
 have hb:(b32:Int)=4294967296:=rfl
 have bnd1:(Vl.length:Int)≥n:=by omega
 have w1:wrap64 ((n:Int) - 1)=((n - 1:Nat):Int):=by
  have e:(n:Int) - 1=((n - 1:Nat):Int):=by omega
  rw [e]; exact wrap64_id (by omega) (by omega)
 have w2:wrap64 ((n:Int) - 2)=((n - 2:Nat):Int):=by
  have e:(n:Int) - 2=((n - 2:Nat):Int):=by clear w1; omega
  rw [e]; exact wrap64_id (by clear w1; omega) (by clear w1; omega)
 have w3:wrap64 ((k:Int)+(n:Int))=((k+n:Nat):Int):=by
  have e:(k:Int)+(n:Int)=((k+n:Nat):Int):=rfl
  rw [e]; exact wrap64_id (by clear w1 w2; omega) (by clear w1 w2; omega)
 have w4:wrap64 (((k+n:Nat):Int) - 2)=((k+n - 2:Nat):Int):=by
  have e:((k+n:Nat):Int) - 2=((k+n - 2:Nat):Int):=by clear w1 w2 w3; omega
  rw [e]; exact wrap64_id (by clear w1 w2 w3; omega) (by clear w1 w2 w3; omega)
 have g1:0≤((n - 1:Nat):Int):=Int.natCast_nonneg _
 have g1l:((n - 1:Nat):Int) < (Vl.length:Int):=by clear w1 w2 w3 w4; omega
 have g2:0≤((n - 2:Nat):Int):=Int.natCast_nonneg _
 have g2l:((n - 2:Nat):Int) < (Vl.length:Int):=by clear w1 w2 w3 w4; omega
 have g3:0≤((k+n - 2:Nat):Int):=Int.natCast_nonneg _
 have g3l:((k+n - 2:Nat):Int) < (U.length:Int):=by clear w1 w2 w3 w4; omega
 intro m
 induction m with
 | zero =>
   intro d rest hd hd64 hr0 hr1 ht hW
   have e:d=0:=hd
   subst e
   have c1:¬ ((0:Int)/4294967296 > 0):=by decide
   have hprod:IntKind.u64.wrap (0*IntKind.u64.wrap (rd Vl ((n - 2:Nat):Int)))=0:=by rw [Int.zero_mul]; rfl
   have hnn:0≤rest*b32+rd U ((k+n - 2:Nat):Int):=Int.add_nonneg (Int.mul_nonneg hr0 (Int.le_of_lt b32_pos)) iu2.1
   have c2:¬ ((0:Int) > rest*b32+rd U ((k+n - 2:Nat):Int)):=Int.not_lt.2 hnn
   refine Ev.succ ?_
   simp only [nat_long.l1,if_neg c1,w2,if_pos g2,if_pos g2l,w3,w4,if_pos g3,if_pos g3l,hprod,or_hi ⟨hr0,hr1⟩ iu2,decide_eq_false c2]
   refine Ev.succ ?_
   have gf:¬ (false=true):=by decide
   simp only [nat_long.j2,if_neg gf]
   refine hR 0 (Int.le_refl 0) b32_pos hW ?_
   have hWnn:0≤Est.W U n k P wl top:=Int.add_nonneg (Int.mul_nonneg (Int.add_nonneg (Int.mul_nonneg E.top0 (Int.le_of_lt b32_pos)) iu2.1) (Int.le_of_lt E.hP)) E.wl0
   rw [Int.zero_mul]
   exact Int.add_nonneg hWnn hvnn
 | succ m ih =>
   intro d rest hd hd64 hr0 hr1 ht hW
   have hd1:1≤d:=by rw [hd]; exact Int.ofNat_le.2 (Nat.succ_le_succ (Nat.zero_le m))
   have hdm:d - 1=(m:Int):=by rw [hd]; omega
   have hd0:0≤d:=by clear w1 w2 w3 w4 hlt hW ht hd hdm; omega
   have back:(b32≤d∨rest*b32+rd U ((k+n - 2:Nat):Int) < d*rd Vl ((n - 2:Nat):Int))→Ev (fun K=>nat_long.j2 K q by_ (n:Int) U Vl (k:Int) d rest true) R:=by
    intro hc
    have hW2:Est.W U n k P wl top < d*Est.v Vl n P vl:=KD.est_step E.hP E.vl0 E.wl1 hd0 ht hlt hvnn hc
    have hW3:Est.W U n k P wl top < (d - 1+1)*Est.v Vl n P vl:=by rw [Int.sub_add_cancel]; exact hW2
    have ht2:top=(d - 1)*rd Vl ((n - 1:Nat):Int)+(rest+rd Vl ((n - 1:Nat):Int)):=by rw [ht]; grind
    have u1:IntKind.u64.wrap (d - 1)=d - 1:=by clear w1 w2 w3 w4 hlt hW hW2 hW3 ht ht2 htop hd hdm; exact u64_id (by omega) (by omega)
    have u2:IntKind.u64.wrap (rest+IntKind.u64.wrap (rd Vl ((n - 1:Nat):Int)))=rest+rd Vl ((n - 1:Nat):Int):=by
     clear w1 w2 w3 w4 hlt hW hW2 hW3 ht ht2 htop hd hdm u1
     rw [hb] at iv1 hr1
     generalize rd Vl ((n - 1:Nat):Int)=v1 at *
     rw [u64_id (t:=v1) iv1.1 (by omega),u64_id (t:=rest+v1) (by omega) (by omega)]
    have hr2:0≤rest+rd Vl ((n - 1:Nat):Int):=Int.add_nonneg hr0 iv1.1
    refine Ev.succ ?_
    simp only [nat_long.j2,if_pos trivial,w1,if_pos g1,if_pos g1l,u1,u2]
    by_cases hbr:b32≤rest+rd Vl ((n - 1:Nat):Int)
    ·have c : (rest + rd Vl ((n - 1 : Nat) : Int)) / 4294967296 > 0 := by
      have:1≤(rest+rd Vl ((n - 1:Nat):Int))/4294967296:=(Int.le_ediv_iff_mul_le (by decide)).2 (by rw [Int.one_mul]; exact hbr)
      exact this
     simp only [if_pos c]
     have hdb:d - 1 < b32:=by
      refine Int.not_le.1 (fun hge=>?_)
      have m1:b32*rd Vl ((n - 1:Nat):Int)≤(d - 1)*rd Vl ((n - 1:Nat):Int):=Int.mul_le_mul_of_nonneg_right hge iv1.1
      have m2:=iv2.2
      rw [Int.mul_comm b32] at m1
      generalize (d - 1)*rd Vl ((n - 1:Nat):Int)=A1 at *
      generalize rd Vl ((n - 1:Nat):Int)*b32=A2 at *
      clear hlt hW hW2 hW3 hR ih w1 w2 w3 w4 u1 u2 c ht
      omega
     exact hR (d - 1) (by rw [hdm]; exact Int.natCast_nonneg _) hdb hW3 (KD.est_exit b32_pos E.hP E.hv1 iv2.1 iv2.2 E.vl0 E.vl1 E.wl0 iu2.1 (by rw [hdm]; exact Int.natCast_nonneg _) ht2 hdb (.inr hbr))
    have hbr2:rest+rd Vl ((n - 1:Nat):Int) < b32:=Int.not_le.1 hbr
    have c:¬ ((rest+rd Vl ((n - 1:Nat):Int))/4294967296 > 0):=by
     have:(rest+rd Vl ((n - 1:Nat):Int))/4294967296=0:=Int.ediv_eq_zero_of_lt hr2 hbr2
     rw [this]; decide
    simp only [if_neg c]
    exact ih (d - 1) _ hdm (by clear w1 w2 w3 w4 hlt hW hW2 hW3 ht ht2 htop hd hdm u1 u2 c; omega) hr2 hbr2 ht2 hW3
   refine Ev.succ ?_
   by_cases hdb:b32≤d
   ·have c1 : d / 4294967296 > 0 := by
     have:1≤d/4294967296:=(Int.le_ediv_iff_mul_le (by decide)).2 (by rw [Int.one_mul]; exact hdb)
     exact this
    simp only [nat_long.l1,if_pos c1]
    exact back (.inl hdb)
   have hdb2:d < b32:=Int.not_le.1 hdb
   have c1:¬ (d/4294967296 > 0):=by
    have:d/4294967296=0:=Int.ediv_eq_zero_of_lt hd0 hdb2
    rw [this]; decide
   have hprod:IntKind.u64.wrap (d*IntKind.u64.wrap (rd Vl ((n - 2:Nat):Int)))=d*rd Vl ((n - 2:Nat):Int):=by
    clear w1 w2 w3 w4 hlt hW ht htop hd hdm hR ih back
    rw [hb] at iv2 hdb2
    generalize rd Vl ((n - 2:Nat):Int)=v2 at *
    have m1:0≤d*v2:=Int.mul_nonneg hd0 iv2.1
    have m2:d*v2≤4294967295*v2:=Int.mul_le_mul_of_nonneg_right (by omega) iv2.1
    rw [u64_id (t:=v2) iv2.1 (by omega)]
    exact u64_id m1 (by omega)
   by_cases hc:rest*b32+rd U ((k+n - 2:Nat):Int) < d*rd Vl ((n - 2:Nat):Int)
   ·have c2:d*rd Vl ((n - 2:Nat):Int) > rest*b32+rd U ((k+n - 2:Nat):Int):=hc
    simp only [nat_long.l1,if_neg c1,w2,if_pos g2,if_pos g2l,w3,w4,if_pos g3,if_pos g3l,hprod,or_hi ⟨hr0,hr1⟩ iu2,decide_eq_true c2]
    exact back (.inr hc)
   have c2:¬ (d*rd Vl ((n - 2:Nat):Int) > rest*b32+rd U ((k+n - 2:Nat):Int)):=hc
   simp only [nat_long.l1,if_neg c1,w2,if_pos g2,if_pos g2l,w3,w4,if_pos g3,if_pos g3l,hprod,or_hi ⟨hr0,hr1⟩ iu2,decide_eq_false c2]
   refine Ev.succ ?_
   have gf:¬ (false=true):=by decide
   simp only [nat_long.j2,if_neg gf]
   exact hR d hd0 hdb2 hW (KD.est_exit b32_pos E.hP E.hv1 iv2.1 iv2.2 E.vl0 E.vl1 E.wl0 iu2.1 hd0 ht hdb2 (.inl (Int.not_lt.1 hc)))
end Go.Proofs.YtmkgijiniopalaaDoor.SB
end
section
namespace Go.Proofs.YtmkgijiniopalaaDoor.SB
open Go.RowKit Go.Proofs.YtmkgijiniopalaaDoor.A Go.Proofs.YtmkgijiniopalaaDoor.B Go.Proofs.YtmkgijiniopalaaDoor.C Go.Proofs.YtmkgijiniopalaaDoor.H Go.Proofs.YtmkgijiniopalaaDoor.L Go.Proofs.YtmkgijiniopalaaDoor.M Go.Proofs.YtmkgijiniopalaaDoor.SA Go.Proofs.YtmkgijiniopalaaDoorW.PrintWords Go.Proofs.YtmkgijiniopalaaDoorW.PrintLast Go.Proofs.YtmkgijiniopalaaDoorW.PrintMore
theorem lv_all_zero (b:Int):∀ l:List Int,(∀ j,l.getD j 0=0)→lv b l=0
 | [],_=>rfl
 | x::l,h=>by
   have h0:x=0:=h 0
   have h1:=lv_all_zero b l (fun j=>h (j+1))
   simp [lv,h0,h1]
theorem lv_drop_zero {l:List Int} {m:Nat} (h:∀ j,m≤j→l.getD j 0=0):lv b32 (l.drop m)=0:=by
 refine lv_all_zero _ _ (fun j=>?_)
 rw [List.getD_eq_getElem?_getD,List.getElem?_drop,← List.getD_eq_getElem?_getD]
 exact h (m+j) (by omega)
theorem lv_lt_of_zero {l:List Int} {m:Nat} (hl:InR b32 l) (hm:m≤l.length) (h:∀ j,m≤j→l.getD j 0=0):lv b32 l < b32^m:=by
 rw [lv_split b32 l m hm,lv_drop_zero h,Int.mul_zero,Int.add_zero]
 have:=lv_lt b32_pos (InR_take hl m)
 rw [List.length_take,Nat.min_eq_left hm] at this
 exact this
theorem zero_of_lv_lt {l:List Int} {m:Nat} (hl:InR b32 l) (h:lv b32 l < b32^m) (j:Nat) (hj:m≤j):l.getD j 0=0:=by
 have h1:=rd_le_lv b32_pos l j hl
 have h2:=InR_getD b32_pos hl j
 refine Int.le_antisymm (Int.not_lt.1 (fun hgt=>?_)) h2.1
 have hp:(0:Int) < b32^j:=pow_pos' b32_pos j
 have h3:1*b32^j≤l.getD j 0*b32^j:=Int.mul_le_mul_of_nonneg_right hgt (Int.le_of_lt hp)
 have h4:(b32:Int)^m≤b32^j:=by
  have e:j=m+(j - m):=by omega
  rw [e,Int.pow_add]
  have h5:(b32:Int)^m*1≤b32^m*b32^(j - m):=Int.mul_le_mul_of_nonneg_left (pow_pos' b32_pos _) (Int.le_of_lt (pow_pos' b32_pos m))
  rw [Int.mul_one] at h5; exact h5
 rw [Int.one_mul] at h3
 exact absurd h (Int.not_lt.2 (Int.le_trans h4 (Int.le_trans h3 h1)))
theorem lv_top3 {l:List Int} {n:Nat} (hn:2≤n) (hl:n < l.length) (h:lv b32 (l.drop (n+1))=0) :
 lv b32 l=((rd l (n:Int)*b32+rd l ((n - 1:Nat):Int))*b32+rd l ((n - 2:Nat):Int))*b32^(n - 2)+lv b32 (l.take (n - 2)):=by
 obtain ⟨m,rfl⟩:∃ m,n=m+2:=⟨n - 2,by omega⟩
 rw [lv_split b32 l (m+2+1) (by omega),h,Int.mul_zero,Int.add_zero,lv_take_succ _ _ _ hl,lv_take_succ _ _ _ (by omega),lv_take_succ _ _ _ (by omega),getD_eq_rd,getD_eq_rd,getD_eq_rd]
 rw [show m+2 - 1=m+1 by omega,show m+2 - 2=m by omega,show m+2=m+1+1 from rfl,Int.pow_succ,Int.pow_succ]
 grind
theorem lv_top2 {l:List Int} {n:Nat} (hn:2≤n) (hl:n≤l.length) :
 lv b32 (l.take n)=(rd l ((n - 1:Nat):Int)*b32+rd l ((n - 2:Nat):Int))*b32^(n - 2)+lv b32 (l.take (n - 2)):=by
 obtain ⟨m,rfl⟩:∃ m,n=m+2:=⟨n - 2,by omega⟩
 rw [show m+2=m+1+1 from rfl,lv_take_succ _ _ _ (by omega),lv_take_succ _ _ _ (by omega),getD_eq_rd,getD_eq_rd]
 rw [show m+1+1 - 1=m+1 by omega,show m+1+1 - 2=m by omega,Int.pow_succ]
 grind
theorem rd_drop (l:List Int) (k j:Nat):rd (l.drop k) (j:Int)=rd l ((k+j:Nat):Int):=by
 rw [← getD_eq_rd,← getD_eq_rd,List.getD_eq_getElem?_getD,List.getElem?_drop,← List.getD_eq_getElem?_getD]
theorem step_val {T W v d bk top e f L1:Int} (hbk:0 < bk) (hT0:0≤T) (hT1:T < bk) (hv:0 < v) (h:d*v≤W∧W < (d+1)*v):0≤T+bk*W - d*v*bk∧T+bk*W - d*v*bk < v*bk:=by
 have h1:0≤bk*(W - d*v):=Int.mul_nonneg (Int.le_of_lt hbk) (by omega)
 have h2 : bk * (W - d * v + 1) ≤ bk * v := Int.mul_le_mul_of_nonneg_left (by have e : (d + 1) * v = d * v + v := by rw [Int.add_mul, Int.one_mul]
                                                                              omega) (Int.le_of_lt hbk)
 have e1:T+bk*W - d*v*bk=T+bk*(W - d*v):=by grind
 have e2:bk*(W - d*v+1)=bk*(W - d*v)+bk:=by grind
 have e3:v*bk=bk*v:=Int.mul_comm _ _
 rw [e1,e3]
 omega
theorem digit_step (q U Vl:List Int) (by_:Int) (n k:Nat) (hU:InR b32 U) (hV:InR b32 Vl) (hn:2≤n) (hnV:n≤Vl.length) (hkU:k+n < U.length) (hsU:U.length≤70368744177664) (hq:k < q.length) (hqr:InR b32 q)
 (vv:Int) (hvv:lv b32 (Vl.take n)=vv) (hv0:0 < vv) (hlt:lv b32 U < vv*b32^(k+1)) (d:Int) (hd0:0≤d) (hdb:d < b32) (hd1:lv b32 (U.drop k) < (d+1)*vv) (hd2:d*vv≤lv b32 (U.drop k)+vv) (R:List Int × List Int)
 (hR:∀ (U':List Int) (D:Int),InR b32 U' → U'.length=U.length→0≤D→D < b32→lv b32 U' = lv b32 U - D*vv*b32^k→lv b32 U' < vv*b32^k→Ev (fun K=>nat_long.l0 K (q.set k D) by_ (n:Int) U' Vl ((k:Int) - 1)) R) :
 Ev (fun K=>nat_long.j3 K q by_ (n:Int) U Vl (k:Int) d) R:=by
 have hlW:(Vl.take n).length=n:=by rw [List.length_take]; omega
 have hWr:=InR_take hV n
 have hvn:vv < b32^n:=by
  have:=lv_lt b32_pos hWr
  rw [hlW,hvv] at this; exact this
 have hpk:(0:Int) < b32^k:=pow_pos' b32_pos k
 have hpk1:(0:Int) < b32^(k+1):=pow_pos' b32_pos (k+1)
 have hUlt:lv b32 U < b32^(k+n+1):=by
  have h1:vv*b32^(k+1)≤b32^n*b32^(k+1):=Int.mul_le_mul_of_nonneg_right (Int.le_of_lt hvn) (Int.le_of_lt hpk1)
  rw [← Int.pow_add,show n+(k+1)=k+n+1 by omega] at h1
  exact Int.lt_of_lt_of_le hlt h1
 have hUz:∀ j,k+n+1≤j→U.getD j 0=0:=fun j hj=>zero_of_lv_lt hU hUlt j hj
 have hsplit:=lv_split b32 U k (by omega)
 have hT0:=lv_nonneg b32_pos (InR_take hU k)
 have hT1:=lv_lt b32_pos (InR_take hU k)
 rw [List.length_take,Nat.min_eq_left (by omega)] at hT1
 obtain ⟨e,he,hB,ht1,ht2,ht3,ht4⟩:=tk_spec U (Vl.take n) k d hU hWr ⟨hd0,hdb⟩ (by rw [hlW]; exact hkU)
 rw [hlW,hvv] at ht3
 rw [hlW] at ht4
 have htlt:lv b32 (tkU U (Vl.take n) k d) < b32^(k+n+1):=lv_lt_of_zero ht1 (by rw [ht2]; exact hkU) (fun j hj=>by rw [ht4 j hj]; exact hUz j hj)
 have htnn:=lv_nonneg b32_pos ht1
 have gT:0≤(k:Int)∧(k:Int)+(n:Int) < (U.length:Int)∧U.length≤281474976710656∧0≤(n:Int)∧(n:Int)≤(Vl.length:Int):=⟨by omega,by omega,by omega,by omega,by omega⟩
 have hfT:nat_takeAwayAt.f U Vl d (k:Int) (n:Int)=some (tkB U (Vl.take n) k d,tkU U (Vl.take n) k d):=by
  unfold nat_takeAwayAt.f
  rw [if_pos gT,Int.toNat_natCast,Int.toNat_natCast]
 have w1:wrap64 ((k:Int) - 1)=(k:Int) - 1:=wrap64_id (by omega) (by omega)
 have gk:0≤(k:Int):=Int.natCast_nonneg _
 have gq:(k:Int) < (q.length:Int):=Int.ofNat_lt.2 hq
 have hW0:0≤lv b32 (U.drop k):=lv_nonneg b32_pos (InR_drop hU k)
 refine Ev.succ ?_
 rcases KD.digit hv0 hd1 hd2 with ⟨hlt2,hdiv⟩ | ⟨hge,hdiv⟩
 ·
  have hneg:lv b32 U - d*vv*b32^k < 0:=by
   have h1:b32^k*(lv b32 (U.drop k)+1)≤b32^k*(d*vv):=Int.mul_le_mul_of_nonneg_left hlt2 (Int.le_of_lt hpk)
   have e1:b32^k*(lv b32 (U.drop k)+1)=b32^k*lv b32 (U.drop k)+b32^k:=by rw [Int.mul_add,Int.mul_one]
   have e2:b32^k*(d*vv)=d*vv*b32^k:=Int.mul_comm _ _
   rw [e1,e2] at h1
   rw [hsplit]
   generalize b32^k*lv b32 (U.drop k)=A1 at *
   generalize d*vv*b32^k=A2 at *
   generalize lv b32 (U.take k)=A3 at *
   generalize b32^k=A4 at *
   clear w1 ht3 hsplit hlt hd1 hd2 hlt2 hR hT0 htlt htnn hpk1 hUlt hvn e1 e2 hdiv
   omega
  have he1:e=1:=by
   rcases he with h | h
   ·rw [h,Int.zero_mul,Int.add_zero] at ht3
    rw [ht3] at htnn
    exact absurd hneg (Int.not_lt.2 htnn)
   exact h
  have hBt:tkB U (Vl.take n) k d=true:=by rw [hB,he1]; rfl
  have hd1':1≤d:=by
   refine Int.not_lt.1 (fun h=>?_)
   have:d=0:=by clear w1 ht3 hsplit hlt hd1 hd2 hlt2 hR hneg; omega
   rw [this,Int.zero_mul] at hlt2
   exact absurd hW0 (Int.not_le.2 hlt2)
  obtain ⟨f,hf,hp1,hp2,hp3,hp4⟩:=pb_spec (tkU U (Vl.take n) k d) (Vl.take n) k ht1 hWr (by rw [hlW,ht2]; exact hkU)
  rw [hlW,hvv,ht3,he1,Int.one_mul] at hp3
  rw [hlW] at hp4
  have hplt:lv b32 (pbU (tkU U (Vl.take n) k d) (Vl.take n) k) < b32^(k+n+1):=lv_lt_of_zero hp1 (by rw [hp2,ht2]; exact hkU) (fun j hj=>by rw [hp4 j hj,ht4 j hj]; exact hUz j hj)
  have hdm:(d - 1)*vv=d*vv - vv:=by rw [Int.sub_mul,Int.one_mul]
  have hsv:=step_val (d:=d - 1) (top:=0) (e:=0) (f:=0) (L1:=0) hpk hT0 hT1 hv0 (W:=lv b32 (U.drop k)) (by rw [Int.sub_add_cancel]; exact ⟨by rw [hdm]; clear w1 ht3 hsplit hlt hd1 hlt2 hR hneg hp3; omega,hlt2⟩)
  rw [← hsplit] at hsv
  have hval:lv b32 U - (d - 1)*vv*b32^k=lv b32 U - d*vv*b32^k+vv*b32^k:=by rw [hdm,Int.sub_mul]; generalize d*vv*b32^k=A; generalize vv*b32^k=B; clear w1; omega
  have hf1:f=1:=by
   rcases hf with h | h
   ·exfalso
    rw [h,Int.zero_mul,Int.sub_zero] at hp3
    have h0:=hsv.1
    rw [hval] at h0
    rw [hp3] at hplt
    generalize d*vv*b32^k=A at *
    generalize vv*b32^k=B at *
    generalize lv b32 U=C at *
    generalize b32^(k+n+1)=D at *
    clear w1 hp3 ht3 hsplit hlt hd1 hd2 hlt2 hR hneg hval hsv
    omega
   exact h
  rw [hf1,Int.one_mul] at hp3
  have hp3':lv b32 (pbU (tkU U (Vl.take n) k d) (Vl.take n) k)=lv b32 U - (d - 1)*vv*b32^k:=by
   rw [hp3,hval]
   generalize d*vv*b32^k=A
   generalize vv*b32^k=B
   generalize lv b32 U=C
   generalize b32^(k+n+1)=D
   clear w1; omega
  have gP:0≤(k:Int)∧(k:Int)+(n:Int) < ((tkU U (Vl.take n) k d).length:Int)∧(tkU U (Vl.take n) k d).length≤281474976710656∧0≤(n:Int)∧(n:Int)≤(Vl.length:Int):=by rw [ht2]; exact gT
  have hfP:nat_putBackAt.f (tkU U (Vl.take n) k d) Vl (k:Int) (n:Int)=some (pbU (tkU U (Vl.take n) k d) (Vl.take n) k):=by
   unfold nat_putBackAt.f
   rw [if_pos gP,Int.toNat_natCast,Int.toNat_natCast]
  have hu:IntKind.u64.wrap (d - 1)%4294967296=d - 1:=by
   unfold b32 at hdb
   clear w1 hp3 ht3 hsplit hlt hd1 hd2 hlt2 hR hneg hval hsv hp3' hdm
   rw [u64_id (by omega) (by omega)]; omega
  simp only [nat_long.j3,hfT,Option.bind_some,hBt,if_pos trivial,hfP,if_pos gk,if_pos gq,hu,Int.toNat_natCast,w1]
  exact hR _ (d - 1) hp1 (by rw [hp2,ht2]) (by clear w1; omega) (by unfold b32 at *; clear w1 hp3 ht3 hsplit hlt hd1 hd2 hlt2 hneg hval hsv hp3' hdm hu; omega) hp3' (by rw [hp3']; exact hsv.2)
 have hsv:=step_val (d:=d) (top:=0) (e:=0) (f:=0) (L1:=0) hpk hT0 hT1 hv0 (W:=lv b32 (U.drop k)) ⟨hge,hd1⟩
 rw [← hsplit] at hsv
 have he0:e=0:=by
  rcases he with h | h
  ·exact h
  exfalso
  rw [h,Int.one_mul] at ht3
  have h0:=hsv.1
  rw [ht3] at htlt
  generalize d*vv*b32^k=A at *
  generalize lv b32 U=C at *
  generalize b32^(k+n+1)=D at *
  clear w1 ht3 hsplit hlt hd1 hd2 hge hR hsv
  omega
 have hBf:tkB U (Vl.take n) k d=false:=by rw [hB,he0]; rfl
 rw [he0,Int.zero_mul,Int.add_zero] at ht3
 have hm:d%4294967296=d:=by unfold b32 at hdb; clear w1 ht3 hsplit hlt hd1 hd2 hge hR hsv; omega
 have gf:¬ (false=true):=by decide
 simp only [nat_long.j3,hfT,Option.bind_some,hBf,if_neg gf,if_pos gk,if_pos gq,hm,Int.toNat_natCast,w1]
 exact hR _ d ht1 ht2 hd0 hdb ht3 (by rw [ht3]; exact hsv.2)
end Go.Proofs.YtmkgijiniopalaaDoor.SB
end
section
namespace Go.Proofs.YtmkgijiniopalaaDoor.SB
open Go.RowKit Go.Proofs.YtmkgijiniopalaaDoor.A Go.Proofs.YtmkgijiniopalaaDoor.B Go.Proofs.YtmkgijiniopalaaDoor.C Go.Proofs.YtmkgijiniopalaaDoor.H Go.Proofs.YtmkgijiniopalaaDoor.L Go.Proofs.YtmkgijiniopalaaDoor.M Go.Proofs.YtmkgijiniopalaaDoor.SA Go.Proofs.YtmkgijiniopalaaDoorW.PrintWords Go.Proofs.YtmkgijiniopalaaDoorW.PrintLast Go.Proofs.YtmkgijiniopalaaDoorW.PrintMore
def dl:Nat→Int→List Int
 | 0,_=>[]
 | n+1,v=>(v%b32)::dl n (v/b32)
theorem dl_lv:∀ {l:List Int},InR b32 l→dl l.length (lv b32 l)=l
 | [],_=>rfl
 | x::l,h=>by
   have h1:=InR_cons.1 h
   have hx:(x+b32*lv b32 l)%b32=x:=by rw [Int.add_mul_emod_self_left]; exact Int.emod_eq_of_lt h1.1.1 h1.1.2
   have hq:(x+b32*lv b32 l)/b32=lv b32 l:=by rw [Int.add_mul_ediv_left _ _ (by decide),Int.ediv_eq_zero_of_lt h1.1.1 h1.1.2,Int.zero_add]
   simp only [List.length_cons,dl,lv,hx,hq,dl_lv h1.2]
theorem dl_eq {l:List Int} {n:Nat} {v:Int} (h:InR b32 l) (hn:l.length=n) (hv:lv b32 l=v):dl n v=l:=by subst hn; subst hv; exact dl_lv h
theorem shift_digit {x w:Int} {s:Nat} (hs:s≤31) (hx:0≤x∧x < b32) (hw:0≤w∧w < b32) :
 ∃ y:Int,shr .u32 x (s:Int)=y∧0≤y∧y < b32∧2^s*y=x - x%2^s ∧
 ∃ z:Int,Go.bits .or .u32 y (shl .u64 (IntKind.u64.wrap w) ((32 - s:Nat):Int)%4294967296)=z∧0≤z∧z < b32∧2^s*z=x - x%2^s+(w%2^s)*b32:=by
 have hp:(0:Int) < 2^s:=Int.pow_pos (by decide)
 have hq:(0:Int) < 2^(32 - s):=Int.pow_pos (by decide)
 have hb:=pow_split (s:=s) (by omega)
 have e1:shr .u32 x (s:Int)=x/2^s:=by
  have h:=shr_small (k:=.u32) (x:=x) (y:=(s:Int)) rfl (by show (s:Int)≤32; omega)
  rw [← h,Int.toNat_natCast]
 have hq32:(2:Int)^(32 - s)≤4294967296:=by
  rw [two_pow_cast]
  have:=Nat.pow_le_pow_right (n:=2) (by decide) (Nat.sub_le 32 s)
  have e:2^32=4294967296:=by decide
  rw [e] at this
  omega
 have h1:0≤w*2^(32 - s):=Int.mul_nonneg hw.1 (Int.le_of_lt hq)
 have h2:w*2^(32 - s)≤w*4294967296:=Int.mul_le_mul_of_nonneg_left hq32 hw.1
 have h3:w*4294967296 < 18446744073709551616:=by unfold b32 at hw; omega
 have e2:shl .u64 (IntKind.u64.wrap w) ((32 - s:Nat):Int)=w*2^(32 - s):=by
  have h:=shl_small (k:=.u64) (x:=IntKind.u64.wrap w) (y:=((32 - s:Nat):Int)) rfl (by show ((32 - s:Nat):Int)≤64; omega)
  rw [← h,Int.toNat_natCast,u64_id (t:=w) hw.1 (by unfold b32 at hw; omega),u64_id h1 (by omega)]
 have hmod:w*2^(32 - s)%4294967296=2^(32 - s)*(w%2^s):=by
  rw [show (4294967296:Int)=2^(32 - s)*2^s from hb.trans (Int.mul_comm _ _),Int.mul_comm w,Int.mul_emod_mul_of_pos _ _ hq]
 have hy0:0≤x/2^s:=Int.ediv_nonneg hx.1 (Int.le_of_lt hp)
 have hyq:x/2^s < 2^(32 - s):=by
  refine Int.ediv_lt_of_lt_mul hp ?_
  rw [Int.mul_comm,← hb]; exact hx.2
 have hdm:2^s*(x/2^s)=x - x%2^s:=by have:=Int.mul_ediv_add_emod x (2^s); omega
 have hr0:0≤w%2^s:=Int.emod_nonneg _ (by omega)
 have hr1:w%2^s+1≤2^s:=Int.emod_lt_of_pos _ hp
 have hm2:2^(32 - s)*(w%2^s+1)≤b32:=by rw [hb,Int.mul_comm (2^s)]; exact Int.mul_le_mul_of_nonneg_left hr1 (Int.le_of_lt hq)
 rw [Int.mul_add,Int.mul_one] at hm2
 have hm0:0≤2^(32 - s)*(w%2^s):=Int.mul_nonneg (Int.le_of_lt hq) hr0
 have hdvd:2^(32 - s)*(w%2^s)%2^(32 - s)=0:=Int.mul_emod_right _ _
 have e32:(2:Int)^32=b32:=by decide
 have hor:Go.bits .or .u32 (x/2^s) (2^(32 - s)*(w%2^s))=x/2^s+2^(32 - s)*(w%2^s) :=
  or32' (32 - s) _ _ hy0 hyq (by rw [e32]; omega) hm0 hdvd (by rw [e32]; omega)
 refine ⟨_,e1,hy0,by omega,hdm,_,rfl,?_⟩
 rw [e2,hmod,hor]
 refine ⟨by omega,by omega,?_⟩
 rw [Int.mul_add,hdm,← Int.mul_assoc,← hb,Int.mul_comm b32]
theorem l2_loop (q U:List Int) (n s N:Nat) (hs:s≤31) (hU:InR b32 U) (hN:U.length=N) (hn:n < N) (hsz:N≤70368744177664) (t:Int) (ht:lv b32 U=2^s*t) (hlt:lv b32 U < b32^n) (d:Nat) :
 ∀ (i:Nat) (O:List Int),i≤n→n - i=d→O.length=N→InR b32 O→(∀ j,i≤j→O.getD j 0=U.getD j 0)→2^s*lv b32 (O.take i)=lv b32 (U.take i)+(if i < n then rd U (i:Int)%2^s else 0)*b32^i →
   Ev (fun K=>nat_long.l2 K q (s:Int) (n:Int) O (n:Int) (i:Int)) (q,dl N t):=by
 have hp:(0:Int) < 2^s:=Int.pow_pos (by decide)
 induction d with
 | zero =>
   intro i O hi hd hO hr hsame hv
   have e:i=n:=by omega
   subst e
   have g:¬ ((i:Int) < (i:Int)):=by omega
   refine Ev.succ ?_
   simp only [nat_long.l2,if_neg g]
   rw [if_neg (Nat.lt_irrefl i),Int.zero_mul,Int.add_zero] at hv
   have hz:∀ j,i≤j→U.getD j 0=0:=fun j hj=>zero_of_lv_lt hU hlt j hj
   have h1:=lv_split b32 U i (by omega)
   rw [lv_drop_zero hz,Int.mul_zero,Int.add_zero] at h1
   have h2:=lv_split b32 O i (by omega)
   rw [lv_drop_zero (fun j hj=>by rw [hsame j hj]; exact hz j hj),Int.mul_zero,Int.add_zero] at h2
   rw [← h1,ht] at hv
   have h3:=Int.eq_of_mul_eq_mul_left (by omega) hv
   rw [dl_eq hr hO (h2.trans h3)]
   exact Ev.now _
 | succ d ih =>
   intro i O hi hd hO hr hsame hv
   have hin:i < n:=by omega
   have f1:i+1≤n:=by omega
   have f2:n - (i+1)=d:=by omega
   have fO:i < O.length:=by omega
   have g:((i:Int) < (n:Int)):=by omega
   have g0:0≤(i:Int):=Int.natCast_nonneg _
   have gO:(i:Int) < (O.length:Int):=Int.ofNat_lt.2 fO
   have gO1:((i+1:Nat):Int) < (O.length:Int):=Int.ofNat_lt.2 (by omega)
   have g1:0≤((i+1:Nat):Int):=Int.natCast_nonneg _
   have gs:0≤(s:Int):=Int.natCast_nonneg _
   have g32:0≤((32 - s:Nat):Int):=Int.natCast_nonneg _
   have hOi:rd O (i:Int)=rd U (i:Int):=by rw [← getD_eq_rd,← getD_eq_rd]; exact hsame i (Nat.le_refl _)
   have hOi1:rd O ((i+1:Nat):Int)=rd U ((i+1:Nat):Int):=by rw [← getD_eq_rd,← getD_eq_rd]; exact hsame (i+1) (by omega)
   obtain ⟨y,hy,hy0,hy1,hy2,z,hz,hz0,hz1,hz2⟩:=shift_digit hs (InR_rd b32_pos hU (i:Int)) (InR_rd b32_pos hU ((i+1:Nat):Int))
   rw [if_pos hin] at hv
   have hUt:=lv_take_succ b32 U i (by omega)
   rw [getD_eq_rd] at hUt
   have key : ∀ (v : Int) (c : Int), 0 ≤ v → v < b32 → 2 ^ s * v = rd U (i : Int) - rd U (i : Int) % 2 ^ s + c * b32 → c = (if i + 1 < n then rd U ((i + 1 : Nat) : Int) % 2 ^ s else 0) →
    Ev (fun K=>nat_long.l2 K q (s:Int) (n:Int) (O.set i v) (n:Int) ((i+1:Nat):Int)) (q,dl N t):=by
    intro v c hv0 hv1 hv2 hc
    refine ih (i+1) (O.set i v) f1 f2 (by rw [List.length_set]; exact hO) (InR_set hr _ hv0 hv1) (fun j hj=>?_) ?_
    ·have hne:i≠j:=by omega
     rw [lset_ne _ hne]; exact hsame j (by omega)
    rw [← hc,lv_take_succ _ _ _ (by rw [List.length_set]; exact fO),List.take_set_of_le (Nat.le_refl i),getD_eq_rd,rd_set_self _ fO,hUt,Int.mul_add,hv,← Int.mul_assoc,hv2,Int.pow_succ]
    generalize rd U (i:Int)%2^s=A
    generalize (b32:Int)^i=Q
    grind
   have w1:wrap64 ((i:Int)+1)=((i+1:Nat):Int):=by rw [wrap64_id (by omega) (by omega)]; rfl
   have w2:wrap64 (32 - (s:Int))=((32 - s:Nat):Int):=by
    have e:32 - (s:Int)=((32 - s:Nat):Int):=by omega
    rw [e]; exact wrap64_id (by clear w1; omega) (by clear w1; omega)
   refine Ev.succ ?_
   by_cases h1:i+1 < n
   ·have gn:((i+1:Nat):Int) < (n:Int):=Int.ofNat_lt.2 h1
    have hne:i≠i+1:=by omega
    simp only [nat_long.l2,if_pos g,if_pos g0,if_pos gO,if_pos gs,hOi,hy,Option.bind_some,w1,if_pos gn,if_pos g1,if_pos gO1,w2,if_pos g32,Int.toNat_natCast,rd_set_self _ fO,rd_set_ne _ hne,hOi1,hz,List.set_set]
    exact key z _ hz0 hz1 hz2 (by rw [if_pos h1])
   have gn:¬ (((i+1:Nat):Int) < (n:Int)):=fun h=>h1 (Int.ofNat_lt.1 h)
   simp only [nat_long.l2,if_pos g,if_pos g0,if_pos gO,if_pos gs,hOi,hy,Option.bind_some,w1,if_neg gn,Int.toNat_natCast]
   exact key y 0 hy0 hy1 (by rw [hy2,Int.zero_mul,Int.add_zero]) (by rw [if_neg h1])
end Go.Proofs.YtmkgijiniopalaaDoor.SB
end
section
namespace Go.Proofs.YtmkgijiniopalaaDoor.SB
open Go.RowKit Go.Proofs.YtmkgijiniopalaaDoor.A Go.Proofs.YtmkgijiniopalaaDoor.B Go.Proofs.YtmkgijiniopalaaDoor.C Go.Proofs.YtmkgijiniopalaaDoor.H Go.Proofs.YtmkgijiniopalaaDoor.L Go.Proofs.YtmkgijiniopalaaDoor.M Go.Proofs.YtmkgijiniopalaaDoor.SA Go.Proofs.YtmkgijiniopalaaDoorW.PrintWords Go.Proofs.YtmkgijiniopalaaDoorW.PrintLast Go.Proofs.YtmkgijiniopalaaDoorW.PrintMore
theorem le_pred32 {x:Int} (h:x < b32):x≤4294967295:=by unfold b32 at h; omega
theorem cast32 {A:Nat} (h:A≤4294967296):(A:Int)≤b32:=by unfold b32; omega
theorem le_of_pred {n j:Nat} (h:n - 1≤j) (h2:¬ j=n - 1):n≤j:=by omega
theorem add_sub3 (Y C Z:Int):Y+Z+(C - Z)=Y+C:=by omega
theorem quot_of {q vv r X:Int} (hv:0 < vv) (h:q*vv+r=X) (h0:0≤r) (h1:r < vv):X/vv=q∧X%vv=r:=by
 have e:X=r+vv*q:=by rw [← h,Int.mul_comm q,Int.add_comm]
 refine ⟨?_,?_⟩
 ·rw [e,Int.add_mul_ediv_left _ _ (by omega),Int.ediv_eq_zero_of_lt h0 h1,Int.zero_add]
 rw [e,Int.add_mul_emod_self_left]; exact Int.emod_eq_of_lt h0 h1
theorem long_l0 (Vl:List Int) (n s N M:Nat) (hs:s≤31) (hV:InR b32 Vl) (hn:2≤n) (hnV:n≤Vl.length) (hN:N≤70368744177664) (hM:n < N) (hMN:M+n=N) (vv:Int) (hvv:lv b32 (Vl.take n)=vv) (hv1:1≤rd Vl ((n - 1:Nat):Int)) (hv0:0 < vv) (X t:Int) (hXt:X%vv=2^s*t) :
 ∀ (k:Nat) (q U:List Int),k≤M→q.length=M→InR b32 q→(∀ j,j < k→q.getD j 0=0)→U.length=N→InR b32 U→lv b32 U < vv*b32^k→lv b32 q*vv+lv b32 U=X →
   Ev (fun K=>nat_long.l0 K q (s:Int) (n:Int) U Vl ((k:Int) - 1)) (dl M (X/vv),dl N t):=by
 have hvn:vv < b32^n:=by
  have:=lv_lt b32_pos (InR_take hV n)
  rw [List.length_take,Nat.min_eq_left hnV,hvv] at this; exact this
 intro k
 induction k with
 | zero =>
   intro q U hk hq hqr hqz hU hUr hlt hX
   have hunn:=lv_nonneg b32_pos hUr
   rw [Int.pow_zero,Int.mul_one] at hlt
   obtain ⟨hq1,hq2⟩:=quot_of hv0 hX hunn hlt
   have g:¬ (((0:Nat):Int) - 1≥0):=by decide
   refine Ev.succ ?_
   simp only [nat_long.l0,if_neg g]
   rw [hq2] at hXt
   rw [hq1,dl_eq hqr hq rfl]
   refine l2_loop q U n s N hs hUr hU hM hN t hXt (Int.lt_trans hlt hvn) n 0 U (Nat.zero_le _) rfl hU hUr (fun j _=>rfl) ?_
   have hp:(0:Int) < 2^s:=Int.pow_pos (by decide)
   have hmod:rd U ((0:Nat):Int)%2^s=0:=by
    have hsp:=lv_split b32 U 1 (by omega)
    have hb:=pow_split (s:=s) (by omega)
    rw [show (1:Nat)=0+1 from rfl,lv_take_succ _ _ _ (by omega),getD_eq_rd] at hsp
    simp only [List.take_zero,lv,Int.zero_add,Int.pow_zero,Int.mul_one] at hsp
    have e:rd U ((0:Nat):Int)=2^s*(t - 2^(32 - s)*lv b32 (U.drop (0+1))):=by
     rw [Int.mul_sub,← Int.mul_assoc,← hb,← hXt,hsp,Int.pow_succ,Int.pow_zero,Int.one_mul]
     generalize b32*lv b32 (U.drop (0+1))=Z
     generalize rd U ((0:Nat):Int)=Y
     clear hsp hXt
     omega
    rw [e]; exact Int.mul_emod_right _ _
   rw [hmod]
   simp [lv]
 | succ k ih =>
   intro q U hk hq hqr hqz hU hUr hlt hX
   have hkU:k+n < U.length:=by omega
   have hpk:(0:Int) < b32^k:=pow_pos' b32_pos k
   have hpk1:(0:Int) < b32^(k+1):=pow_pos' b32_pos (k+1)
   have hUlt:lv b32 U < b32^(k+n+1):=by
    have h1:vv*b32^(k+1)≤b32^n*b32^(k+1):=Int.mul_le_mul_of_nonneg_right (Int.le_of_lt hvn) (Int.le_of_lt hpk1)
    rw [← Int.pow_add,show n+(k+1)=k+n+1 by omega] at h1
    exact Int.lt_of_lt_of_le hlt h1
   have hUz:∀ j,k+n+1≤j→U.getD j 0=0:=fun j hj=>zero_of_lv_lt hUr hUlt j hj
   have hsplit:=lv_split b32 U k (by omega)
   have hT0:=lv_nonneg b32_pos (InR_take hUr k)
   have hDr:=InR_drop hUr k
   have hWv:lv b32 (U.drop k) < b32*vv:=by
    have h1:b32^k*lv b32 (U.drop k) < b32^k*(b32*vv):=by
     have e:b32^k*(b32*vv)=vv*b32^(k+1):=by rw [Int.pow_succ]; grind
     rw [e]
     generalize vv*b32^(k+1)=Z at *
     generalize b32^k*lv b32 (U.drop k)=Y at *
     clear ih
     omega
    exact Int.lt_of_mul_lt_mul_left h1 (Int.le_of_lt hpk)
   have hDz:lv b32 ((U.drop k).drop (n+1))=0:=by
    rw [List.drop_drop]
    exact lv_drop_zero (fun j hj=>hUz j (by omega))
   have hDl:n < (U.drop k).length:=by rw [List.length_drop]; omega
   have hW:=lv_top3 hn hDl hDz
   rw [rd_drop,rd_drop,rd_drop,show k+(n - 1)=k+n - 1 by omega,show k+(n - 2)=k+n - 2 by omega] at hW
   have hVd:=lv_top2 hn hnV
   rw [hvv] at hVd
   have hPpos:(0:Int) < b32^(n - 2):=pow_pos' b32_pos _
   have hwl0:=lv_nonneg b32_pos (InR_take hDr (n - 2))
   have hwl1:=lv_lt b32_pos (InR_take hDr (n - 2))
   rw [List.length_take,Nat.min_eq_left (by omega)] at hwl1
   have hvl0:=lv_nonneg b32_pos (InR_take hV (n - 2))
   have hvl1:=lv_lt b32_pos (InR_take hV (n - 2))
   rw [List.length_take,Nat.min_eq_left (by omega)] at hvl1
   have iu0:=InR_rd b32_pos hUr ((k+n:Nat):Int)
   have iu1:=InR_rd b32_pos hUr ((k+n - 1:Nat):Int)
   have iu2:=InR_rd b32_pos hUr ((k+n - 2:Nat):Int)
   have iv1:=InR_rd b32_pos hV ((n - 1:Nat):Int)
   have iv2:=InR_rd b32_pos hV ((n - 2:Nat):Int)
   have htop0:0≤rd U ((k+n:Nat):Int)*b32+rd U ((k+n - 1:Nat):Int):=Int.add_nonneg (Int.mul_nonneg iu0.1 (Int.le_of_lt b32_pos)) iu1.1
   obtain ⟨top,htop⟩:∃ top,rd U ((k+n:Nat):Int)*b32+rd U ((k+n - 1:Nat):Int)=top:=⟨_,rfl⟩
   have htop64:top < 18446744073709551616:=by
    rw [← htop]
    unfold b32 at iu0 iu1 ⊢
    clear hW hVd htop htop0 ih hlt hX hUlt hsplit hWv
    omega
   rw [htop] at hW htop0
   have E:Est U Vl n k (b32^(n - 2)) (lv b32 (Vl.take (n - 2))) (lv b32 ((U.drop k).take (n - 2))) top :=
    ⟨hUr,hV,hn,hnV,hkU,by omega,hPpos,hv1,hvl0,hvl1,hwl0,hwl1,htop0,by rw [← hW,← hVd]; exact hWv⟩
   have hEW:Est.W U n k (b32^(n - 2)) (lv b32 ((U.drop k).take (n - 2))) top=lv b32 (U.drop k):=hW.symm
   have hEv:Est.v Vl n (b32^(n - 2)) (lv b32 (Vl.take (n - 2)))=vv:=hVd.symm
   have hd0:0≤top/rd Vl ((n - 1:Nat):Int):=Int.ediv_nonneg htop0 iv1.1
   have hdle:top/rd Vl ((n - 1:Nat):Int)≤top:=Int.ediv_le_self _ htop0
   have hr0:0≤top%rd Vl ((n - 1:Nat):Int):=Int.emod_nonneg _ (by clear hW hVd ih; omega)
   have hr1:top%rd Vl ((n - 1:Nat):Int) < b32:=Int.lt_trans (Int.emod_lt_of_pos _ (by clear hW hVd ih; omega)) iv1.2
   have hte:top=top/rd Vl ((n - 1:Nat):Int)*rd Vl ((n - 1:Nat):Int)+top%rd Vl ((n - 1:Nat):Int):=by
    have:=Int.mul_ediv_add_emod top (rd Vl ((n - 1:Nat):Int))
    rw [Int.mul_comm (top/_)]; exact this.symm
   have hinit:Est.W U n k (b32^(n - 2)) (lv b32 ((U.drop k).take (n - 2))) top < (top/rd Vl ((n - 1:Nat):Int)+1)*Est.v Vl n (b32^(n - 2)) (lv b32 (Vl.take (n - 2))) :=
    KD.est_init b32_pos hPpos hv1 iv2.1 hvl0 iu2.2 hwl1 htop0
   have main:=est_loop q U Vl (s:Int) n k _ _ _ top E (dl M (X/vv),dl N t) (fun d a1 a2 a3 a4=>by
    rw [hEW,hEv] at a3 a4
    refine digit_step q U Vl (s:Int) n k hUr hV hn hnV hkU (by rw [hU]; exact hN) (by rw [hq]; exact hk) hqr vv hvv hv0 hlt d a1 a2 a3 a4 _ (fun U' D b1 b2 b3 b4 b5 b6=>?_)
    refine ih (q.set k D) U' (Nat.le_of_succ_le hk) (by rw [List.length_set]; exact hq) (InR_set hqr _ b3 b4) (fun j hj=>by rw [lset_ne _ (Nat.ne_of_gt hj)]; exact hqz j (Nat.lt_succ_of_lt hj)) (by rw [b2]; exact hU) b1 b6 ?_
    rw [lv_set _ _ _ _ (by rw [hq]; exact hk),hqz k (Nat.lt_succ_self k),b5,← hX,Int.sub_zero,Int.add_mul]
    have e1:D*b32^k*vv=D*vv*b32^k:=by grind
    rw [e1]
    generalize D*vv*b32^k=Z
    generalize lv b32 q*vv=Y
    generalize lv b32 U=C
    exact add_sub3 Y C Z)
    (top/rd Vl ((n - 1:Nat):Int)).toNat (top/rd Vl ((n - 1:Nat):Int)) (top%rd Vl ((n - 1:Nat):Int)) (Int.toNat_of_nonneg hd0).symm (Int.lt_of_le_of_lt hdle htop64) hr0 hr1 hte hinit
   have wk:(((k+1:Nat):Int) - 1)=(k:Int):=by clear hW hVd ih hte; omega
   have g0:((k:Int)≥0):=Int.natCast_nonneg _
   have w1:wrap64 ((k:Int)+(n:Int))=((k+n:Nat):Int):=by
    have e:(k:Int)+(n:Int)=((k+n:Nat):Int):=rfl
    have f:k+n < 9223372036854775808:=by clear hW hVd ih hte; omega
    clear hW hVd ih hte hlt hX
    rw [e]; exact wrap64_id (by omega) (by omega)
   have w2:wrap64 (((k+n:Nat):Int) - 1)=((k+n - 1:Nat):Int):=by
    have e:((k+n:Nat):Int) - 1=((k+n - 1:Nat):Int):=by clear hW hVd ih hte w1; omega
    have f:k+n < 9223372036854775808:=by clear hW hVd ih hte w1; omega
    clear hW hVd ih hte hlt hX w1
    rw [e]; exact wrap64_id (by omega) (by omega)
   have w3:wrap64 ((n:Int) - 1)=((n - 1:Nat):Int):=by
    have e:(n:Int) - 1=((n - 1:Nat):Int):=by clear hW hVd ih hte w1 w2; omega
    have f:n < 9223372036854775808:=by clear hW hVd ih hte w1 w2; omega
    clear hW hVd ih hte hlt hX w1 w2
    rw [e]; exact wrap64_id (by omega) (by omega)
   have g1:0≤((k+n:Nat):Int):=Int.natCast_nonneg _
   have g1l:((k+n:Nat):Int) < (U.length:Int):=Int.ofNat_lt.2 hkU
   have g2:0≤((k+n - 1:Nat):Int):=Int.natCast_nonneg _
   have g2l:((k+n - 1:Nat):Int) < (U.length:Int):=Int.ofNat_lt.2 (Nat.lt_of_le_of_lt (Nat.sub_le _ _) hkU)
   have g3:0≤((n - 1:Nat):Int):=Int.natCast_nonneg _
   have g3l:((n - 1:Nat):Int) < (Vl.length:Int):=by clear hW hVd ih hte w1 w2 w3; omega
   have hvw:IntKind.u64.wrap (rd Vl ((n - 1:Nat):Int))=rd Vl ((n - 1:Nat):Int):=by
    have:=iv1.2
    unfold b32 at this
    exact u64_id iv1.1 (Int.lt_trans this (by decide))
   have gz:¬ (rd Vl ((n - 1:Nat):Int)=0):=fun h=>by rw [h] at hv1; exact absurd hv1 (by decide)
   have hquo:IntKind.u64.wrap (Int.tdiv top (rd Vl ((n - 1:Nat):Int)))=top/rd Vl ((n - 1:Nat):Int):=by
    rw [tdiv_nn htop0]; exact u64_id hd0 (Int.lt_of_le_of_lt hdle htop64)
   have hrem:Int.tmod top (rd Vl ((n - 1:Nat):Int))=top%rd Vl ((n - 1:Nat):Int):=tmod_nn htop0
   have hwu:IntKind.u64.wrap (rd U ((k+n:Nat):Int))=rd U ((k+n:Nat):Int):=by
    have:=iu0.2
    unfold b32 at this
    exact u64_id iu0.1 (Int.lt_trans this (by decide))
   have hor:=or_hi iu0 iu1
   rw [htop] at hor
   refine Ev.succ ?_
   rw [wk]
   simp only [nat_long.l0,if_pos g0,w1,if_pos g1,if_pos g1l,w2,if_pos g2,if_pos g2l,w3,if_pos g3,if_pos g3l,hvw,if_neg gz,hwu,hor,hquo,hrem]
   exact main
theorem lead_shift (v:Nat) (h0:v≠0) (h:v < 4294967296):∃ s:Nat,s≤31∧32 - (Lib.bitLen v:Int)=(s:Int)∧(v+1)*2^s≤4294967296:=by
 have hs:1≤Lib.bitLen v∧2^(Lib.bitLen v - 1)≤v∧v < 2^Lib.bitLen v:=Lib.bitLenAux_bounds 64 v (Nat.lt_trans h (by decide)) h0
 have h1:Lib.bitLen v≤32:=Lib.bitLen_le v 32 (by decide) (Nat.lt_of_lt_of_eq h (by decide))
 have h2:=hs.1
 refine ⟨32 - Lib.bitLen v,by clear hs; omega,by clear hs; omega,?_⟩
 have h3:(v+1)*2^(32 - Lib.bitLen v)≤2^Lib.bitLen v*2^(32 - Lib.bitLen v):=Nat.mul_le_mul_right _ hs.2.2
 rw [← Nat.pow_add,show Lib.bitLen v+(32 - Lib.bitLen v)=32 by clear h3 hs; omega] at h3
 exact h3
theorem long_spec (x y:List Int) (hx:InR b32 x) (hy:InR b32 y) (hn:2≤y.length) (hxy:y.length≤x.length) (hsz:x.length≤70368744177662) (htop:1≤rd y ((y.length - 1:Nat):Int)) :
 Ev (fun k=>nat_longq.f k x y) (dl (x.length+1 - y.length) (lv b32 x/lv b32 y),dl y.length (lv b32 x%lv b32 y)):=by
 have k1:y.length - 1 < y.length:=by omega
 have k2:y.length - 1+1=y.length:=by omega
 have k3:(y.length - 1).succ=y.length:=k2
 have k4:y.length - 1+(x.length+1 - y.length)=x.length:=by omega
 have k5:y.length≤y.length+1:=by omega
 have k6:x.length+1≤70368744177664:=by omega
 have k7:y.length < x.length+1:=by omega
 have k8:x.length+1 - y.length+y.length=x.length+1:=by omega
 have k9:y.length≤x.length+1:=by omega
 have k10:y.length - 1≤y.length+1:=by omega
 have k11:x.length≤70368744177663:=by omega
 have k12:y.length≤70368744177663:=by omega
 have g2:0≤((x.length+1 - y.length:Nat):Int):=Int.natCast_nonneg _
 have g3:x.length+1 - y.length≤70368744177664:=by omega
 have g1:0≤((y.length - 1:Nat):Int):=Int.natCast_nonneg _
 have g1l:((y.length - 1:Nat):Int) < (y.length:Int):=Int.ofNat_lt.2 k1
 have w1:wrap64 ((y.length:Int) - 1)=((y.length - 1:Nat):Int):=by
  have e:(y.length:Int) - 1=((y.length - 1:Nat):Int):=by omega
  rw [e]; exact wrap64_id (by omega) (by omega)
 have w2':wrap64 (((x.length+1:Nat):Int) - (y.length:Int))=((x.length+1 - y.length:Nat):Int):=by
  have e:((x.length+1:Nat):Int) - (y.length:Int)=((x.length+1 - y.length:Nat):Int):=by clear w1; omega
  rw [e]; exact wrap64_id (by clear w1; omega) (by clear w1; omega)
 have w3:wrap64 (((x.length+1 - y.length:Nat):Int) - 1)=((x.length+1 - y.length:Nat):Int) - 1:=wrap64_id (by clear w1 w2'; omega) (by clear w1 w2'; omega)
 have it:=InR_rd b32_pos hy ((y.length - 1:Nat):Int)
 have it32:(rd y ((y.length - 1:Nat):Int)).toNat≠0:=by clear w1 w2' w3; omega
 have it33:(rd y ((y.length - 1:Nat):Int)).toNat < 4294967296:=by clear w1 w2' w3; unfold b32 at it; omega
 have it34:rd y ((y.length - 1:Nat):Int)+1=(((rd y ((y.length - 1:Nat):Int)).toNat+1:Nat):Int):=by clear w1 w2' w3; omega
 obtain ⟨s,hs,hs1,hs2⟩:=lead_shift (rd y ((y.length - 1:Nat):Int)).toNat it32 it33
 obtain ⟨u,hu,hu1,hu2,hu3⟩:=left_spec x hx k11 s hs
 obtain ⟨v,hv,hv1,hv2,hv3⟩:=left_spec y hy k12 s hs
 have hp:(0:Int) < 2^s:=Int.pow_pos (by decide)
 have hpn:(0:Int) < b32^(y.length - 1):=pow_pos' b32_pos _
 have hysplit:lv b32 y=lv b32 (y.take (y.length - 1))+rd y ((y.length - 1:Nat):Int)*b32^(y.length - 1):=by
  have h:=lv_take_succ b32 y (y.length - 1) k1
  rw [k2,List.take_length,getD_eq_rd] at h
  exact h
 have hyl0:=lv_nonneg b32_pos (InR_take hy (y.length - 1))
 have hyl1:=lv_lt b32_pos (InR_take hy (y.length - 1))
 rw [List.length_take,Nat.min_eq_left (Nat.sub_le _ _)] at hyl1
 have hyge:b32^(y.length - 1)≤lv b32 y:=by
  rw [hysplit]
  have h1:1*b32^(y.length - 1)≤rd y ((y.length - 1:Nat):Int)*b32^(y.length - 1):=Int.mul_le_mul_of_nonneg_right htop (Int.le_of_lt hpn)
  rw [Int.one_mul] at h1
  exact Int.le_trans h1 (Int.le_add_of_nonneg_left hyl0)
 have hypos:0 < lv b32 y:=Int.lt_of_lt_of_le hpn hyge
 have hvlt:lv b32 v < b32^y.length:=by
  rw [hv3]
  have h1:lv b32 y < (rd y ((y.length - 1:Nat):Int)+1)*b32^(y.length - 1):=by
   rw [hysplit,Int.add_mul,Int.one_mul,Int.add_comm]
   exact Int.add_lt_add_left hyl1 _
  have h2:lv b32 y*2^s < (rd y ((y.length - 1:Nat):Int)+1)*b32^(y.length - 1)*2^s:=Int.mul_lt_mul_of_pos_right h1 hp
  have h3:(rd y ((y.length - 1:Nat):Int)+1)*2^s≤b32:=by
   rw [two_pow_cast]
   rw [it34,← Int.natCast_mul]
   exact cast32 hs2
  have h4:(rd y ((y.length - 1:Nat):Int)+1)*2^s*b32^(y.length - 1)≤b32*b32^(y.length - 1):=Int.mul_le_mul_of_nonneg_right h3 (Int.le_of_lt hpn)
  have e1:b32*b32^(y.length - 1)=b32^y.length:=by rw [Int.mul_comm,← Int.pow_succ,k3]
  have e2:(rd y ((y.length - 1:Nat):Int)+1)*b32^(y.length - 1)*2^s=(rd y ((y.length - 1:Nat):Int)+1)*2^s*b32^(y.length - 1):=by grind
  rw [e2] at h2
  rw [e1] at h4
  exact Int.lt_of_lt_of_le h2 h4
 have hvz:∀ j,y.length≤j→v.getD j 0=0:=fun j hj=>zero_of_lv_lt hv2 hvlt j hj
 have hvtake:lv b32 (v.take y.length)=lv b32 y*2^s:=by
  have h:=lv_split b32 v y.length (by rw [hv1]; exact k5)
  rw [lv_drop_zero hvz,Int.mul_zero,Int.add_zero,hv3] at h
  exact h.symm
 have hvv0:0 < lv b32 y*2^s:=Int.mul_pos hypos hp
 have hvge:b32^(y.length - 1)≤lv b32 y*2^s:=by
  have h1:lv b32 y*1≤lv b32 y*2^s:=Int.mul_le_mul_of_nonneg_left hp (Int.le_of_lt hypos)
  rw [Int.mul_one] at h1
  exact Int.le_trans hyge h1
 have hv1top:1≤rd v ((y.length - 1:Nat):Int):=by
  have iv:=InR_rd b32_pos hv2 ((y.length - 1:Nat):Int)
  refine Int.not_lt.1 (fun hlt=>?_)
  have hz:rd v ((y.length - 1:Nat):Int)=0:=Int.le_antisymm (Int.lt_add_one_iff.1 hlt) iv.1
  have hz2:∀ j,y.length - 1≤j→v.getD j 0=0:=fun j hj=>by
   by_cases h:j=y.length - 1
   ·rw [h,getD_eq_rd]; exact hz
   exact hvz j (le_of_pred hj h)
  have:=lv_lt_of_zero hv2 (by rw [hv1]; exact k10) hz2
  rw [hv3] at this
  exact absurd hvge (Int.not_le.2 this)
 have hstart:lv b32 u < lv b32 y*2^s*b32^(x.length+1 - y.length):=by
  rw [hu3]
  have h1:=lv_lt b32_pos hx
  have h2:b32^(y.length - 1)*b32^(x.length+1 - y.length)≤lv b32 y*b32^(x.length+1 - y.length):=Int.mul_le_mul_of_nonneg_right hyge (Int.le_of_lt (pow_pos' b32_pos _))
  rw [← Int.pow_add,k4] at h2
  have h3:lv b32 x*2^s < lv b32 y*b32^(x.length+1 - y.length)*2^s:=Int.mul_lt_mul_of_pos_right (Int.lt_of_lt_of_le h1 h2) hp
  have e:lv b32 y*b32^(x.length+1 - y.length)*2^s=lv b32 y*2^s*b32^(x.length+1 - y.length):=by grind
  rw [e] at h3
  exact h3
 have hmodt:lv b32 x*2^s%(lv b32 y*2^s)=2^s*(lv b32 x%lv b32 y):=by
  rw [Int.mul_comm (lv b32 x),Int.mul_comm (lv b32 y),Int.mul_emod_mul_of_pos _ _ hp]
 have hdivt:lv b32 x*2^s/(lv b32 y*2^s)=lv b32 x/lv b32 y:=by
  rw [Int.mul_comm (lv b32 x),Int.mul_comm (lv b32 y),Int.mul_ediv_mul_of_pos _ _ hp]
 have main:=long_l0 v y.length s (x.length+1) (x.length+1 - y.length) hs hv2 hn (by rw [hv1]; exact k5) k6 k7 k8 (lv b32 y*2^s) hvtake hv1top hvv0 (lv b32 x*2^s) (lv b32 x%lv b32 y) hmodt
  (x.length+1 - y.length) (List.replicate (x.length+1 - y.length) 0) u (Nat.le_refl _) (by rw [List.length_replicate]) (InR_replicate b32_pos _) (fun j _=>getD_replicate _ j) hu1 hu2 hstart (by rw [lv_zeros,Int.zero_mul,Int.zero_add,hu3])
 rw [hdivt] at main
 have w2:wrap64 ((u.length:Int) - (y.length:Int))=((x.length+1 - y.length:Nat):Int):=by rw [hu1]; exact w2'
 have hlz:bits_LeadingZeros32.f (rd y ((y.length - 1:Nat):Int))=some (s:Int):=by
  have gl:0≤rd y ((y.length - 1:Nat):Int)∧rd y ((y.length - 1:Nat):Int)≤4294967295:=⟨it.1,le_pred32 it.2⟩
  unfold bits_LeadingZeros32.f
  rw [if_pos gl,hs1]
 have hlong:Ev (fun k=>nat_long.f k x y) (dl (x.length+1 - y.length) (lv b32 x/lv b32 y),dl (x.length+1) (lv b32 x%lv b32 y)):=by
  have e1:∀ k,nat_long.f k x y=(nat_left.f k x (s:Int)).bind fun t110=>(nat_left.f k y (s:Int)).bind fun t113=>(if 0≤wrap64 ((t110.length:Int) - (y.length:Int)) then (if (wrap64 ((t110.length:Int) - (y.length:Int)):Int).toNat≤70368744177664 then ((some (List.replicate (wrap64 ((t110.length:Int) - (y.length:Int)):Int).toNat 0:List Int)).bind fun y116=>(nat_long.l0 k y116 (s:Int) (y.length:Int) t110 t113 (wrap64 ((y116.length:Int) - 1)))) else none) else none):=by
   intro k
   unfold nat_long.f
   rw [w1,if_pos g1,if_pos g1l,hlz,Option.bind_some]
  refine Ev.congr e1 ?_
  refine Ev.bind hu ?_
  refine Ev.bind hv ?_
  refine Ev.congr (f:=fun K=>nat_long.l0 K (List.replicate (x.length+1 - y.length) 0) (s:Int) (y.length:Int) u v (((x.length+1 - y.length:Nat):Int) - 1)) (fun k=>?_) main
  rw [w2,if_pos g2,Int.toNat_natCast,if_pos g3,Option.bind_some,List.length_replicate,w3]
 have htake:(dl (x.length+1) (lv b32 x%lv b32 y)).take y.length=dl y.length (lv b32 x%lv b32 y):=by
  have:∀ (m n:Nat) (z:Int),m≤n→(dl n z).take m=dl m z:=by
   intro m
   induction m with
   | zero=>intro n z _; simp [dl]
   | succ m ih =>
     intro n z h
     cases n with
     | zero=>exact absurd h (by omega)
     | succ n=>simp only [dl,List.take_succ_cons,ih n (z/b32) (Nat.le_of_succ_le_succ h)]
  exact this _ _ _ k9
 unfold nat_longq.f
 refine Ev.bind hlong ?_
 simp only [htake]
 exact Ev.now _
end Go.Proofs.YtmkgijiniopalaaDoor.SB
end
section
namespace Go.Proofs.YtmkgijiniopalaaDoor.SB
open Go.RowKit Go.Proofs.YtmkgijiniopalaaDoor.A Go.Proofs.YtmkgijiniopalaaDoor.B Go.Proofs.YtmkgijiniopalaaDoor.C Go.Proofs.YtmkgijiniopalaaDoor.H Go.Proofs.YtmkgijiniopalaaDoor.L Go.Proofs.YtmkgijiniopalaaDoor.M Go.Proofs.YtmkgijiniopalaaDoor.SA Go.Proofs.YtmkgijiniopalaaDoorW.PrintWords Go.Proofs.YtmkgijiniopalaaDoorW.PrintLast Go.Proofs.YtmkgijiniopalaaDoorW.PrintMore
theorem dl_InR:∀ (n:Nat) (v:Int),InR b32 (dl n v)
 | 0,_=>InR_nil _
 | n+1,v=>InR_cons.2 ⟨⟨Int.emod_nonneg _ (by decide),Int.emod_lt_of_pos _ (by decide)⟩,dl_InR n _⟩
theorem dl_length:∀ (n:Nat) (v:Int),(dl n v).length=n
 | 0,_=>rfl
 | n+1,v=>by simp [dl,dl_length n]
theorem lv_dl:∀ (n:Nat) (v:Int),0≤v→v < b32^n→lv b32 (dl n v)=v
 | 0, v, h0, h => by simp at h; have : v = 0 := by omega
                     rw [this]; rfl
 | n+1,v,h0,h=>by
   have h1:v/b32 < b32^n:=Int.ediv_lt_of_lt_mul (by decide) (by rw [← Int.pow_succ]; exact h)
   simp only [dl,lv,lv_dl n (v/b32) (Int.ediv_nonneg h0 (by decide)) h1]
   have:=Int.mul_ediv_add_emod v b32
   omega
theorem one_step {r x y:Int} (hy:1≤y) (hyb:y < b32) (hx:0≤x∧x < b32) (hr:0≤r∧r < y) :
 ∃ p,Go.bits .or .u64 (IntKind.u64.wrap (r*4294967296)) (IntKind.u64.wrap x)=p∧p=r*b32+x∧IntKind.u64.wrap (Int.tdiv p (IntKind.u64.wrap y))%4294967296=p/y∧Int.tmod p (IntKind.u64.wrap y)=p%y∧0≤p/y∧p/y < b32∧0≤p%y∧p%y < y:=by
 have hrb:r < b32:=Int.lt_trans hr.2 hyb
 refine ⟨_,rfl,or_hi ⟨hr.1,hrb⟩ hx,?_⟩
 rw [or_hi ⟨hr.1,hrb⟩ hx]
 have e1:IntKind.u64.wrap y=y:=by unfold b32 at hyb; exact u64_id (by omega) (by omega)
 have h0:0≤r*b32+x:=Int.add_nonneg (Int.mul_nonneg hr.1 (by decide)) hx.1
 have h1:r*b32+x < b32*y:=by
  have:(r+1)*b32≤y*b32:=Int.mul_le_mul_of_nonneg_right hr.2 (by decide)
  rw [Int.add_mul,Int.one_mul] at this
  rw [Int.mul_comm b32]
  have:=hx.2
  generalize r*b32=A at *
  generalize y*b32=B at *
  omega
 rw [e1,tdiv_nn h0,tmod_nn h0]
 have hd0:0≤(r*b32+x)/y:=Int.ediv_nonneg h0 (by omega)
 have hd1:(r*b32+x)/y < b32:=Int.ediv_lt_of_lt_mul (by omega) h1
 have hm0:0≤(r*b32+x)%y:=Int.emod_nonneg _ (by omega)
 have hm1:(r*b32+x)%y < y:=Int.emod_lt_of_pos _ (by omega)
 refine ⟨?_,rfl,hd0,hd1,hm0,hm1⟩
 generalize (r*b32+x)/y=q at *
 unfold b32 at hd1
 rw [u64_id hd0 (by omega)]
 exact Int.emod_eq_of_lt hd0 hd1
theorem lv_set_drop (o:List Int) (i:Nat) (v:Int) (h:i < o.length):lv b32 ((o.set i v).drop i)=v+b32*lv b32 (o.drop (i+1)):=by
 rw [lv_drop b32 _ i (by rw [List.length_set]; exact h),rd_set_self _ h,List.drop_set_of_lt (by omega)]
theorem div_alg (D P y r x t q m p b X:Int) (h1:p=r*b+x) (h2:p=y*q+m) (h:D*(P*b)*y+r*(P*b)+(t+x*P)=X):(q+b*D)*P*y+m*P+t=X:=by
 have:m=r*b+x - y*q:=by omega
 rw [this,← h]
 grind
theorem div_l0 (Y:List Int) (y:Int) (hY:Y.length=1) (hYy:rd Y 0=y) (hy:1≤y) (hyb:y < b32) (X:Int) (N:Nat) (hN:N≤70368744177664):∀ (i:Nat) (o:List Int) (r:Int),i≤N→o.length=N→InR b32 o→0≤r∧r < y→lv b32 (o.drop i)*b32^i*y+r*b32^i+lv b32 (o.take i)=X →
 Ev (fun k=>nat_Div.l0 k o Y r ((i:Int) - 1)) (B (X/y).toNat,B (X%y).toNat,0):=by
 intro i
 induction i with
 | zero =>
   intro o r hi ho hr hr2 hX
   have g:¬ (((0:Nat):Int) - 1≥0):=by decide
   refine Ev.succ ?_
   simp only [nat_Div.l0,if_neg g]
   simp only [List.drop_zero,Int.pow_zero,Int.mul_one,List.take_zero,lv,Int.add_zero] at hX
   obtain ⟨h1,h2⟩:=quot_of (by omega) hX hr2.1 hr2.2
   rw [h1,h2]
   refine Ev.bind (text o (by rw [ho]; exact hN) hr) ?_
   have hf:nat_fromShort.f r=some (B r.toNat):=by
    unfold nat_fromShort.f
    rw [if_pos (by unfold b32 at hyb; clear hX h1 h2; omega)]
   simp only [hf,Option.bind_some]
   exact Ev.now _
 | succ i ih =>
   intro o r hi ho hr hr2 hX
   have hio:i < o.length:=by omega
   have wi:(((i+1:Nat):Int) - 1)=(i:Int):=by clear hX; omega
   have g:((i:Int)≥0):=Int.natCast_nonneg _
   have g0:0≤(i:Int):=Int.natCast_nonneg _
   have g1:(i:Int) < (o.length:Int):=Int.ofNat_lt.2 hio
   have g2:0 < (Y.length:Int):=by rw [hY]; decide
   have w1:wrap64 ((i:Int) - 1)=(i:Int) - 1:=by clear hX; exact wrap64_id (by omega) (by omega)
   have hx:=InR_rd b32_pos hr (i:Int)
   obtain ⟨p,h1,h2,h3,h4,h5,h6,h7,h8⟩:=one_step hy hyb hx hr2
   have hyw:IntKind.u64.wrap y=y:=by unfold b32 at hyb; clear hX w1 h1 h2 h3 h4; exact u64_id (by omega) (by omega)
   rw [hyw] at h3 h4
   have gz:¬ (y=0):=by clear hX w1 h1 h2 h3 h4; omega
   have main:=ih (o.set i (p/y)) (p%y) (Nat.le_of_succ_le hi) (by rw [List.length_set]; exact ho) (InR_set hr _ h5 h6) ⟨h7,h8⟩ (by
    rw [lv_set_drop _ _ _ hio,List.take_set_of_le (Nat.le_refl i)]
    rw [lv_take_succ _ _ _ hio,getD_eq_rd,Int.pow_succ] at hX
    exact div_alg _ _ _ _ _ _ _ _ p b32 X h2 (Int.mul_ediv_add_emod p y).symm hX)
   refine Ev.succ ?_
   rw [wi]
   simp only [nat_Div.l0,if_pos g,if_pos g0,if_pos g1,if_pos g2,hYy,hyw,if_neg gz,h1,h3,h4,w1,Int.toNat_natCast]
   exact main
end Go.Proofs.YtmkgijiniopalaaDoor.SB
end
section
namespace Go.Proofs.YtmkgijiniopalaaDoor.SB
open Go.RowKit Go.Proofs.YtmkgijiniopalaaDoor.A Go.Proofs.YtmkgijiniopalaaDoor.B Go.Proofs.YtmkgijiniopalaaDoor.C Go.Proofs.YtmkgijiniopalaaDoor.H Go.Proofs.YtmkgijiniopalaaDoor.L Go.Proofs.YtmkgijiniopalaaDoor.M Go.Proofs.YtmkgijiniopalaaDoor.SA Go.Proofs.YtmkgijiniopalaaDoorW.PrintWords Go.Proofs.YtmkgijiniopalaaDoorW.PrintLast Go.Proofs.YtmkgijiniopalaaDoorW.PrintMore
theorem top_pos {l:List Int} {v:Nat} (h:Dig b32 l v) (hl:1≤l.length):1≤rd l ((l.length - 1:Nat):Int):=by
 have hne:l≠[]:=fun e=>by rw [e] at hl; exact absurd hl (by decide)
 have hge:=h.2.2 hne
 have iv:=InR_rd b32_pos h.1 ((l.length - 1:Nat):Int)
 have k1:l.length - 1≤l.length:=Nat.sub_le _ _
 refine Int.not_lt.1 (fun hlt=>?_)
 have hz:rd l ((l.length - 1:Nat):Int)=0:=Int.le_antisymm (Int.lt_add_one_iff.1 hlt) iv.1
 have hz2:∀ j,l.length - 1≤j→l.getD j 0=0:=fun j hj=>by
  by_cases hj2:j=l.length - 1
  ·rw [hj2,getD_eq_rd]; exact hz
  rw [List.getD_eq_getElem?_getD,List.getElem?_eq_none (le_of_pred hj hj2)]; rfl
 have:=lv_lt_of_zero h.1 k1 hz2
 rw [h.2.1] at this
 exact absurd hge (Int.not_le.2 this)
theorem div_big (a b:ByteArray) (ha:a.size≤1099511627776) (hb:b.size≤1099511627776) (hb0:V b≠0):Ev (fun k=>nat_Div.j0 k (B (V a)) (B (V b)) false) (B (V a/V b),B (V a%V b),0):=by
 have sa:=size_BV a
 have sb:=size_BV b
 have gf:¬ (false=true):=by decide
 refine Ev.succ ?_
 simp only [nat_Div.j0,if_neg gf]
 have hc:=cmp_spec (B (V a)) (B (V b))
 rw [V_B,V_B] at hc
 refine Ev.bind hc ?_
 by_cases hlt:V a < V b
 ·simp only [if_pos (cmpN_neg.2 hlt)]
  rw [Nat.div_eq_of_lt hlt,Nat.mod_eq_of_lt hlt,B_zero]
  exact Ev.now _
 simp only [if_neg (fun h=>hlt (cmpN_neg.1 h))]
 obtain ⟨x,hx1,hx2,hx3⟩:=words (B (V a)) (by omega)
 obtain ⟨y,hy1,hy2,hy3⟩:=words (B (V b)) (by omega)
 rw [V_B] at hx2 hy2
 have hxl:x.length≤274877906945:=by clear hx1 hy1; omega
 have hab:V b≤V a:=Nat.le_of_not_lt hlt
 have hyx:y.length≤x.length:=Dig_len (by decide) hx2 hy2 hab
 have hyne:y≠[]:=fun e=>by
  have:=hy2.2.1
  rw [e] at this
  exact hb0 (Int.ofNat_eq_zero.1 this.symm)
 have hy0:1≤y.length:=List.length_pos_iff.2 hyne
 have etd:(V a:Int)/(V b:Int)=((V a/V b:Nat):Int):=rfl
 have etm:(V a:Int)%(V b:Int)=((V a%V b:Nat):Int):=rfl
 refine Ev.bind hx1 ?_
 refine Ev.bind hy1 ?_
 by_cases h1:y.length=1
 ·have g1:((y.length:Int)=1):=by rw [h1]; rfl
  have w:wrap64 ((x.length:Int) - 1)=(x.length:Int) - 1:=wrap64_id (by clear hx1 hy1; omega) (by clear hx1 hy1; omega)
  simp only [if_pos g1,w]
  have ht:=top_pos hy2 hy0
  rw [h1] at ht
  have hyv:lv b32 y=rd y 0:=by
   have h:=lv_take_succ b32 y 0 hy0
   rw [show 0+1=y.length from h1.symm,List.take_length,getD_eq_rd] at h
   rw [h]; simp [lv]
  have hlt32:=(InR_rd b32_pos hy2.1 0).2
  have hvb:rd y 0=(V b:Int):=by rw [← hyv]; exact hy2.2.1
  have h:=div_l0 y (rd y 0) h1 rfl ht hlt32 (V a:Int) x.length (Nat.le_trans hxl (by decide)) x.length x 0 (Nat.le_refl _) rfl hx2.1 ⟨Int.le_refl 0,ht⟩ (by
   rw [List.drop_length,List.take_length,hx2.2.1]; simp [lv])
  rw [hvb,etd,etm,Int.toNat_natCast,Int.toNat_natCast] at h
  exact h
 have g1:¬ ((y.length:Int)=1):=fun h=>h1 (Int.ofNat_inj.1 h)
 have h2:2≤y.length:=by clear hx1 hy1; omega
 simp only [if_neg g1]
 have hl:=long_spec x y hx2.1 hy2.1 h2 hyx (Nat.le_trans hxl (by decide)) (top_pos hy2 hy0)
 rw [hx2.2.1,hy2.2.1,etd,etm] at hl
 refine Ev.bind hl ?_
 have kq:x.length+1 - y.length≤70368744177664:=by clear hx1 hy1 hl; omega
 have ky:y.length≤70368744177664:=by clear hx1 hy1 hl; omega
 have k4:y.length - 1+(x.length+1 - y.length)=x.length:=by clear hx1 hy1 hl; omega
 have hp:(0:Int) < b32^(x.length+1 - y.length):=pow_pos' b32_pos _
 have hq:((V a/V b:Nat):Int) < b32^(x.length+1 - y.length):=by
  rw [← etd]
  refine Int.ediv_lt_of_lt_mul (Int.ofNat_lt.2 (Nat.pos_of_ne_zero hb0)) ?_
  have e1:=lv_lt b32_pos hx2.1
  rw [hx2.2.1] at e1
  have e2:b32^(y.length - 1)*b32^(x.length+1 - y.length)≤(V b:Int)*b32^(x.length+1 - y.length):=Int.mul_le_mul_of_nonneg_right (hy2.2.2 hyne) (Int.le_of_lt hp)
  rw [← Int.pow_add,k4] at e2
  rw [Int.mul_comm]
  exact Int.lt_of_lt_of_le e1 e2
 have hr:((V a%V b:Nat):Int) < b32^y.length:=by
  have e1:=lv_lt b32_pos hy2.1
  rw [hy2.2.1] at e1
  exact Int.lt_trans (Int.ofNat_lt.2 (Nat.mod_lt _ (Nat.pos_of_ne_zero hb0))) e1
 have t1:=text (dl (x.length+1 - y.length) ((V a/V b:Nat):Int)) (by rw [dl_length]; exact kq) (dl_InR _ _)
 have t2:=text (dl y.length ((V a%V b:Nat):Int)) (by rw [dl_length]; exact ky) (dl_InR _ _)
 rw [lv_dl _ _ (Int.natCast_nonneg _) hq,Int.toNat_natCast] at t1
 rw [lv_dl _ _ (Int.natCast_nonneg _) hr,Int.toNat_natCast] at t2
 refine Ev.bind t1 ?_
 refine Ev.bind t2 ?_
 exact Ev.now _
end Go.Proofs.YtmkgijiniopalaaDoor.SB
end
section
namespace Go.Proofs.YtmkgijiniopalaaDoor.SB
open Go.RowKit Go.Proofs.YtmkgijiniopalaaDoor.A Go.Proofs.YtmkgijiniopalaaDoor.B Go.Proofs.YtmkgijiniopalaaDoor.C Go.Proofs.YtmkgijiniopalaaDoor.H Go.Proofs.YtmkgijiniopalaaDoor.L Go.Proofs.YtmkgijiniopalaaDoor.M Go.Proofs.YtmkgijiniopalaaDoor.SA Go.Proofs.YtmkgijiniopalaaDoorW.PrintWords Go.Proofs.YtmkgijiniopalaaDoorW.PrintLast Go.Proofs.YtmkgijiniopalaaDoorW.PrintMore
theorem fs_nat (n:Nat) (h:n < 18446744073709551616):nat_fromShort.f (n:Int)=some (B n):=by
 unfold nat_fromShort.f
 rw [if_pos (by omega),Int.toNat_natCast]
theorem u64_nat (n:Nat) (h:n < 18446744073709551616):IntKind.u64.wrap (n:Int)=(n:Int):=u64_id (Int.natCast_nonneg _) (by omega)
def divR (a b:Nat):ByteArray × ByteArray × Int:=if b=0 then (⟨#[]⟩,⟨#[]⟩,12) else (B (a/b),B (a%b),0)
theorem div_spec (a b:ByteArray) (ha:a.size≤1099511627776) (hb:b.size≤1099511627776):Ev (fun k=>nat_Div.f k a b) (divR (V a) (V b)):=by
 refine Ev.bind (trim a) ?_
 refine Ev.bind (trim b) ?_
 unfold divR
 by_cases h0:V b=0
 ·have g:(B (V b)).toList=([]:List UInt8):=by rw [toList_B]; exact bytesOf_eq_nil.2 h0
  simp only [if_pos g,if_pos h0]
  exact Ev.now _
 have g:¬ (B (V b)).toList=([]:List UInt8):=by rw [toList_B]; exact fun h=>h0 (bytesOf_eq_nil.1 h)
 simp only [if_neg g,if_neg h0]
 have big:=div_big a b ha hb h0
 by_cases h1:(B (V a)).size≤8
 rotate_left
 ·have g1:¬ ((B (V a)).size:Int)≤8:=by omega
  simp only [if_neg g1]
  exact big
 have g1:((B (V a)).size:Int)≤8:=by omega
 simp only [if_pos g1]
 by_cases h2:(B (V b)).size≤8
 rotate_left
 ·have g2:¬ ((B (V b)).size:Int)≤8:=by omega
  rw [decide_eq_false g2]
  exact big
 have g2:((B (V b)).size:Int)≤8:=by omega
 rw [decide_eq_true g2]
 have ra:=short (B (V a)) h1
 have rb:=short (B (V b)) h2
 rw [V_B] at ra rb
 have la:V a < 256^8:=lt_of_size_B h1
 have e8:(256:Nat)^8=18446744073709551616:=by decide
 rw [e8] at la
 have gz:¬ ((V b:Int)=0):=fun h=>h0 (Int.ofNat_eq_zero.1 h)
 have q1:V a/V b < 18446744073709551616:=Nat.lt_of_le_of_lt (Nat.div_le_self _ _) la
 have q2:V a%V b < 18446744073709551616:=Nat.lt_of_le_of_lt (Nat.mod_le _ _) la
 have eq:IntKind.u64.wrap (Int.tdiv (V a:Int) (V b:Int))=((V a/V b:Nat):Int):=by
  rw [tdiv_nn (Int.natCast_nonneg _),show (V a:Int)/(V b:Int)=((V a/V b:Nat):Int) from rfl]
  exact u64_nat _ q1
 have er:Int.tmod (V a:Int) (V b:Int)=((V a%V b:Nat):Int):=by rw [tmod_nn (Int.natCast_nonneg _)]; rfl
 have f1:=fs_nat _ q1
 have f2:=fs_nat _ q2
 refine Ev.succ ?_
 simp only [nat_Div.j0,if_pos trivial]
 refine Ev.bind ra ?_
 refine Ev.bind rb ?_
 simp only [if_neg gz,eq,f1,Option.bind_some]
 refine Ev.bind ra ?_
 refine Ev.bind rb ?_
 simp only [if_neg gz,er,f2,Option.bind_some]
 exact Ev.now _
end Go.Proofs.YtmkgijiniopalaaDoor.SB
end
