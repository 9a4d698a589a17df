import Derived.Test.YtmkgijiniopalaaDoorYHA
namespace Go.Proofs.YtmkgijiniopalaaDoor.H
open Go.RowKit Go.Proofs.YtmkgijiniopalaaDoor.A Go.Proofs.YtmkgijiniopalaaDoor.M Go.Proofs.YtmkgijiniopalaaDoorW.PrintWords Go.Proofs.YtmkgijiniopalaaDoorW.PrintLast Go.Proofs.YtmkgijiniopalaaDoorW.PrintMore
attribute [local go_sem] max2_int min2_int max_two min_two max_three min_three max_four min_four
set_option linter.unusedVariables false
set_option linter.unusedSimpArgs false
def Row (base:Nat) (ok:Nat→Prop) (W:World) (g cap:Nat) (L:List Int):Prop:=Kd.R (Kd.int .u32) 89 W base ok (.slice (some ⟨g,0,none⟩) L.length cap) L
theorem Row.cell {base:Nat} {ok:Nat→Prop} {W:World} {g cap:Nat} {L:List Int} (h:Row base ok W g cap L) (i:Nat) (hi:i < L.length):W.cell? ⟨g,i,none⟩=some (.int .u32 (rd L (i:Int)))∧W.frozen? ⟨g,i,none⟩=false:=by
 have:=Kd.R_celln 0 h (i:Int) (Int.natCast_nonneg i) (Int.ofNat_lt.2 hi)
 rwa [Int.toNat_natCast] at this
theorem Row.set {base:Nat} {ok:Nat→Prop} {W:World} {g cap:Nat} {L:List Int} (h:Row base ok W g cap L) (i:Nat) (x:Int):Row base ok (W.setCell ⟨g,i,none⟩ (.int .u32 x)) g cap (L.set i x)∧W.grownBy (W.setCell ⟨g,i,none⟩ (.int .u32 x)) (some g):=by
 have:=Kd.R_putg h (i:Int) x
 rw [Int.toNat_natCast] at this
 refine ⟨?_,this.2⟩
 unfold Row
 rw [List.length_set]
 exact this.1
theorem Row.same {base:Nat} {ok:Nat→Prop} {W W':World} {g cap:Nat} {L:List Int} (h:Row base ok W g cap L) (hg:W.grownBy W' none):Row base ok W' g cap L :=
 Kd.R_grown1 h rfl hg (by simp [Value.ownBlock])
def tkS (U V:List Int) (off:Nat) (d:Int):Nat→List Int × Int × Int
 | 0=>(U,0,0)
 | i+1 =>
   let p:=tkS U V off d i
   let s:=IntKind.u64.wrap (p.2.1+IntKind.u64.wrap (d*IntKind.u64.wrap (rd V (i:Int))))
   let t:=IntKind.u64.wrap (IntKind.u64.wrap (IntKind.u64.wrap (rd p.1 ((off+i:Nat):Int)) - s%4294967296) - p.2.2)
   (p.1.set (off+i) (t%4294967296),s/4294967296,t/9223372036854775808)
theorem tkS_length (U V:List Int) (off:Nat) (d:Int) (i:Nat):(tkS U V off d i).1.length=U.length:=by
 induction i with
 | zero=>rfl
 | succ i ih=>simp only [tkS,List.length_set,ih]
def tkT (U V:List Int) (off:Nat) (d:Int):Int :=
 let p:=tkS U V off d V.length
 IntKind.u64.wrap (IntKind.u64.wrap (IntKind.u64.wrap (rd p.1 ((off+V.length:Nat):Int)) - p.2.1) - p.2.2)
def tkU (U V:List Int) (off:Nat) (d:Int):List Int:=(tkS U V off d V.length).1.set (off+V.length) (tkT U V off d%4294967296)
def tkB (U V:List Int) (off:Nat) (d:Int):Bool:=decide (0 < tkT U V off d/9223372036854775808)
set_option maxHeartbeats 4000000 in
set_option maxRecDepth 100000 in
theorem takeAway_at (base:Nat) (ok:Nat→Prop) (g off cu cU cv:Nat) (U Vl:List Int) (d:Int) (A1:Option Addr) (w:World) (hU0:Row base ok w g cU U) (hV0:∀ W_,Kept w W_ (fun k_=>k_=g)→Kd.C (Kd.int .u32) W_ A1 Vl.length Vl) (hoff0:off+Vl.length < U.length) (hlen0:U.length≤281474976710656) :
 Calls Tryd.prog 94 #[.slice (some ⟨g,off,none⟩) (Vl.length+1) cu,.slice A1 Vl.length cv,.int .u64 d] w fun e w'=>e = .returned (.bool (tkB U Vl off d))∧Row base ok w' g cU (tkU U Vl off d)∧w.grownBy w' (some g):=by
 have HU:=Aside0.mk hU0
 have HV:=Aside0.mk hV0
 have HK0:=Aside0.mk (Kept.refl w (fun k_=>k_=g))
 have HO:=Aside0.mk hoff0
 have HL:=Aside0.mk hlen0
 have HG:=Aside0.mk (World.grownBy.refl w (some g))
 clear hU0 hV0 hoff0 hlen0
 go_enter Tryd.func94,Tryd.ntmps94
 go_wp2
 go_loopg [7,8,15] Vl.length (fun kq v7 v8 v15 w'=>∃ (i:Nat) (X:List Int) (c b:Int),v7 = .int .u64 c∧v8 = .int .u64 b∧v15 = .int .i64 (i:Int)∧Aside0 (tkS U Vl off d i=(X,c,b))∧Aside0 (kq+i=Vl.length)∧Aside0 (Row base ok w' g cU X)∧Aside0 (Kept w w' (fun k_=>k_=g))∧Aside0 (w.grownBy w' (some g)))
 case atStart=>exact ⟨0,U,0,0,rfl,rfl,rfl,⟨rfl⟩,⟨rfl⟩,HU,HK0,HG⟩
 case round =>
  clear HU HK0 HG
  obtain ⟨i,X,c,b,rfl,rfl,rfl,HS,HK,HU,HKp,HG⟩:=hrel
  have hXl:X.length=U.length:=by have:=tkS_length U Vl off d i; rw [HS.out] at this; exact this
  by_cases hi:i < Vl.length
  ·have b1:decide ((i:Int) < (Vl.length:Int))=true:=decide_eq_true (Int.ofNat_lt.2 hi)
   have q1:((i:Int) < (Vl.length:Int))=True:=eq_true (Int.ofNat_lt.2 hi)
   have q2:(i < Vl.length)=True:=eq_true hi
   have q3:((i:Int) < ((Vl.length:Int)+1))=True:=eq_true (by omega)
   have q4:(i < Vl.length+1)=True:=eq_true (by omega)
   have w1:wrap64 ((i:Int)+1)=((i+1:Nat):Int):=by
    have:=HO.out; have:=HL.out
    rw [wrap64_id (by omega) (by omega)]; rfl
   have hoi:off+i < X.length:=by have:=HO.out; omega
   obtain ⟨adv,eadv,hv1⟩:=Kd.at_int (HV.out _ HKp.out) (i:Int) (Int.natCast_nonneg i) (Int.ofNat_lt.2 hi)
   cases eadv
   rw [Int.toNat_natCast] at hv1
   obtain ⟨hu1,hu2⟩:=HU.out.cell (off+i) hoi
   have HW1:=Aside0.mk w1
   have HXl:=Aside0.mk hXl
   have HI:=Aside0.mk hi
   clear hi hoi w1 hXl
   go_wp2
   obtain ⟨hr,hg⟩:=HU.out.set (off+i) (IntKind.u64.wrap (IntKind.u64.wrap (IntKind.u64.wrap (rd X ((off+i:Nat):Int)) - IntKind.u64.wrap (c+IntKind.u64.wrap (d*IntKind.u64.wrap (rd Vl (i:Int))))%4294967296) - b)%4294967296)
   go_roundg (Vl.length - (i+1))
   case measure=>have:=HK.out; have:=HI.out; omega
   case rel=>exact ⟨i+1,_,_,_,rfl,rfl,by rw [HW1.out],⟨by simp only [tkS,HS.out,Int.natCast_add]⟩,⟨by have:=HK.out; have:=HI.out; omega⟩,⟨hr⟩,⟨Kept.of_grown (S:=(fun k_=>k_=g)) hg HKp.out (fun k_ e_=>(by injection e_ with e_; exact .inl e_.symm))⟩,⟨HG.out.trans hg⟩⟩
  have hiq:i=Vl.length:=by have:=HK.out; omega
  subst hiq
  have b1:decide ((Vl.length:Int) < (Vl.length:Int))=false:=decide_eq_false (by omega)
  have q3:((Vl.length:Int) < ((Vl.length:Int)+1))=True:=eq_true (by omega)
  have q4:(Vl.length < Vl.length+1)=True:=eq_true (by omega)
  have hoi:off+Vl.length < X.length:=by have:=HO.out; omega
  obtain ⟨hu1,hu2⟩:=HU.out.cell (off+Vl.length) hoi
  have HXl:=Aside0.mk hXl
  clear hi hoi hXl
  go_wp2
  obtain ⟨hr,hg⟩:=HU.out.set (off+Vl.length) (tkT U Vl off d%4294967296)
  go_ret
  refine ⟨?_,?_,?_⟩
  ·simp only [tkB,tkT,HS.out]
   rfl
  ·simp only [tkU,tkT,HS.out] at hr ⊢
   exact hr
  simp only [tkT,HS.out] at hg
  exact HG.out.trans hg
def pbS (U V:List Int) (off:Nat):Nat→List Int × Int
 | 0=>(U,0)
 | i+1 =>
   let p:=pbS U V off i
   let s:=IntKind.u64.wrap (p.2+IntKind.u64.wrap (IntKind.u64.wrap (rd p.1 ((off+i:Nat):Int))+IntKind.u64.wrap (rd V (i:Int))))
   (p.1.set (off+i) (s%4294967296),s/4294967296)
theorem pbS_length (U V:List Int) (off:Nat) (i:Nat):(pbS U V off i).1.length=U.length:=by
 induction i with
 | zero=>rfl
 | succ i ih=>simp only [pbS,List.length_set,ih]
def pbU (U V:List Int) (off:Nat):List Int :=
 let p:=pbS U V off V.length
 p.1.set (off+V.length) ((rd p.1 ((off:Int)+(V.length:Int))+p.2)%4294967296)
set_option maxHeartbeats 4000000 in
set_option maxRecDepth 100000 in
theorem putBack_at (base:Nat) (ok:Nat→Prop) (g off cu cU cv:Nat) (U Vl:List Int) (A1:Option Addr) (w:World) (hU0:Row base ok w g cU U) (hV0:∀ W_,Kept w W_ (fun k_=>k_=g)→Kd.C (Kd.int .u32) W_ A1 Vl.length Vl) (hoff0:off+Vl.length < U.length) (hlen0:U.length≤281474976710656) :
 Calls Tryd.prog 95 #[.slice (some ⟨g,off,none⟩) (Vl.length+1) cu,.slice A1 Vl.length cv] w fun e w'=>e = .returned (.tuple #[])∧Row base ok w' g cU (pbU U Vl off)∧w.grownBy w' (some g):=by
 have HU:=Aside0.mk hU0
 have HV:=Aside0.mk hV0
 have HK0:=Aside0.mk (Kept.refl w (fun k_=>k_=g))
 have HO:=Aside0.mk hoff0
 have HL:=Aside0.mk hlen0
 have HG:=Aside0.mk (World.grownBy.refl w (some g))
 clear hU0 hV0 hoff0 hlen0
 go_enter Tryd.func95,Tryd.ntmps95
 go_wp2
 go_loopg [4,9] Vl.length (fun kq v4 v9 w'=>∃ (i:Nat) (X:List Int) (c:Int),v4 = .int .u64 c∧v9 = .int .i64 (i:Int)∧Aside0 (pbS U Vl off i=(X,c))∧Aside0 (kq+i=Vl.length)∧Aside0 (Row base ok w' g cU X)∧Aside0 (Kept w w' (fun k_=>k_=g))∧Aside0 (w.grownBy w' (some g)))
 case atStart=>exact ⟨0,U,0,rfl,rfl,⟨rfl⟩,⟨rfl⟩,HU,HK0,HG⟩
 case round =>
  clear HU HK0 HG
  obtain ⟨i,X,c,rfl,rfl,HS,HK,HU,HKp,HG⟩:=hrel
  have hXl:X.length=U.length:=by have:=pbS_length U Vl off i; rw [HS.out] at this; exact this
  by_cases hi:i < Vl.length
  ·have b1:decide ((i:Int) < (Vl.length:Int))=true:=decide_eq_true (Int.ofNat_lt.2 hi)
   have q1:((i:Int) < (Vl.length:Int))=True:=eq_true (Int.ofNat_lt.2 hi)
   have q2:(i < Vl.length)=True:=eq_true hi
   have q3:((i:Int) < ((Vl.length:Int)+1))=True:=eq_true (by omega)
   have q4:(i < Vl.length+1)=True:=eq_true (by omega)
   have w1:wrap64 ((i:Int)+1)=((i+1:Nat):Int):=by
    have:=HO.out; have:=HL.out
    rw [wrap64_id (by omega) (by omega)]; rfl
   have hoi:off+i < X.length:=by have:=HO.out; omega
   obtain ⟨adv,eadv,hv1⟩:=Kd.at_int (HV.out _ HKp.out) (i:Int) (Int.natCast_nonneg i) (Int.ofNat_lt.2 hi)
   cases eadv
   rw [Int.toNat_natCast] at hv1
   obtain ⟨hu1,hu2⟩:=HU.out.cell (off+i) hoi
   have HW1:=Aside0.mk w1
   have HXl:=Aside0.mk hXl
   have HI:=Aside0.mk hi
   clear hi hoi w1 hXl
   go_wp2
   obtain ⟨hr,hg⟩:=HU.out.set (off+i) (IntKind.u64.wrap (c+IntKind.u64.wrap (IntKind.u64.wrap (rd X ((off+i:Nat):Int))+IntKind.u64.wrap (rd Vl (i:Int))))%4294967296)
   go_roundg (Vl.length - (i+1))
   case measure=>have:=HK.out; have:=HI.out; omega
   case rel=>exact ⟨i+1,_,_,rfl,by rw [HW1.out],⟨by simp only [pbS,HS.out,Int.natCast_add]⟩,⟨by have:=HK.out; have:=HI.out; omega⟩,⟨hr⟩,⟨Kept.of_grown (S:=(fun k_=>k_=g)) hg HKp.out (fun k_ e_=>(by injection e_ with e_; exact .inl e_.symm))⟩,⟨HG.out.trans hg⟩⟩
  have hiq:i=Vl.length:=by have:=HK.out; omega
  subst hiq
  have b1:decide ((Vl.length:Int) < (Vl.length:Int))=false:=decide_eq_false (by omega)
  have q3:((Vl.length:Int) < ((Vl.length:Int)+1))=True:=eq_true (by omega)
  have q4:(Vl.length < Vl.length+1)=True:=eq_true (by omega)
  have hoi:off+Vl.length < X.length:=by have:=HO.out; omega
  obtain ⟨hu1,hu2⟩:=HU.out.cell (off+Vl.length) hoi
  have HXl:=Aside0.mk hXl
  clear hi hoi hXl
  go_wp2
  obtain ⟨hr,hg⟩:=HU.out.set (off+Vl.length) ((rd X ((off:Int)+(Vl.length:Int))+c)%4294967296)
  first | go_end0 | ((try simp only [Exit.inBlock,Exit.then]); refine bodyPost_ret (results_none rfl _ _ _) rfl ?_)
  refine ⟨rfl,?_,HG.out.trans hg⟩
  simp only [pbU,HS.out] at hr ⊢
  exact hr
end Go.Proofs.YtmkgijiniopalaaDoor.H
