import Derived.Test.YtmkgijiniopalaaDoorYU5
import Derived.Test.YtmkgijiniopalaaDoorProg
import Derived.KernelRfl
import Derived.Laws.Bits64
import Derived.Shelf.Spec.TrailingZeros
import Derived.Laws.Bits64b
import Derived.Laws.Shifts
set_option maxRecDepth 100000
set_option linter.unusedVariables false
section
namespace Go.Proofs.YtmkgijiniopalaaDoor.G
open Go.Proofs.YtmkgijiniopalaaDoor.U
def uu (x:Nat):V:=.c (.int .u64 (x:Int))
def cutS (off c:Nat) (b:Bool) (X:List Nat) (n:Nat):St:=⟨.sl 0 off n c::List.replicate 20 .any,[some ⟨b,X.map uu⟩]⟩
def cutN (X:List Nat) (off:Nat):Nat→Nat
 | 0=>0
 | n+1=>if X.getD (off+n) 0=0 then cutN X off n else n+1
theorem uflat (b:Bool) (X:List Nat):Flat [some ⟨b,X.map uu⟩]:=⟨fun v hv=>by
 obtain ⟨x,_,rfl⟩:=List.mem_map.1 hv
 rfl,trivial⟩
theorem uget {X:List Nat} {i:Nat} (h:i < X.length):(X.map uu)[i]? = some (uu (X.getD i 0)):=by
 rw [List.getElem?_map,List.getElem?_eq_getElem h]
 simp [List.getD_eq_getElem?_getD,List.getElem?_eq_getElem h]
theorem cut_go (off c:Nat) (b:Bool) (X:List Nat) (n:Nat) (x:Nat) (hn:0 < n) (hc:n≤c) (hb:(n:Int) < 9223372036854775807) (hx:(X.map uu)[off+(n - 1)]? = some (uu x)) (h0:x=0):TSpec Tryd.prog (loopOf Tryd.f98 0) (cutS off c b X n) (Ex.normal) (cutS off c b X (n - 1)) :=
 tspec_dim (sc:=[(1,2,.is (.c (.bool true))),(1,7,.is (.c (.int .i64 (n - 1)))),(1,8,.is (.p 0 (off+(n-1)))),(1,9,.fix (.int .u64 (x:Nat))),(1,10,.is (.c (.bool true))),(2,3,.is (.c (.int .i64 (n - 1)))),(2,4,.is (.sl 0 off (n-1) c))]) (sb:=[]) (obs:=[Ob.prop (V.c (Value.bool (decide ((↑n:Int) > (0:Int))))=vT),Ob.prop (vI (IntKind.wrap .i64 ((↑n:Int) - (1:Int)))=vI ((↑n:Int) - (1:Int))),Ob.prop (V.p 0 (off+Int.toNat ((↑n:Int) - (1:Int))*1)=V.p 0 (off+(n - 1))),Ob.prop ((0:Int)≤(↑n:Int) - (1:Int)∧(↑n:Int) - (1:Int) < (↑n:Int)),Ob.prop ((List.map uu X)[off+(n - 1)]? = some (vU ↑x)),Ob.prop (V.c (Value.bool ((↑x:Int)==(0:Int)))=vT),Ob.prop (vI (IntKind.wrap .i64 ((↑n:Int) - (1:Int)))=vI ((↑n:Int) - (1:Int))),Ob.prop (V.sl 0 (off+if c=0 then (0:Nat) else (0:Nat)) (Int.toNat ((↑n:Int) - (1:Int)) - 0) (c - 0)=V.sl 0 off (n - 1) c),Ob.prop ((0:Int)≤(0:Int)∧(0:Int)≤(↑n:Int) - (1:Int)∧(↑n:Int) - (1:Int)≤(↑c:Int))]) [true] 1 (by kernel_rfl) (hP zV (hP zV (hP zV (hP zV (hP hx (hP zV (hP zV (hP zV (hP zV hN))))))))) (uflat b X)
theorem cut_stop (off c:Nat) (b:Bool) (X:List Nat) (n:Nat) (x:Nat) (hn:0 < n) (hc:n≤c) (hb:(n:Int) < 9223372036854775807) (hx:(X.map uu)[off+(n - 1)]? = some (uu x)) (h0:x≠0):TSpec Tryd.prog (loopOf Tryd.f98 0) (cutS off c b X n) (Ex.exit 0) (cutS off c b X n) :=
 tspec_dim (sc:=[(1,2,.is (.c (.bool true))),(1,7,.is (.c (.int .i64 (n - 1)))),(1,8,.is (.p 0 (off+(n-1)))),(1,9,.fix (.int .u64 (x:Nat))),(1,10,.is (.c (.bool false)))]) (sb:=[]) (obs:=[Ob.prop (V.c (Value.bool (decide ((↑n:Int) > (0:Int))))=vT),Ob.prop (vI (IntKind.wrap .i64 ((↑n:Int) - (1:Int)))=vI ((↑n:Int) - (1:Int))),Ob.prop (V.p 0 (off+Int.toNat ((↑n:Int) - (1:Int))*1)=V.p 0 (off+(n - 1))),Ob.prop ((0:Int)≤(↑n:Int) - (1:Int)∧(↑n:Int) - (1:Int) < (↑n:Int)),Ob.prop ((List.map uu X)[off+(n - 1)]? = some (vU ↑x)),Ob.prop (V.c (Value.bool ((↑x:Int)==(0:Int)))=vF)]) [true] 1 (by kernel_rfl) (hP zV (hP zV (hP zV (hP zV (hP hx (hP zV hN)))))) (uflat b X)
theorem cut_end (off c:Nat) (b:Bool) (X:List Nat)  : TSpec Tryd.prog (loopOf Tryd.f98 0) (cutS off c b X 0) (Ex.exit 0) (cutS off c b X 0) :=
 tspec_dim (sc:=[]) (sb:=[]) (obs:=[]) [true] 1 (by kernel_rfl) hN (uflat b X)
theorem cut_fnt (off c:Nat) (X:List Nat) (n m:Nat) (h:TSpec Tryd.prog (.block 0 (.loop (loopOf Tryd.f98 0))) (cutS off c true X n) .normal (cutS off c true X m)):FSpec Tryd.prog 98 [.sl 0 off n c] [some ⟨true,X.map uu⟩] (V.sl 0 off m c) [some ⟨true,X.map uu⟩] :=
 fspec_ok Tryd.func98 (sc:=[]) (sb:=[(0,.normal,cutS off c true X m)]) (keep:=[]) (obs:=[Ob.prop (Flat ([some ⟨true,X.map uu⟩]:List (Option Row))),Ob.prop (TSpec Tryd.prog (Code.block 0 (Code.loop (loopOf Tryd.f98 0))) ({ t:=[V.sl 0 off n c,V.c (Value.tuple { toList:=[] }),V.c (Value.slice none 0 0),V.c (Value.tuple { toList:=[] }),V.c (Value.tuple { toList:=[] }),V.c (Value.tuple { toList:=[] }),V.c (Value.tuple { toList:=[] }),V.c (Value.tuple { toList:=[] }),V.c (Value.tuple { toList:=[] }),V.c (Value.tuple { toList:=[] }),V.c (Value.tuple { toList:=[] }),V.c (Value.tuple { toList:=[] }),V.c (Value.tuple { toList:=[] }),V.c (Value.tuple { toList:=[] }),V.c (Value.tuple { toList:=[] }),V.c (Value.tuple { toList:=[] }),V.c (Value.tuple { toList:=[] }),V.c (Value.tuple { toList:=[] }),V.c (Value.tuple { toList:=[] }),V.c (Value.tuple { toList:=[] }),V.c (Value.tuple { toList:=[] })],m:=[some { own:=true,cells:=List.map uu X }] }) (Ex.normal) (cutS off c true X m))]) (by kernel_rfl) (hP (uflat true X) (hP (TSpec.from [true] h (by kernel_rfl) (by kernel_rfl) (uflat true X)) hN))
theorem cut_fnf (off c:Nat) (X:List Nat) (n m:Nat) (h:TSpec Tryd.prog (.block 0 (.loop (loopOf Tryd.f98 0))) (cutS off c false X n) .normal (cutS off c false X m)):FSpec Tryd.prog 98 [.sl 0 off n c] [some ⟨false,X.map uu⟩] (V.sl 0 off m c) [some ⟨false,X.map uu⟩] :=
 fspec_ok Tryd.func98 (sc:=[]) (sb:=[(0,.normal,cutS off c false X m)]) (keep:=[]) (obs:=[Ob.prop (Flat ([some ⟨false,X.map uu⟩]:List (Option Row))),Ob.prop (TSpec Tryd.prog (Code.block 0 (Code.loop (loopOf Tryd.f98 0))) ({ t:=[V.sl 0 off n c,V.c (Value.tuple { toList:=[] }),V.c (Value.slice none 0 0),V.c (Value.tuple { toList:=[] }),V.c (Value.tuple { toList:=[] }),V.c (Value.tuple { toList:=[] }),V.c (Value.tuple { toList:=[] }),V.c (Value.tuple { toList:=[] }),V.c (Value.tuple { toList:=[] }),V.c (Value.tuple { toList:=[] }),V.c (Value.tuple { toList:=[] }),V.c (Value.tuple { toList:=[] }),V.c (Value.tuple { toList:=[] }),V.c (Value.tuple { toList:=[] }),V.c (Value.tuple { toList:=[] }),V.c (Value.tuple { toList:=[] }),V.c (Value.tuple { toList:=[] }),V.c (Value.tuple { toList:=[] }),V.c (Value.tuple { toList:=[] }),V.c (Value.tuple { toList:=[] }),V.c (Value.tuple { toList:=[] })],m:=[some { own:=false,cells:=List.map uu X }] }) (Ex.normal) (cutS off c false X m)) ]) (by kernel_rfl) (hP (uflat false X) (hP (TSpec.from [true] h (by kernel_rfl) (by kernel_rfl) (uflat false X)) hN))
theorem cut_spec (off c:Nat) (b:Bool) (X:List Nat) (n:Nat) (hl:off+n≤X.length) (hc:n≤c) (hb:n < 9223372036854775807) :
 FSpec Tryd.prog 98 [.sl 0 off n c] [some ⟨b,X.map uu⟩] (.sl 0 off (cutN X off n) c) [some ⟨b,X.map uu⟩]:=by
 have key:=(loop_spec (cutS off c b X) id (fun k=>k≤n∧cutN X off k=cutN X off n) (e:=.normal) (s':=cutS off c b X (cutN X off n)) ?_ n ⟨Nat.le_refl _,rfl⟩:TSpec Tryd.prog (.block 0 (.loop (loopOf Tryd.f98 0))) (cutS off c b X n) .normal _)
 ·cases b with
  | true=>exact cut_fnt off c X n _ key
  | false=>exact cut_fnf off c X n _ key
 rintro k ⟨hk,he⟩
 cases k with
 | zero=>exact .inr (.inl ⟨rfl,by rw [← he]; exact cut_end off c b X⟩)
 | succ k =>
   have hx:=uget (X:=X) (i:=off+(k+1 - 1)) (by omega)
   by_cases h0:X.getD (off+k) 0=0
   ·exact .inl ⟨k,⟨by omega,by rw [← he,cutN,if_pos h0]⟩,by simp,cut_go off c b X (k+1) _ (by omega) (by omega) (by omega) hx h0⟩
   refine .inr (.inl ⟨rfl,?_⟩)
   have:cutN X off n=k+1:=by rw [← he,cutN,if_neg h0]
   rw [this]
   exact cut_stop off c b X (k+1) _ (by omega) (by omega) (by omega) hx h0
end Go.Proofs.YtmkgijiniopalaaDoor.G
end
section
open Go.RowKit
namespace Go.Proofs.YtmkgijiniopalaaDoor.G
open Go.Proofs.YtmkgijiniopalaaDoor.U
theorem tz_a {x:Nat} (h:x≠0):V.c (.bool ((x:Int)==0))=V.c (.bool false):=by
 congr 2
 simpa using h
theorem tz_b {x idx:Nat} (h:IntKind.u64.wrap (bits BinOp.and IntKind.u64 (x:Int) (IntKind.u64.wrap (-(x:Int)))*285870213051353865)/288230376151711744=(idx:Int)) :
 V.c (Value.int IntKind.u64 (Int.fdiv (IntKind.wrap IntKind.u64 (IntKind.wrap IntKind.u64 (↑(BitVec.toNat (BitVec.ofInt (64:Nat) (↑x:Int) &&& BitVec.ofInt (64:Nat) (IntKind.wrap IntKind.u64 ((0:Int) - (↑x:Int))))):Int)*(285870213051353865:Int))) ((2:Int)^(58:Nat))))=V.c (Value.int IntKind.u64 (↑idx:Int)):=by
 congr 2
 rw [← h,Int.zero_sub]
 rw [show (2:Int)^58=288230376151711744 by decide,Int.fdiv_eq_ediv_of_nonneg _ (by omega)]
 rfl
def allB (p:Nat→Prop):Nat→Nat→Prop
 | 0,_=>True
 | n+1,i=>p i∧allB p n (i+1)
theorem allB_at {p:Nat→Prop}:∀ {n i k:Nat},allB p n i→i≤k→k < i+n→p k
 | 0,i,k,_,h1,h2=>by omega
 | n+1,i,k,h,h1,h2=>by
   by_cases hk:k=i
   ·exact hk▸h.1
   exact allB_at h.2 (by omega) (by omega)
theorem tz_ix (i:Nat) (h:i < 64) (t:List V) (ht:t=List.replicate 10 .any++[.c (.int .u64 (i:Int))]) (d:Option Tmp) (ps:String) (af:Array Edge):sval Tryd.prog (execOp (St.rho ⟨t,[]⟩) { dst:=d,op:=.indexAddr 126 (.global tabG) (.tmp 10),type:=0,pos:=ps,after:=af,guard:=none })=some (.value (.pointer (some ⟨tabG,i,none⟩))):=by
 subst ht
 refine allB_at (p:=fun i=>sval Tryd.prog (execOp (St.rho ⟨List.replicate 10 .any++[.c (.int .u64 (i:Int))],[]⟩) { dst:=d,op:=.indexAddr 126 (.global tabG) (.tmp 10),type:=0,pos:=ps,after:=af,guard:=none })=some (.value (.pointer (some ⟨tabG,i,none⟩)))) (n:=64) (i:=0) ?_ (by omega) (by omega)
 repeat' (first | exact trivial | refine ⟨by show (_=_); kernel_rfl,?_⟩)
theorem tz_ld {i k:Nat} (h:i < 64) (h3:deB.getD i 0=(k:Int)):∀ (w:World),Laid w→Sem.run Tryd.prog (Instr.loadAt (5:Nat) (Value.pointer (some { block:=tabG,off:=i }))) w=Result.ok (Value.int IntKind.u8 (↑k:Int)) w:=by
 intro w hl
 have:=hl i h
 rw [h3] at this
 have ha:sval Tryd.prog (isAgg 5)=some false:=by kernel_rfl
 simp [Instr.loadAt,Instr.sureAddr,loadVar,sval_run ha,this]
theorem deB_at:∀ i,i < 64→deB.getD i 0=(Lib.deBruijn64tab.getD i 0:Nat):=by decide +kernel
theorem tz_c {k:Nat} (h:k < 64):V.c (Value.int IntKind.i64 (IntKind.wrap IntKind.i64 (↑k:Int)))=V.c (Value.int IntKind.i64 (↑k:Int)):=by
 rw [show IntKind.wrap .i64 (k:Int)=k by simp [IntKind.wrap,IntKind.signed,IntKind.bits]; omega]
theorem tz_fn (x idx:Nat) (k:Nat) (h0:x≠0) (h1:IntKind.u64.wrap (bits BinOp.and IntKind.u64 (x:Int) (IntKind.u64.wrap (-(x:Int)))*285870213051353865)/288230376151711744=(idx:Int)) (h2:idx < 64) (hk:k < 64) (h3:deB.getD idx 0=(k:Int)):FSpec Tryd.prog 97 [.c (.int .u64 (x:Int))] [] (vI ↑k) [] :=
 fspec_ok Tryd.func97 (sc:=[(1,1,.is (.c (.bool false))),(3,5,.is (.c (.int .u64 (idx:Nat)))),(3,6,.fix (.pointer (some ⟨tabG,idx,none⟩))),(3,7,.fix (.int .u8 (k:Nat))),(3,8,.is (.c (.int .i64 (k:Nat))))]) (sb:=[]) (keep:=[]) (obs:=[Ob.prop (Flat ([]:List (Option Row))),Ob.prop (V.c (Value.bool ((↑x:Int)==(0:Int)))=vF),Ob.prop (vU (Int.fdiv (IntKind.wrap .u64 (IntKind.wrap .u64 (↑(BitVec.toNat (BitVec.ofInt 64 (↑x:Int) &&& BitVec.ofInt 64 (IntKind.wrap .u64 ((0:Int) - (↑x:Int))))):Int)*(285870213051353865:Int))) ((2:Int)^58))=vU ↑idx),Ob.val (execOp (St.rho ⟨(slots 11 0 [(10,vU ↑idx)]),[]⟩) { dst:=some 11,op:=Op.indexAddr 126 (Operand.global 1) (Operand.tmp 10),type:=0,pos := "bits.go:105",after:={ toList:=[{ on:=5,ground:=Ground.data }] },guard:=none }) (Value.pointer (some { block:=1,off:=idx })),Ob.prop (∀ (w:World),Laid w→Sem.run Tryd.prog (Instr.loadAt 5 (Value.pointer (some { block:=1,off:=idx }))) w=Result.ok (Value.int IntKind.u8 (↑k:Int)) w),Ob.prop (vI (IntKind.wrap .i64 (↑k:Int))=vI ↑k) ]) (by kernel_rfl) (hP trivial (hP (tz_a h0) (hP (tz_b h1) (hV (tz_ix idx h2 _ rfl _ _ _) (hP (tz_ld h2 h3) (hP (tz_c hk) hN))))))
theorem tz_spec (x:Nat) (hx:x < 18446744073709551616) (h0:x≠0):CSpec Tryd.prog 97 #[.int .u64 (x:Int)] (.int .i64 (Lib.ctz 64 x:Nat)):=by
 obtain ⟨hlow,hk⟩:=Lib.lowest_bit 64 x h0 hx
 obtain ⟨hi,htab⟩:=Lib.deBruijn64_at _ hk
 exact cspec_of (tz_fn x _ _ h0 (tz64_key x _ hx h0 hlow) hi hk (by rw [deB_at _ hi,htab]))
end Go.Proofs.YtmkgijiniopalaaDoor.G
end
section
namespace Go.Proofs.YtmkgijiniopalaaDoor.G
open Go.Proofs.YtmkgijiniopalaaDoor.U
def lw:List Nat→Nat
 | []=>0
 | x::r=>x+18446744073709551616*lw r
def Tz (v t:Nat):Prop:=∃ m,v=2^t*(2*m+1)
def Wd (X:List Nat):Prop:=∀ x∈X,x < 18446744073709551616
def win (X:List Nat) (off n:Nat):List Nat:=(X.drop off).take n
theorem tz_ctz {x:Nat} (h0:x≠0) (hx:x < 18446744073709551616):Tz x (Lib.ctz 64 x)∧Lib.ctz 64 x < 64:=by
 obtain ⟨m,hm,hk⟩:=Lib.ctzFrom_spec 64 x (by omega) hx
 have e:Lib.ctz 64 x=Lib.ctzFrom 64 x:=by simp [Lib.ctz,h0]
 exact ⟨⟨m,by rw [e]; exact hm⟩,by rw [e]; exact hk⟩
theorem tz_low {x t v:Nat} (ht:t < 64) (h:Tz x t):Tz (x+18446744073709551616*v) t:=by
 obtain ⟨m,rfl⟩:=h
 obtain ⟨d,hd⟩:∃ d,64=t+(d+1):=⟨63 - t,by omega⟩
 refine ⟨m+2^d*v,?_⟩
 rw [show (18446744073709551616:Nat)=2^64 by decide,hd,Nat.pow_add,Nat.pow_succ,Nat.mul_assoc,← Nat.mul_add]
 congr 1
 rw [Nat.mul_add,Nat.mul_comm (2^d) 2,Nat.mul_assoc]
 omega
theorem tz_up {v t:Nat} (h:Tz v t):Tz (0+18446744073709551616*v) (64+t):=by
 obtain ⟨m,rfl⟩:=h
 refine ⟨m,?_⟩
 rw [Nat.pow_add,show (2:Nat)^64=18446744073709551616 by decide,Nat.zero_add,Nat.mul_assoc]
def evS (off n c:Nat) (b:Bool) (X:List Nat) (k:Nat):St:=⟨[.sl 0 off n c,.any,.any,.c (.int .i64 (k:Nat))]++List.replicate 15 .any,[some ⟨b,X.map uu⟩]⟩
theorem ev_go (off n c:Nat) (b:Bool) (X:List Nat) (k x:Nat) (hn:k < n) (hb:n < 1125899906842624) (hx:(X.map uu)[off+k]? = some (uu x)) (h0:x=0):TSpec Tryd.prog (loopOf Tryd.f88 0) (evS off n c b X k) (Ex.normal) (evS off n c b X (k+1)) :=
 tspec_dim (sc:=[(2,2,.is (.p 0 (off+k))),(2,3,.fix (.int .u64 (x:Nat))),(2,4,.is (.c (.bool true))),(3,1,.is (.c (.int .i64 (k+1:Nat))))]) (sb:=[]) (obs:=[Ob.prop (V.p 0 (off+Int.toNat (↑k:Int)*1)=V.p 0 (off+k)),Ob.prop ((0:Int)≤(↑k:Int)∧(↑k:Int) < (↑n:Int)),Ob.prop ((List.map uu X)[off+k]? = some (vU ↑x)),Ob.prop (V.c (Value.bool ((↑x:Int)==(0:Int)))=vT),Ob.prop (vI (IntKind.wrap .i64 ((↑k:Int)+(1:Int)))=vI (↑(k+1):Int))]) [true,false,false,true] 1 (by kernel_rfl) (hP zV (hP zV (hP hx (hP zV (hP zV hN))))) (uflat b X)
theorem ev_stop (off n c:Nat) (b:Bool) (X:List Nat) (k x:Nat) (hn:k < n) (hb:n < 1125899906842624) (hx:(X.map uu)[off+k]? = some (uu x)) (h0:x≠0):TSpec Tryd.prog (loopOf Tryd.f88 0) (evS off n c b X k) (Ex.exit 0) (evS off n c b X k) :=
 tspec_dim (sc:=[(2,2,.is (.p 0 (off+k))),(2,3,.fix (.int .u64 (x:Nat))),(2,4,.is (.c (.bool false)))]) (sb:=[]) (obs:=[Ob.prop (V.p 0 (off+Int.toNat (↑k:Int)*1)=V.p 0 (off+k)),Ob.prop ((0:Int)≤(↑k:Int)∧(↑k:Int) < (↑n:Int)),Ob.prop ((List.map uu X)[off+k]? = some (vU ↑x)),Ob.prop (V.c (Value.bool ((↑x:Int)==(0:Int)))=vF)]) [true,false,false,true] 1 (by kernel_rfl) (hP zV (hP zV (hP hx (hP zV hN)))) (uflat b X)
theorem ev_fnt (off n c:Nat) (X:List Nat) (k x z:Nat) (hn:k < n) (hb:n < 1125899906842624) (hx:(X.map uu)[off+k]? = some (uu x)) (hz:z < 64) (ht:CSpec Tryd.prog 97 #[.int .u64 (x:Int)] (.int .i64 (z:Nat))) (h:TSpec Tryd.prog (.block 0 (.loop (loopOf Tryd.f88 0))) (evS off n c true X 0) .normal (evS off n c true X k)):FSpec Tryd.prog 88 [.sl 0 off n c] [some ⟨true,X.map uu⟩] (vI (↑(64*k+z):Int)) [some ⟨true,X.map uu⟩] :=
 fspec_ok Tryd.func88 (sc:=[(4,1,.is (.c (.int .i64 (64*k:Nat)))),(4,4,.is (.p 0 (off+k))),(4,5,.fix (.int .u64 (x:Nat))),(4,6,.fix (.int .i64 (z:Nat))),(4,7,.is (.c (.int .i64 (64*k+z:Nat))))]) (sb:=[(0,.normal,evS off n c true X k)]) (keep:=[]) (obs:=[Ob.prop (Flat ([some ⟨true,X.map uu⟩]:List (Option Row))),Ob.prop (TSpec Tryd.prog (Code.block 0 (Code.loop (loopOf Tryd.f88 0))) ({ t:=[V.sl 0 off n c,V.c (Value.tuple { toList:=[] }),vI (0:Int),vI (0:Int),V.c (Value.tuple { toList:=[] }),V.c (Value.tuple { toList:=[] }),V.c (Value.tuple { toList:=[] }),V.c (Value.tuple { toList:=[] }),V.c (Value.tuple { toList:=[] }),V.c (Value.tuple { toList:=[] }),V.c (Value.tuple { toList:=[] }),V.c (Value.tuple { toList:=[] }),V.c (Value.tuple { toList:=[] }),V.c (Value.tuple { toList:=[] }),V.c (Value.tuple { toList:=[] }),V.c (Value.tuple { toList:=[] }),V.c (Value.tuple { toList:=[] }),V.c (Value.tuple { toList:=[] }),V.c (Value.tuple { toList:=[] })],m:=[some { own:=true,cells:=List.map uu X }] }) (Ex.normal) (evS off n c true X k)),Ob.prop (vI (IntKind.wrap .i64 ((64:Int)*(↑k:Int)))=vI (↑(64*k):Int)),Ob.prop (V.p 0 (off+Int.toNat (↑k:Int)*1)=V.p 0 (off+k)),Ob.prop ((0:Int)≤(↑k:Int)∧(↑k:Int) < (↑n:Int)),Ob.prop ((List.map uu X)[off+k]? = some (vU ↑x)),Ob.call 97 { toList:=[Value.int IntKind.u64 (↑x:Int)] } (Value.int IntKind.i64 (↑z:Int)),Ob.prop (vI (IntKind.wrap .i64 ((↑(64*k):Int)+(↑z:Int)))=vI (↑(64*k+z):Int))]) (by kernel_rfl) (hP (uflat true X) (hP (TSpec.from [true,false,false,true] h (by kernel_rfl) (by kernel_rfl) (uflat true X)) (hP zV (hP zV (hP zV (hP hx (hC ht (hP zV hN))))))))
theorem ev_fnf (off n c:Nat) (X:List Nat) (k x z:Nat) (hn:k < n) (hb:n < 1125899906842624) (hx:(X.map uu)[off+k]? = some (uu x)) (hz:z < 64) (ht:CSpec Tryd.prog 97 #[.int .u64 (x:Int)] (.int .i64 (z:Nat))) (h:TSpec Tryd.prog (.block 0 (.loop (loopOf Tryd.f88 0))) (evS off n c false X 0) .normal (evS off n c false X k)):FSpec Tryd.prog 88 [.sl 0 off n c] [some ⟨false,X.map uu⟩] (vI (↑(64*k+z):Int)) [some ⟨false,X.map uu⟩] :=
 fspec_ok Tryd.func88 (sc:=[(4,1,.is (.c (.int .i64 (64*k:Nat)))),(4,4,.is (.p 0 (off+k))),(4,5,.fix (.int .u64 (x:Nat))),(4,6,.fix (.int .i64 (z:Nat))),(4,7,.is (.c (.int .i64 (64*k+z:Nat))))]) (sb:=[(0,.normal,evS off n c false X k)]) (keep:=[]) (obs:=[Ob.prop (Flat ([some ⟨false,X.map uu⟩]:List (Option Row))),Ob.prop (TSpec Tryd.prog (Code.block 0 (Code.loop (loopOf Tryd.f88 0))) ({ t:=[V.sl 0 off n c,V.c (Value.tuple { toList:=[] }),vI (0:Int),vI (0:Int),V.c (Value.tuple { toList:=[] }),V.c (Value.tuple { toList:=[] }),V.c (Value.tuple { toList:=[] }),V.c (Value.tuple { toList:=[] }),V.c (Value.tuple { toList:=[] }),V.c (Value.tuple { toList:=[] }),V.c (Value.tuple { toList:=[] }),V.c (Value.tuple { toList:=[] }),V.c (Value.tuple { toList:=[] }),V.c (Value.tuple { toList:=[] }),V.c (Value.tuple { toList:=[] }),V.c (Value.tuple { toList:=[] }),V.c (Value.tuple { toList:=[] }),V.c (Value.tuple { toList:=[] }),V.c (Value.tuple { toList:=[] })],m:=[some { own:=false,cells:=List.map uu X }] }) (Ex.normal) (evS off n c false X k)),Ob.prop (vI (IntKind.wrap .i64 ((64:Int)*(↑k:Int)))=vI (↑(64*k):Int)),Ob.prop (V.p 0 (off+Int.toNat (↑k:Int)*1)=V.p 0 (off+k)),Ob.prop ((0:Int)≤(↑k:Int)∧(↑k:Int) < (↑n:Int)),Ob.prop ((List.map uu X)[off+k]? = some (vU ↑x)),Ob.call 97 { toList:=[Value.int IntKind.u64 (↑x:Int)] } (Value.int IntKind.i64 (↑z:Int)),Ob.prop (vI (IntKind.wrap .i64 ((↑(64*k):Int)+(↑z:Int)))=vI (↑(64*k+z):Int)) ]) (by kernel_rfl) (hP (uflat false X) (hP (TSpec.from [true,false,false,true] h (by kernel_rfl) (by kernel_rfl) (uflat false X)) (hP zV (hP zV (hP zV (hP hx (hC ht (hP zV hN))))))))
theorem ev_loop (off n c:Nat) (b:Bool) (X:List Nat) (hb:n < 1125899906842624) (hl:off+n≤X.length):∀ (r k:Nat),r=n - k→lw (win X (off+k) (n - k))≠0 →
 ∃ k',k≤k' ∧ k' < n∧X.getD (off+k') 0≠0∧(∀ t,t < 64→Tz (X.getD (off+k') 0) t→Tz (lw (win X (off+k) (n - k))) (64*(k' - k)+t))∧Rounds Tryd.prog (loopOf Tryd.f88 0) 0 (evS off n c b X k) .normal (evS off n c b X k'):=by
 intro r
 induction r with
 | zero =>
   intro k hr h
   rw [← hr] at h
   exact (h (by simp [win,lw])).elim
 | succ r ih =>
   intro k hr h
   have hk:off+k < X.length:=by omega
   have hw:win X (off+k) (n - k)=X.getD (off+k) 0::win X (off+(k+1)) (n - (k+1)):=by
    unfold win
    rw [List.drop_eq_getElem_cons hk,← hr,List.take_succ_cons,List.getD_eq_getElem?_getD,List.getElem?_eq_getElem hk]
    simp only [Option.getD_some]
    congr 2
    omega
   have hx:=uget hk
   by_cases h0:X.getD (off+k) 0=0
   ·rw [hw,lw,h0] at h
    obtain ⟨k',h1,h2,h3,h4,h5⟩:=ih (k+1) (by omega) (by omega)
    refine ⟨k',by omega,h2,h3,fun t ht htz=>?_,.step (ev_go off n c b X k _ (by omega) hb hx h0) h5⟩
    rw [hw,lw,h0,show 64*(k' - k)+t=64+(64*(k' - (k+1))+t) by omega]
    exact tz_up (h4 t ht htz)
   refine ⟨k,Nat.le_refl _,by omega,h0,fun t ht htz=>?_,.stop (ev_stop off n c b X k _ (by omega) hb hx h0)⟩
   rw [hw,lw,show 64*(k - k)+t=t by omega]
   exact tz_low ht htz
theorem evens_spec (off n c:Nat) (b:Bool) (X:List Nat) (hw:Wd X) (hb:n < 1125899906842624) (hl:off+n≤X.length) (h0:lw (win X off n)≠0) :
 ∃ t,t < 64*n∧Tz (lw (win X off n)) t∧FSpec Tryd.prog 88 [.sl 0 off n c] [some ⟨b,X.map uu⟩] (.c (.int .i64 (t:Nat))) [some ⟨b,X.map uu⟩]:=by
 obtain ⟨k,_,hk,hx,htz,hloop⟩:=ev_loop off n c b X hb hl n 0 (by omega) h0
 have hkl:off+k < X.length:=by omega
 have hx64:X.getD (off+k) 0 < 18446744073709551616:=by
  rw [List.getD_eq_getElem?_getD,List.getElem?_eq_getElem hkl]
  exact hw _ (List.getElem_mem hkl)
 obtain ⟨hz,hz64⟩:=tz_ctz hx hx64
 refine ⟨64*k+Lib.ctz 64 (X.getD (off+k) 0),by omega,htz _ hz64 hz,?_⟩
 cases b with
 | true=>exact ev_fnt off n c X k _ _ hk hb (uget hkl) hz64 (tz_spec _ hx64 hx) hloop.spec
 | false=>exact ev_fnf off n c X k _ _ hk hb (uget hkl) hz64 (tz_spec _ hx64 hx) hloop.spec
end Go.Proofs.YtmkgijiniopalaaDoor.G
end
section
namespace Go.Proofs.YtmkgijiniopalaaDoor.G
open Go.Proofs.YtmkgijiniopalaaDoor.U Go.RowKit
theorem rho_at {t:List V} {m:List (Option U.Row)} {i:Nat} {v:V} (h:t[i]? = some v):St.rho ⟨t,m⟩ (.tmp i)=v.val:=by
 simp only [St.rho,St.at,List.getD_eq_getElem?_getD,h,Option.getD_some]
theorem sval_bind {α β:Type} {P:Program}:∀ {s:Sem α} {k:α→Sem β} {a:α},sval P s=some a→sval P (s >>= k)=sval P (k a):=by
 intro s
 induction s with
 | pure b=>intro k a h; simp only [sval,Option.some.injEq] at h; subst h; rfl
 | program f ih=>intro k a h; exact ih P h
 | mark m f ih=>intro k a h; exact ih h
 | _=>intro k a h; simp [sval] at h
theorem sv_shift {P:Program} {t:List V} {m:List (Option U.Row)} {op:BinOp} {i j:Nat} {x s:Int} {k yk:IntKind} {d:Option Tmp} {ty ty2 ty3:TypeId} {ps:String} {af:Array Edge} {g:Option (Nat × Bool)} {r:Value}
 (hop:op = .shl∨op = .shr) (hi:t[i]? = some (.c (.int k x))) (hj:t[j]? = some (.c (.int yk s))) (hr:Op.shift op k x yk s=pure r) :
 sval P (execOp (St.rho ⟨t,m⟩) { dst:=d,op:=.binOp op ty (.tmp i) (.tmp j) ty2,type:=ty3,pos:=ps,after:=af,guard:=g })=some (.value r):=by
 have h1:=rho_at (m:=m) hi
 have h2:=rho_at (m:=m) hj
 have hb:binOp op ty (.int k x) (.int yk s)=pure r:=by
  rcases hop with rfl | rfl<;>exact hr
 have hg:∀ a b,eqGuard op ty a b (.int k x) (.int yk s)=pure ():=by
  intro a b
  rcases hop with rfl | rfl<;>rfl
 simp only [execOp,h1,h2,V.val,hg,hb]
 rfl
theorem sv_shr {P:Program} {t:List V} {m:List (Option U.Row)} {i j:Nat} {x s:Nat} {yk:IntKind} {d:Option Tmp} {ty ty2 ty3:TypeId} {ps:String} {af:Array Edge} {g:Option (Nat × Bool)}
 (hs:s < 64) (hi:t[i]? = some (.c (.int .u64 (x:Int)))) (hj:t[j]? = some (.c (.int yk (s:Int)))) :
 sval P (execOp (St.rho ⟨t,m⟩) { dst:=d,op:=.binOp .shr ty (.tmp i) (.tmp j) ty2,type:=ty3,pos:=ps,after:=af,guard:=g })=some (.value (.int .u64 ((x/2^s:Nat):Int))):=by
 refine sv_shift (.inr rfl) hi hj ?_
 rw [shift_shr_any _ _ _ _ (by omega)]
 have:min (Int.toNat (s:Int)) (IntKind.bits .u64)=s:=by simp [IntKind.bits]; omega
 rw [this,Int.natCast_ediv,Int.natCast_pow]
 rfl
theorem sv_shl {P:Program} {t:List V} {m:List (Option U.Row)} {i j:Nat} {x s:Nat} {yk:IntKind} {d:Option Tmp} {ty ty2 ty3:TypeId} {ps:String} {af:Array Edge} {g:Option (Nat × Bool)}
 (hs:s < 64) (hi:t[i]? = some (.c (.int .u64 (x:Int)))) (hj:t[j]? = some (.c (.int yk (s:Int)))) :
 sval P (execOp (St.rho ⟨t,m⟩) { dst:=d,op:=.binOp .shl ty (.tmp i) (.tmp j) ty2,type:=ty3,pos:=ps,after:=af,guard:=g })=some (.value (.int .u64 ((x*2^s%18446744073709551616:Nat):Int))):=by
 refine sv_shift (.inl rfl) hi hj ?_
 rw [shift_shl_any _ _ _ _ (by omega)]
 have:min (Int.toNat (s:Int)) (IntKind.bits .u64)=s:=by simp [IntKind.bits]; omega
 rw [this,IntKind.wrap_u64,Int.natCast_emod,Int.natCast_mul,Int.natCast_pow]
 rfl
theorem sv_shiftR {P:Program} {S:St} {op:BinOp} {a b:Operand} {x s:Int} {k yk:IntKind} {d:Option Tmp} {ty ty2 ty3:TypeId} {ps:String} {af:Array Edge} {g:Option (Nat × Bool)} {r:Value}
 (hop:op = .shl∨op = .shr) (h1:St.rho S a = .int k x) (h2:St.rho S b = .int yk s) (hr:Op.shift op k x yk s=pure r) :
 sval P (execOp (St.rho S) { dst:=d,op:=.binOp op ty a b ty2,type:=ty3,pos:=ps,after:=af,guard:=g })=some (.value r):=by
 have hb:binOp op ty (.int k x) (.int yk s)=pure r:=by
  rcases hop with rfl | rfl<;>exact hr
 have hg:∀ a b,eqGuard op ty a b (.int k x) (.int yk s)=pure ():=by
  intro a b
  rcases hop with rfl | rfl<;>rfl
 simp only [execOp,h1,h2,hg,hb]
 rfl
theorem sv_shl8 {P:Program} {S:St} {a b:Operand} {s:Nat} {d:Option Tmp} {ty ty2 ty3:TypeId} {ps:String} {af:Array Edge} {g:Option (Nat × Bool)}
 (hs:s < 8) (h1:St.rho S a = .int .u8 1) (h2:St.rho S b = .int .i64 (s:Int)) :
 sval P (execOp (St.rho S) { dst:=d,op:=.binOp .shl ty a b ty2,type:=ty3,pos:=ps,after:=af,guard:=g })=some (.value (.int .u8 ((2^s:Nat):Int))):=by
 refine sv_shiftR (.inl rfl) h1 h2 ?_
 rw [shift_shl_any _ _ _ _ (by omega)]
 have:min (Int.toNat (s:Int)) (IntKind.bits .u8)=s:=by simp [IntKind.bits]; omega
 rw [this]
 have hlt:2^s < 2^8:=Nat.pow_lt_pow_right (by decide) hs
 congr 2
 have e:(2:Int)^s=((2^s:Nat):Int):=by simp
 rw [Int.one_mul,e]
 simp only [IntKind.wrap,IntKind.signed,IntKind.bits,Bool.false_and,Bool.false_eq_true,if_false]
 rw [show ((2:Int)^8)=((2^8:Nat):Int) by decide,← Int.natCast_emod,Nat.mod_eq_of_lt hlt]
theorem or_words {a b:Nat} (ha:a < 18446744073709551616) (hb:b < 18446744073709551616) :
 V.c (Value.int IntKind.u64 (IntKind.wrap IntKind.u64 ((BitVec.toNat (BitVec.ofInt (64:Nat) (a:Int) ||| BitVec.ofInt (64:Nat) (b:Int)):Nat):Int)))=V.c (.int .u64 ((a ||| b:Nat):Int)):=by
 congr 2
 exact bits_or_u64_nat a b ha hb
theorem or_apart {a b s:Nat} (h:a < 2^s):a ||| b*2^s=a+b*2^s:=by
 rw [Nat.or_comm,Nat.mul_comm,← Nat.two_pow_add_eq_or_of_lt h,Nat.add_comm]
end Go.Proofs.YtmkgijiniopalaaDoor.G
end
section
namespace Go.Proofs.YtmkgijiniopalaaDoor.G
open Go.Proofs.YtmkgijiniopalaaDoor.U
theorem len_of {C:List V} {k:Nat} {v u:V} (h:C[k]? = some v):k+List.length [u]≤C.length:=by
 have:=(List.getElem?_eq_some_iff.1 h).1
 simp; omega
theorem len_set {C:List V} {k:Nat} {v u z:V} (h:C[k]? = some v):k+List.length [u]≤List.length (List.set C k z):=by
 have:=(List.getElem?_eq_some_iff.1 h).1
 simp; omega
theorem set_at {C:List V} {k:Nat} {v u:V} (h:C[k]? = some v):(List.set C k u)[k]? = some u:=by
 rw [List.getElem?_set_self (List.getElem?_eq_some_iff.1 h).1]
theorem set_next {C:List V} {k j:Nat} {v u:V} (h:C[j]? = some v) (hk:k≠j):(List.set C k u)[j]? = some v:=by
 rw [List.getElem?_set_ne hk]; exact h
theorem flat_set {C:List V} {k:Nat} {u:V} (hu:u.id? = none) (h:∀ v:V,v∈C→v.id? = none):∀ v:V,v∈List.set C k u→v.id? = none:=fun v hv=>by
 rcases List.mem_or_eq_of_mem_set hv with h1 | rfl
 ·exact h v h1
 exact hu
theorem shr_lt {x s:Nat} (h:s≤64) (hx:x < 18446744073709551616):x/2^s < 2^(64 - s):=by
 refine Nat.div_lt_of_lt_mul ?_
 rw [← Nat.pow_add,show s+(64 - s)=64 by omega]
 exact hx
theorem or_shift {x y s:Nat} (h:0 < s) (hs:s < 64) (hx:x < 18446744073709551616) :
 V.c (Value.int IntKind.u64 (IntKind.wrap IntKind.u64 ((BitVec.toNat (BitVec.ofInt (64:Nat) ((x/2^s:Nat):Int) ||| BitVec.ofInt (64:Nat) ((y*2^(64 - s)%18446744073709551616:Nat):Int)):Nat):Int)))=V.c (.int .u64 ((x/2^s+y%2^s*2^(64 - s):Nat):Int)):=by
 have h1:=shr_lt (Nat.le_of_lt hs) hx
 have h2:2^(64 - s) < 18446744073709551616:=by
  rw [show (18446744073709551616:Nat)=2^64 by decide]
  exact Nat.pow_lt_pow_right (by decide) (by omega)
 rw [or_words (by omega) (Nat.mod_lt _ (by decide))]
 congr 3
 have e:y*2^(64 - s)%18446744073709551616=y%2^s*2^(64 - s):=by
  rw [show (18446744073709551616:Nat)=2^s*2^(64 - s) by rw [← Nat.pow_add,show s+(64 - s)=64 by omega],Nat.mul_mod_mul_right]
 rw [e,or_apart h1]
theorem quo_q {q s:Nat} (hs:s < 64) (hq:q < 1125899906842624):V.c (Value.int IntKind.i64 (IntKind.wrap IntKind.i64 (Int.tdiv ((64*q+s:Nat):Int) 64)))=V.c (Value.int IntKind.i64 (q:Int)):=by
 congr 2
 rw [Int.tdiv_eq_ediv_of_nonneg (by omega),show (((64*q+s:Nat):Int)/64)=q by omega]
 simp [IntKind.wrap,IntKind.signed,IntKind.bits]; omega
theorem rem_q {q s:Nat} (hs:s < 64):V.c (Value.int IntKind.i64 (Int.tmod ((64*q+s:Nat):Int) 64))=V.c (Value.int IntKind.i64 (s:Int)):=by
 congr 2
 rw [Int.tmod_eq_emod_of_nonneg (by omega)]
 omega
theorem slice_q {off q n c:Nat} (hq:q < n) (hc:n≤c):V.sl 0 (off+(if c=Int.toNat (q:Int) then 0 else Int.toNat (q:Int)*1)) (n - Int.toNat (q:Int)) (c - Int.toNat (q:Int))=V.sl 0 (off+q) (n - q) (c - q):=by
 have:¬ c=q:=by omega
 simp [this]
def rS (o m c s:Nat) (C:List V) (i:Nat):St:=⟨[.sl 0 o m c,.c (.int .i64 (s:Nat))]++List.replicate 13 .any++[.c (.int .i64 (m:Nat)),.c (.int .i64 (i:Nat))]++List.replicate 31 .any,[some ⟨true,C⟩]⟩
theorem ri_go (o m c s i x y:Nat) (C:List V) (hf:∀ v:V,v∈C→v.id? = none) (hm:m < 1125899906842624) (hs:0 < s) (hs2:s < 64) (hi:i < m) (hx:C[o+i]? = some (uu x)) (hx2:x < 18446744073709551616) (hl:i+1 < m) (hy:C[o+(i+1)]? = some (uu y)) (hy2:y < 18446744073709551616):TSpec Tryd.prog (loopOf Tryd.f89 0) (rS o m c s C i) (Ex.normal) (rS o m c s ((C.set (o+i) (uu (x/2^s))).set (o+i) (uu (x/2^s+y%2^s*2^(64 - s)))) (i+1)) :=
 tspec_dim (sc:=[(5,0,.is (.c (.bool true))),(7,2,.is (.p 0 (o+i))),(7,3,.fix (.int .u64 (x:Nat))),(7,5,.fix (.int .u64 (x/2^s:Nat))),(7,6,.is (.p 0 (o+i))),(7,7,.fix undef),(8,1,.is (.c (.int .i64 (i+1:Nat)))),(8,4,.is (.c (.bool true))),(9,2,.is (.p 0 (o+i))),(9,3,.fix (.int .u64 (x/2^s:Nat))),(9,6,.is (.c (.int .i64 (i+1:Nat)))),(9,7,.is (.p 0 (o+(i+1)))),(9,8,.fix (.int .u64 (y:Nat))),(9,10,.is (.c (.int .i64 (64-s:Nat)))),(9,11,.fix (.int .u64 (y*2^(64 - s)%18446744073709551616:Nat))),(9,12,.is (.c (.int .u64 (x/2^s+y%2^s*2^(64 - s):Nat)))),(9,13,.is (.p 0 (o+i))),(9,14,.fix undef),(10,0,.is (.c (.int .i64 (i+1:Nat))))]) (sb:=[]) (obs:=[Ob.prop (V.c (Value.bool (decide ((↑i:Int) < (↑m:Int))))=vT),Ob.prop (V.p 0 (o+Int.toNat (↑i:Int)*1)=V.p 0 (o+i)),Ob.prop ((0:Int)≤(↑i:Int)∧(↑i:Int) < (↑m:Int)),Ob.prop (C[o+i]? = some (vU ↑x)),Ob.val (execOp (St.rho ⟨(slots 24 0 [(22,vU ↑x),(23,vI ↑s)]),[]⟩) { dst:=some 24,op:=Op.binOp BinOp.shr 87 (Operand.tmp 22) (Operand.tmp 23) 3,type:=87,pos := "gcd.go:36",after:={ toList:=[{ on:=3,ground:=Ground.data },{ on:=4,ground:=Ground.data }] },guard:=none }) (Value.int IntKind.u64 (↑(x/(2:Nat)^s):Int)),Ob.prop (V.p 0 (o+Int.toNat (↑i:Int)*1)=V.p 0 (o+i)),Ob.prop ((0:Int)≤(↑i:Int)∧(↑i:Int) < (↑m:Int)),Ob.prop (o+i+List.length [vU (↑(x/(2:Nat)^s):Int)]≤List.length C),Ob.prop (vI (IntKind.wrap .i64 ((↑i:Int)+(1:Int)))=vI (↑(i+1):Int)),Ob.prop (V.c (Value.bool (decide ((↑(i+1):Int) < (↑m:Int))))=vT),Ob.prop (V.p 0 (o+Int.toNat (↑i:Int)*1)=V.p 0 (o+i)),Ob.prop ((0:Int)≤(↑i:Int)∧(↑i:Int) < (↑m:Int)),Ob.prop ((List.set C (o+i) (vU (↑(x/(2:Nat)^s):Int)))[o+i]? = some (vU (↑(x/(2:Nat)^s):Int))),Ob.prop (vI (IntKind.wrap .i64 ((↑i:Int)+(1:Int)))=vI (↑(i+1):Int)),Ob.prop (V.p 0 (o+Int.toNat (↑(i+1):Int)*1)=V.p 0 (o+(i+1))),Ob.prop ((0:Int)≤(↑(i+1):Int)∧(↑(i+1):Int) < (↑m:Int)),Ob.prop ((List.set C (o+i) (vU (↑(x/(2:Nat)^s):Int)))[o+(i+1)]? = some (vU ↑y)),Ob.prop (vI (IntKind.wrap .i64 ((64:Int) - (↑s:Int)))=vI (↑(64 - s):Int)),Ob.val (execOp (St.rho ⟨(slots 42 0 [(39,vU ↑y),(41,vI (↑(64 - s):Int))]),[]⟩) { dst:=some 42,op:=Op.binOp BinOp.shl 87 (Operand.tmp 39) (Operand.tmp 41) 3,type:=87,pos := "gcd.go:38",after:={ toList:=[{ on:=8,ground:=Ground.data },{ on:=10,ground:=Ground.data }] },guard:=none }) (Value.int IntKind.u64 (↑(y*(2:Nat)^(64 - s)%18446744073709551616):Int)),Ob.prop (vU (IntKind.wrap .u64 (↑(BitVec.toNat (BitVec.ofInt 64 (↑(x/(2:Nat)^s):Int) ||| BitVec.ofInt 64 (↑(y*(2:Nat)^(64 - s)%18446744073709551616):Int))):Int))=vU (↑(x/(2:Nat)^s+y%(2:Nat)^s*(2:Nat)^(64 - s)):Int)),Ob.prop (V.p 0 (o+Int.toNat (↑i:Int)*1)=V.p 0 (o+i)),Ob.prop ((0:Int)≤(↑i:Int)∧(↑i:Int) < (↑m:Int)),Ob.prop (o+i+List.length [vU (↑(x/(2:Nat)^s+y%(2:Nat)^s*(2:Nat)^(64 - s)):Int)]≤List.length (List.set C (o+i) (vU (↑(x/(2:Nat)^s):Int)))),Ob.prop (vI (IntKind.wrap .i64 ((↑i:Int)+(1:Int)))=vI (↑(i+1):Int))]) ([true,true]++List.replicate 13 false++[true,true]) 1 (by kernel_rfl) (hP zV (hP zV (hP zV (hP hx (hV (sv_shr hs2 rfl rfl) (hP zV (hP zV (hP (len_of hx) (hP zV (hP zV (hP zV (hP zV (hP (set_at hx) (hP zV (hP zV (hP zV (hP (set_next hy (by omega)) (hP zV (hV (sv_shl (by omega) rfl rfl) (hP (or_shift hs hs2 hx2) (hP zV (hP zV (hP (len_set hx) (hP zV hN)))))))))))))))))))))))) ⟨flat_set rfl (flat_set rfl hf),trivial⟩
theorem ri_last (o m c s i x:Nat) (C:List V) (hf:∀ v:V,v∈C→v.id? = none) (hm:m < 1125899906842624) (hs:0 < s) (hs2:s < 64) (hi:i < m) (hx:C[o+i]? = some (uu x)) (hx2:x < 18446744073709551616) (hl:¬ i+1 < m):TSpec Tryd.prog (loopOf Tryd.f89 0) (rS o m c s C i) (Ex.normal) (rS o m c s (C.set (o+i) (uu (x/2^s))) (i+1)) :=
 tspec_dim (sc:=[(5,0,.is (.c (.bool true))),(7,2,.is (.p 0 (o+i))),(7,3,.fix (.int .u64 (x:Nat))),(7,5,.fix (.int .u64 (x/2^s:Nat))),(7,6,.is (.p 0 (o+i))),(7,7,.fix undef),(8,1,.is (.c (.int .i64 (i+1:Nat)))),(8,4,.is (.c (.bool false))),(10,0,.is (.c (.int .i64 (i+1:Nat))))]) (sb:=[]) (obs:=[Ob.prop (V.c (Value.bool (decide ((↑i:Int) < (↑m:Int))))=vT),Ob.prop (V.p 0 (o+Int.toNat (↑i:Int)*1)=V.p 0 (o+i)),Ob.prop ((0:Int)≤(↑i:Int)∧(↑i:Int) < (↑m:Int)),Ob.prop (C[o+i]? = some (vU ↑x)),Ob.val (execOp (St.rho ⟨(slots 24 0 [(22,vU ↑x),(23,vI ↑s)]),[]⟩) { dst:=some 24,op:=Op.binOp BinOp.shr 87 (Operand.tmp 22) (Operand.tmp 23) 3,type:=87,pos := "gcd.go:36",after:={ toList:=[{ on:=3,ground:=Ground.data },{ on:=4,ground:=Ground.data }] },guard:=none }) (Value.int IntKind.u64 (↑(x/(2:Nat)^s):Int)),Ob.prop (V.p 0 (o+Int.toNat (↑i:Int)*1)=V.p 0 (o+i)),Ob.prop ((0:Int)≤(↑i:Int)∧(↑i:Int) < (↑m:Int)),Ob.prop (o+i+List.length [vU (↑(x/(2:Nat)^s):Int)]≤List.length C),Ob.prop (vI (IntKind.wrap .i64 ((↑i:Int)+(1:Int)))=vI (↑(i+1):Int)),Ob.prop (V.c (Value.bool (decide ((↑(i+1):Int) < (↑m:Int))))=vF),Ob.prop (vI (IntKind.wrap .i64 ((↑i:Int)+(1:Int)))=vI (↑(i+1):Int))]) ([true,true]++List.replicate 13 false++[true,true]) 1 (by kernel_rfl) (hP zV (hP zV (hP zV (hP hx (hV (sv_shr hs2 rfl rfl) (hP zV (hP zV (hP (len_of hx) (hP zV (hP zV (hP zV hN))))))))))) ⟨flat_set rfl hf,trivial⟩
theorem ri_end (o m c s:Nat) (C:List V) (hf:∀ v:V,v∈C→v.id? = none):TSpec Tryd.prog (loopOf Tryd.f89 0) (rS o m c s C m) (Ex.exit 0) (rS o m c s C m) :=
 tspec_dim (sc:=[(5,0,.is (.c (.bool false)))]) (sb:=[]) (obs:=[Ob.prop (V.c (Value.bool (decide ((↑m:Int) < (↑m:Int))))=vF)]) ([true,true]++List.replicate 13 false++[true,true]) 1 (by kernel_rfl) (hP zV hN) ⟨hf,trivial⟩
theorem ri_fnA (off n c q s k:Nat) (C C':List V) (hf:∀ v:V,v∈C' → v.id? = none) (hf0:∀ v:V,v∈C→v.id? = none) (hn:n < 1125899906842624) (hq:q < n) (hc:n≤c) (hs2:s < 64) (hcut:FSpec Tryd.prog 98 [.sl 0 (off+q) (n - q) (c - q)] [some ⟨true,C'⟩] (.sl 0 (off+q) k (c - q)) [some ⟨true,C'⟩]) (hs:0 < s) (h:TSpec Tryd.prog (.block 0 (.loop (loopOf Tryd.f89 0))) (rS (off+q) (n - q) (c - q) s C 0) .normal (rS (off+q) (n - q) (c - q) s C' (n - q))):FSpec Tryd.prog 89 [.sl 0 off n c,.c (.int .i64 (64*q+s:Nat))] [some ⟨true,C⟩] (V.sl 0 (off+q) k (c - q)) [some ⟨true,C'⟩] :=
 fspec_ok Tryd.func89 (sc:=[(1,2,.is (.c (.int .i64 (q:Nat)))),(1,3,.is (.sl 0 (off+q) (n - q) (c - q))),(2,1,.is (.c (.int .i64 (s:Nat)))),(3,1,.is (.c (.bool true))),(11,1,.call (.sl 0 (off+q) k (c - q)) [some ⟨true,C'⟩])]) (sb:=[(0,.normal,rS (off+q) (n - q) (c - q) s C' (n - q))]) (keep:=[]) (obs:=[Ob.prop (Flat ([some ⟨true,C'⟩]:List (Option Row))),Ob.prop (vI (IntKind.wrap .i64 (Int.tdiv (↑(64*q+s):Int) (64:Int)))=vI ↑q),Ob.prop (V.sl 0 (off+if c=Int.toNat (↑q:Int) then (0:Nat) else Int.toNat (↑q:Int)*1) (Int.toNat (↑n:Int) - Int.toNat (↑q:Int)) (c - Int.toNat (↑q:Int))=V.sl 0 (off+q) (n - q) (c - q)),Ob.prop ((0:Int)≤(↑q:Int)∧(↑q:Int)≤(↑n:Int)∧(↑n:Int)≤(↑c:Int)),Ob.prop (vI (Int.tmod (↑(64*q+s):Int) (64:Int))=vI ↑s),Ob.prop (V.c (Value.bool (decide ((↑s:Int) > (0:Int))))=vT),Ob.prop (TSpec Tryd.prog (Code.block 0 (Code.loop (loopOf Tryd.f89 0))) ({ t:=[V.sl 0 (off+q) (n - q) (c - q),vI ↑s,V.c (Value.tuple { toList:=[] }),V.c (Value.tuple { toList:=[] }),V.c (Value.slice none 0 0),V.c (Value.tuple { toList:=[] }),V.sl 0 off n c,vI (↑(64*q+s):Int),vI ↑q,V.sl 0 (off+q) (n - q) (c - q),vI (↑(64*q+s):Int),vI ↑s,vI ↑s,vT,V.sl 0 (off+q) (n - q) (c - q),vI (↑(n - q):Int),vI (0:Int),V.c (Value.tuple { toList:=[] }),V.c (Value.tuple { toList:=[] }),V.c (Value.tuple { toList:=[] }),V.c (Value.tuple { toList:=[] }),V.c (Value.tuple { toList:=[] }),V.c (Value.tuple { toList:=[] }),V.c (Value.tuple { toList:=[] }),V.c (Value.tuple { toList:=[] }),V.c (Value.tuple { toList:=[] }),V.c (Value.tuple { toList:=[] }),V.c (Value.tuple { toList:=[] }),V.c (Value.tuple { toList:=[] }),V.c (Value.tuple { toList:=[] }),V.c (Value.tuple { toList:=[] }),V.c (Value.tuple { toList:=[] }),V.c (Value.tuple { toList:=[] }),V.c (Value.tuple { toList:=[] }),V.c (Value.tuple { toList:=[] }),V.c (Value.tuple { toList:=[] }),V.c (Value.tuple { toList:=[] }),V.c (Value.tuple { toList:=[] }),V.c (Value.tuple { toList:=[] }),V.c (Value.tuple { toList:=[] }),V.c (Value.tuple { toList:=[] }),V.c (Value.tuple { toList:=[] }),V.c (Value.tuple { toList:=[] }),V.c (Value.tuple { toList:=[] }),V.c (Value.tuple { toList:=[] }),V.c (Value.tuple { toList:=[] }),V.c (Value.tuple { toList:=[] }),V.c (Value.tuple { toList:=[] })],m:=[some { own:=true,cells:=C }] }) (Ex.normal) (rS (off+q) (n - q) (c - q) s C' (n - q))),Ob.fcall 98 [V.sl 0 (off+q) (n - q) (c - q)] [some { own:=true,cells:=C' }] (V.sl 0 (off+q) k (c - q)) [some { own:=true,cells:=C' }]]) (by kernel_rfl) (hP ⟨hf,trivial⟩ (hP (quo_q hs2 (by omega)) (hP (slice_q hq hc) (hP zV (hP (rem_q hs2) (hP zV (hP (TSpec.from ([true,true]++List.replicate 13 false++[true,true]) h (by kernel_rfl) (by kernel_rfl) ⟨hf0,trivial⟩) (hF hcut hN))))))))
theorem ri_fnB (off n c q s k:Nat) (C:List V) (hf:∀ v:V,v∈C→v.id? = none)  (hn:n < 1125899906842624) (hq:q < n) (hc:n≤c) (hs2:s < 64) (hcut:FSpec Tryd.prog 98 [.sl 0 (off+q) (n - q) (c - q)] [some ⟨true,C⟩] (.sl 0 (off+q) k (c - q)) [some ⟨true,C⟩]) (hs:s=0):FSpec Tryd.prog 89 [.sl 0 off n c,.c (.int .i64 (64*q+s:Nat))] [some ⟨true,C⟩] (V.sl 0 (off+q) k (c - q)) [some ⟨true,C⟩] :=
 fspec_ok Tryd.func89 (sc:=[(1,2,.is (.c (.int .i64 (q:Nat)))),(1,3,.is (.sl 0 (off+q) (n - q) (c - q))),(2,1,.is (.c (.int .i64 (s:Nat)))),(3,1,.is (.c (.bool false))),(11,1,.call (.sl 0 (off+q) k (c - q)) [some ⟨true,C⟩])]) (sb:=[]) (keep:=[]) (obs:=[Ob.prop (Flat ([some ⟨true,C⟩]:List (Option Row))),Ob.prop (vI (IntKind.wrap .i64 (Int.tdiv (↑(64*q+s):Int) (64:Int)))=vI ↑q),Ob.prop (V.sl 0 (off+if c=Int.toNat (↑q:Int) then (0:Nat) else Int.toNat (↑q:Int)*1) (Int.toNat (↑n:Int) - Int.toNat (↑q:Int)) (c - Int.toNat (↑q:Int))=V.sl 0 (off+q) (n - q) (c - q)),Ob.prop ((0:Int)≤(↑q:Int)∧(↑q:Int)≤(↑n:Int)∧(↑n:Int)≤(↑c:Int)),Ob.prop (vI (Int.tmod (↑(64*q+s):Int) (64:Int))=vI ↑s),Ob.prop (V.c (Value.bool (decide ((↑s:Int) > (0:Int))))=vF),Ob.fcall 98 [V.sl 0 (off+q) (n - q) (c - q)] [some { own:=true,cells:=C }] (V.sl 0 (off+q) k (c - q)) [some { own:=true,cells:=C }] ]) (by kernel_rfl) (hP ⟨hf,trivial⟩ (hP (quo_q hs2 (by omega)) (hP (slice_q hq hc) (hP zV (hP (rem_q hs2) (hP zV (hF hcut hN)))))))
theorem lw_lt:∀ {W:List Nat},Wd W→lw W < 18446744073709551616^W.length
 | [],_=>by simp [lw]
 | x::r,h=>by
   have h1:=lw_lt (W:=r) fun y hy=>h y (List.mem_cons_of_mem _ hy)
   have h2:=h x List.mem_cons_self
   rw [lw,List.length_cons,Nat.pow_succ,Nat.mul_comm]
   omega
theorem lw_append:∀ (A B:List Nat),lw (A++B)=lw A+18446744073709551616^A.length*lw B
 | [],B=>by simp [lw]
 | x::r,B=>by
   have e:18446744073709551616*(18446744073709551616^r.length*lw B)=18446744073709551616^r.length*18446744073709551616*lw B:=by rw [← Nat.mul_assoc,Nat.mul_comm 18446744073709551616]
   rw [List.cons_append,lw,lw_append r B,lw,List.length_cons,Nat.pow_succ,Nat.mul_add,e,Nat.add_assoc]
theorem shift_step {x y R s:Nat} (hs:s≤64) (hy:R%2^s=y%2^s):x/2^s+y%2^s*2^(64 - s)+18446744073709551616*(R/2^s)=(x+18446744073709551616*R)/2^s:=by
 have hp:0 < 2^s:=Nat.pow_pos (by decide)
 have e:(18446744073709551616:Nat)=2^s*2^(64 - s):=by rw [← Nat.pow_add,show s+(64 - s)=64 by omega]
 have e2:x+18446744073709551616*R=x+2^s*(2^(64 - s)*R):=by rw [e,Nat.mul_assoc]
 rw [e2,Nat.add_mul_div_left _ _ hp]
 have e3:2^(64 - s)*R=R%2^s*2^(64 - s)+18446744073709551616*(R/2^s):=by
  conv=>lhs; rw [← Nat.mod_add_div R (2^s)]
  rw [Nat.mul_add,Nat.mul_comm (2^(64 - s)),← Nat.mul_assoc,Nat.mul_comm (2^(64 - s)) (2^s),← e]
 rw [e3,hy,Nat.add_assoc]
theorem word_lt {x y s:Nat} (hs:s≤64) (hx:x < 18446744073709551616):x/2^s+y%2^s*2^(64 - s) < 18446744073709551616:=by
 have h1:=shr_lt hs hx
 have hp:0 < 2^s:=Nat.pow_pos (by decide)
 have h2:y%2^s+1≤2^s:=Nat.mod_lt _ hp
 have h3:=Nat.mul_le_mul_right (2^(64 - s)) h2
 rw [← Nat.pow_add,show s+(64 - s)=64 by omega,Nat.add_mul] at h3
 have:(2:Nat)^64=18446744073709551616:=by decide
 omega
theorem at_mid {pre post:List Nat} {x:Nat} {k:Nat} (h:pre.length=k):((pre++x::post).map uu)[k]? = some (uu x):=by
 rw [List.getElem?_map,List.getElem?_append_right (by omega),← h]
 simp
theorem set_mid {pre post:List Nat} {x v:Nat} {k:Nat} (h:pre.length=k):((pre++x::post).map uu).set k (uu v)=(pre++v::post).map uu:=by
 subst h
 rw [← List.map_set,List.set_append_right _ _ (Nat.le_refl _)]
 simp
theorem uu_flat (L:List Nat):∀ v:V,v∈L.map uu→v.id? = none:=fun v hv=>by
 obtain ⟨x,_,rfl⟩:=List.mem_map.1 hv
 rfl
theorem ri_loop (o m c s:Nat) (post:List Nat) (hm:m < 1125899906842624) (hs:0 < s) (hs2:s < 64):∀ (W pre:List Nat) (i:Nat),pre.length=o+i→i+W.length=m→Wd W →
 ∃ W',W'.length=W.length∧lw W' = lw W/2^s∧Wd W' ∧ Rounds Tryd.prog (loopOf Tryd.f89 0) 0 (rS o m c s ((pre++(W++post)).map uu) i) .normal (rS o m c s ((pre++(W' ++ post)).map uu) m)
 | [],pre,i,hp,hl,hw=>by
   have:i=m:=by simpa using hl
   subst this
   exact ⟨[],rfl,by simp [lw],hw,.stop (ri_end o i c s _ (uu_flat _))⟩
 | [x],pre,i,hp,hl,hw=>by
   have hi:i+1=m:=by simpa using hl
   have hx:=at_mid (post:=post) (x:=x) hp
   refine ⟨[x/2^s],rfl,by simp [lw],fun y hy=>?_,.step (ri_last o m c s i x _ (uu_flat _) hm hs hs2 (by omega) hx (hw x (by simp)) (by omega)) ?_⟩
   ·rw [List.mem_singleton.1 hy]
    exact Nat.lt_of_le_of_lt (Nat.div_le_self _ _) (hw x (by simp))
   rw [List.singleton_append,set_mid hp,hi]
   exact .stop (ri_end o m c s _ (uu_flat _))
 | x::y::r,pre,i,hp,hl,hw=>by
   have hlen:i+(r.length+2)=m:=by simpa using hl
   have hx:=at_mid (post:=y::(r++post)) (x:=x) hp
   have hy:((pre++x::y::(r++post)).map uu)[o+(i+1)]? = some (uu y):=by
    have:=at_mid (pre:=pre++[x]) (post:=r++post) (x:=y) (k:=o+(i+1)) (by simp; omega)
    simpa using this
   have hx2:=hw x (by simp)
   have hy2:=hw y (by simp)
   obtain ⟨W',h1,h2,h3,h4⟩:=ri_loop o m c s post hm hs hs2 (y::r) (pre++[x/2^s+y%2^s*2^(64 - s)]) (i+1) (by simp; omega) (by simp; omega) (fun z hz=>hw z (List.mem_cons_of_mem _ hz))
   refine ⟨(x/2^s+y%2^s*2^(64 - s))::W',by simp at h1 ⊢; exact h1,?_,fun z hz=>?_,.step (ri_go o m c s i x y _ (uu_flat _) hm hs hs2 (by omega) hx hx2 (by omega) hy hy2) ?_⟩
   ·rw [lw,h2]
    refine shift_step (Nat.le_of_lt hs2) ?_
    rw [lw,show (18446744073709551616:Nat)=2^s*2^(64 - s) by rw [← Nat.pow_add,show s+(64 - s)=64 by omega],Nat.mul_assoc,Nat.add_mul_mod_self_left]
   ·rcases List.mem_cons.1 hz with rfl | hz
    ·exact word_lt (Nat.le_of_lt hs2) hx2
    exact h3 z hz
   rw [List.cons_append,List.cons_append,set_mid hp,set_mid hp]
   simpa using h4
def Nm (L:List Nat) (off n c v:Nat):Prop:=Wd L∧off+n≤L.length∧n≤c∧lw (win L off n)=v∧(n=0∨18446744073709551616^(n - 1)≤v)
theorem win_len {L:List Nat} {off n:Nat} (h:off+n≤L.length):(win L off n).length=n:=by simp [win]; omega
theorem win_wd {L:List Nat} {off n:Nat} (h:Wd L):Wd (win L off n):=fun x hx=>h x (List.mem_of_mem_drop (List.mem_of_mem_take hx))
theorem win_split (L:List Nat) (off n:Nat):L=L.take off++(win L off n++L.drop (off+n)):=by
 unfold win
 conv=>lhs; rw [← List.take_append_drop off L]
 congr 1
 rw [← List.drop_drop,List.take_append_drop]
theorem win_mid (pre W post:List Nat):win (pre++(W++post)) pre.length W.length=W:=by simp [win]
theorem win_succ {L:List Nat} {off n:Nat} (h:off+n < L.length):win L off (n+1)=win L off n++[L.getD (off+n) 0]:=by
 unfold win
 rw [List.take_add_one,List.getElem?_drop,List.getElem?_eq_getElem h,List.getD_eq_getElem?_getD,List.getElem?_eq_getElem h]
 rfl
theorem cut_win {L:List Nat} {off:Nat}:∀ {n:Nat},off+n≤L.length→cutN L off n≤n∧lw (win L off (cutN L off n))=lw (win L off n)∧(cutN L off n=0∨18446744073709551616^(cutN L off n - 1)≤lw (win L off n))
 | 0,_=>⟨Nat.le_refl _,rfl,.inl rfl⟩
 | n+1,h=>by
   rw [cutN]
   by_cases h0:L.getD (off+n) 0=0
   ·rw [if_pos h0]
    obtain ⟨h1,h2,h3⟩:=cut_win (L:=L) (off:=off) (n:=n) (by omega)
    have e:lw (win L off (n+1))=lw (win L off n):=by
     rw [win_succ (by omega),lw_append,h0]
     simp [lw]
    exact ⟨by omega,by rw [h2,e],by rw [e]; exact h3⟩
   rw [if_neg h0]
   refine ⟨Nat.le_refl _,rfl,.inr ?_⟩
   rw [win_succ (by omega),lw_append,win_len (by omega),Nat.add_sub_cancel]
   have:lw [L.getD (off+n) 0]≠0:=by simp only [lw]; omega
   have h2:=Nat.mul_le_mul_left (18446744073709551616^n) (show 1≤lw [L.getD (off+n) 0] by omega)
   omega
theorem cut_nm {L:List Nat} {off n c:Nat} (b:Bool) (hw:Wd L) (h:off+n≤L.length) (hc:n≤c) (hn:n < 1125899906842624) :
 ∃ k,k≤n∧Nm L off k c (lw (win L off n))∧FSpec Tryd.prog 98 [.sl 0 off n c] [some ⟨b,L.map uu⟩] (.sl 0 off k c) [some ⟨b,L.map uu⟩]:=by
 obtain ⟨h1,h2,h3⟩:=cut_win h
 exact ⟨_,h1,⟨hw,by omega,by omega,h2,h3⟩,cut_spec off c b L n h hc (by omega)⟩
theorem right_spec {L:List Nat} {off n c v t:Nat} (h:Nm L off n c v) (hn:n < 1125899906842624) (ht:t < 64*n) :
 ∃ L' off' n' c',n' ≤ n∧L'.length=L.length∧Nm L' off' n' c' (v/2^t)∧FSpec Tryd.prog 89 [.sl 0 off n c,.c (.int .i64 (t:Nat))] [some ⟨true,L.map uu⟩] (.sl 0 off' n' c') [some ⟨true,L'.map uu⟩]:=by
 obtain ⟨hw,hl,hc,hv,_⟩:=h
 have hq:t/64 < n:=by omega
 have hs2:t%64 < 64:=Nat.mod_lt _ (by decide)
 have et:t=64*(t/64)+t%64:=by omega
 have hsplit:win L off n=win L off (t/64)++win L (off+t/64) (n - t/64):=by
  unfold win
  rw [← List.drop_drop,← List.take_add,show t/64+(n - t/64)=n by omega]
 have hdrop:lw (win L (off+t/64) (n - t/64))=v/2^(64*(t/64)):=by
  rw [← hv,hsplit,lw_append,win_len (by omega),show (18446744073709551616:Nat)=2^64 by decide,← Nat.pow_mul]
  have hlt:=lw_lt (win_wd (L:=L) (off:=off) (n:=t/64) hw)
  rw [win_len (by omega),show (18446744073709551616:Nat)=2^64 by decide,← Nat.pow_mul] at hlt
  rw [Nat.add_mul_div_left _ _ (Nat.pow_pos (by decide)),Nat.div_eq_of_lt hlt,Nat.zero_add]
 have hdiv:v/2^t=v/2^(64*(t/64))/2^(t%64):=by
  rw [Nat.div_div_eq_div_mul,← Nat.pow_add,← et]
 by_cases h0:t%64=0
 ·obtain ⟨k,h1,h2,h3⟩:=cut_nm true hw (off:=off+t/64) (n:=n - t/64) (c:=c - t/64) (by omega) (by omega) (by omega)
  refine ⟨L,off+t/64,k,c - t/64,by omega,rfl,?_,?_⟩
  ·rw [hdiv,h0,Nat.pow_zero,Nat.div_one,← hdrop]
   exact h2
  have:=ri_fnB off n c (t/64) (t%64) k _ (uu_flat L) hn hq hc hs2 h3 h0
  rwa [← et] at this
 have hsp:=win_split L (off+t/64) (n - t/64)
 have htl:(L.take (off+t/64)).length=off+t/64:=by simp; omega
 obtain ⟨W',w1,w2,w3,w4⟩:=ri_loop (off+t/64) (n - t/64) (c - t/64) (t%64) (L.drop (off+t/64+(n - t/64))) (by omega) (by omega) hs2 (win L (off+t/64) (n - t/64)) (L.take (off+t/64)) 0 (by omega) (by rw [win_len (by omega)]; omega) (win_wd hw)
 rw [← hsp] at w4
 rw [win_len (by omega)] at w1
 have hwd:Wd (L.take (off+t/64)++(W' ++ L.drop (off+t/64+(n - t/64)))):=fun x hx=>by
  rcases List.mem_append.1 hx with hx | hx
  ·exact hw x (List.mem_of_mem_take hx)
  rcases List.mem_append.1 hx with hx | hx
  ·exact w3 x hx
  exact hw x (List.mem_of_mem_drop hx)
 have hlen:(L.take (off+t/64)++(W' ++ L.drop (off+t/64+(n - t/64)))).length=L.length:=by
  simp [w1]; omega
 obtain ⟨k,h1,h2,h3⟩:=cut_nm true hwd (off:=off+t/64) (n:=n - t/64) (c:=c - t/64) (by omega) (by omega) (by omega)
 have hwin:win (L.take (off+t/64)++(W' ++ L.drop (off+t/64+(n - t/64)))) (off+t/64) (n - t/64)=W':=by
  have:=win_mid (L.take (off+t/64)) W' (L.drop (off+t/64+(n - t/64)))
  rwa [htl,w1] at this
 refine ⟨_,off+t/64,k,c - t/64,by omega,hlen,?_,?_⟩
 ·rw [hwin] at h2
  rw [hdiv,← hdrop,← w2]
  exact h2
 have:=ri_fnA off n c (t/64) (t%64) k _ _ (uu_flat _) (uu_flat L) hn hq hc hs2 h3 (by omega) w4.spec
 rwa [← et] at this
end Go.Proofs.YtmkgijiniopalaaDoor.G
end
section
namespace Go.Proofs.YtmkgijiniopalaaDoor.G
open Go.Proofs.YtmkgijiniopalaaDoor.U
theorem int_lt {x y:Nat}:V.c (.bool (decide ((x:Int) < (y:Int))))=V.c (.bool (decide (x < y))):=by
 congr 2
 exact decide_eq_decide.2 Int.ofNat_lt
theorem int_ne {x y:Nat} (h:x≠y):V.c (.bool ((x:Int) != (y:Int)))=V.c (.bool true):=by
 congr 2
 exact bne_iff_ne.2 (by omega)
theorem zero_w {y:Nat} (h:y=0):V.c (.int .u64 0)=V.c (.int .u64 (y:Int)):=by rw [h]; rfl
theorem int_eq {x:Nat}:V.c (.bool ((x:Int) != (x:Int)))=V.c (.bool false):=by
 congr 2
 simp
def bS (o1 n c1 o2 c2:Nat) (C1 C2:List V) (z:Int):St:=⟨[.sl 0 o1 n c1,.sl 1 o2 n c2,.any,.any,.any,.c (.int .i64 z)]++List.replicate 35 .any,[some ⟨true,C1⟩,some ⟨true,C2⟩]⟩
def bR (o1 n c1 o2 c2:Nat) (C1 C2:List V) (r:Bool):St:=⟨[.sl 0 o1 n c1,.sl 1 o2 n c2,.any,.any,.c (.bool r)]++List.replicate 36 .any,[some ⟨true,C1⟩,some ⟨true,C2⟩]⟩
def mS (o1 n c1 o2 m c2:Nat) (C1 C2:List V) (i bw:Nat):St:=⟨[.sl 0 o1 n c1,.sl 1 o2 m c2,.any,.any,.any,.c (.int .u64 (bw:Int)),.any,.any,.any,.c (.int .i64 (n:Nat)),.c (.int .i64 (i:Nat))]++List.replicate 26 .any,[some ⟨true,C1⟩,some ⟨true,C2⟩]⟩
theorem be_go (o1 n c1 o2 c2:Nat) (C1 C2:List V) (k x y:Nat) (f1:∀ v:V,v∈C1→v.id? = none) (f2:∀ v:V,v∈C2→v.id? = none) (hn:n < 1125899906842624) (hk:k < n) (hx:C1[o1+k]? = some (uu x)) (hy:C2[o2+k]? = some (uu y)) (h:x=y):TSpec Tryd.prog (loopOf Tryd.f90 0) (bS o1 n c1 o2 c2 C1 C2 (k:Int)) (Ex.normal) (bS o1 n c1 o2 c2 C1 C2 ((k:Int) - 1)) :=
 tspec_dim (sc:=[(4,1,.is (.c (.bool true))),(6,2,.is (.p 0 (o1+k))),(6,3,.fix (.int .u64 (x:Nat))),(6,6,.is (.p 1 (o2+k))),(6,7,.fix (.int .u64 (y:Nat))),(6,8,.is (.c (.bool false))),(5,1,.is (.c (.int .i64 ((k:Int) - 1))))]) (sb:=[]) (obs:=[Ob.prop (V.c (Value.bool (decide ((↑k:Int)≥(0:Int))))=vT),Ob.prop (V.p 0 (o1+Int.toNat (↑k:Int)*1)=V.p 0 (o1+k)),Ob.prop ((0:Int)≤(↑k:Int)∧(↑k:Int) < (↑n:Int)),Ob.prop (C1[o1+k]? = some (vU ↑x)),Ob.prop (V.p 1 (o2+Int.toNat (↑k:Int)*1)=V.p 1 (o2+k)),Ob.prop ((0:Int)≤(↑k:Int)∧(↑k:Int) < (↑n:Int)),Ob.prop (C2[o2+k]? = some (vU ↑y)),Ob.prop (V.c (Value.bool ((↑x:Int) != (↑y:Int)))=vF),Ob.prop (vI (IntKind.wrap .i64 ((↑k:Int) - (1:Int)))=vI ((↑k:Int) - (1:Int)))]) [true,true,false,false,false,true] 2 (by kernel_rfl) (hP zV (hP zV (hP zV (hP hx (hP zV (hP zV (hP hy (hP zV (hP zV hN))))))))) ⟨f1,f2,trivial⟩
theorem be_ret (o1 n c1 o2 c2:Nat) (C1 C2:List V) (k x y:Nat) (f1:∀ v:V,v∈C1→v.id? = none) (f2:∀ v:V,v∈C2→v.id? = none) (hn:n < 1125899906842624) (hk:k < n) (hx:C1[o1+k]? = some (uu x)) (hy:C2[o2+k]? = some (uu y)) (h:x≠y):TSpec Tryd.prog (loopOf Tryd.f90 0) (bS o1 n c1 o2 c2 C1 C2 (k:Int)) (Ex.ret) (bR o1 n c1 o2 c2 C1 C2 (decide (x < y))) :=
 tspec_dim (sc:=[(4,1,.is (.c (.bool true))),(6,2,.is (.p 0 (o1+k))),(6,3,.fix (.int .u64 (x:Nat))),(6,6,.is (.p 1 (o2+k))),(6,7,.fix (.int .u64 (y:Nat))),(6,8,.is (.c (.bool true))),(7,2,.is (.p 0 (o1+k))),(7,3,.fix (.int .u64 (x:Nat))),(7,6,.is (.p 1 (o2+k))),(7,7,.fix (.int .u64 (y:Nat))),(7,8,.is (.c (.bool (decide (x < y)))))]) (sb:=[]) (obs:=[Ob.prop (V.c (Value.bool (decide ((↑k:Int)≥(0:Int))))=vT),Ob.prop (V.p 0 (o1+Int.toNat (↑k:Int)*1)=V.p 0 (o1+k)),Ob.prop ((0:Int)≤(↑k:Int)∧(↑k:Int) < (↑n:Int)),Ob.prop (C1[o1+k]? = some (vU ↑x)),Ob.prop (V.p 1 (o2+Int.toNat (↑k:Int)*1)=V.p 1 (o2+k)),Ob.prop ((0:Int)≤(↑k:Int)∧(↑k:Int) < (↑n:Int)),Ob.prop (C2[o2+k]? = some (vU ↑y)),Ob.prop (V.c (Value.bool ((↑x:Int) != (↑y:Int)))=vT),Ob.prop (V.p 0 (o1+Int.toNat (↑k:Int)*1)=V.p 0 (o1+k)),Ob.prop ((0:Int)≤(↑k:Int)∧(↑k:Int) < (↑n:Int)),Ob.prop (C1[o1+k]? = some (vU ↑x)),Ob.prop (V.p 1 (o2+Int.toNat (↑k:Int)*1)=V.p 1 (o2+k)),Ob.prop ((0:Int)≤(↑k:Int)∧(↑k:Int) < (↑n:Int)),Ob.prop (C2[o2+k]? = some (vU ↑y)),Ob.prop (V.c (Value.bool (decide ((↑x:Int) < (↑y:Int))))=V.c (Value.bool (decide (x < y))))]) [true,true,false,false,true] 2 (by kernel_rfl) (hP zV (hP zV (hP zV (hP hx (hP zV (hP zV (hP hy (hP zV (hP zV (hP zV (hP hx (hP zV (hP zV (hP hy (hP int_lt hN))))))))))))))) ⟨f1,f2,trivial⟩
theorem be_end (o1 n c1 o2 c2:Nat) (C1 C2:List V) (f1:∀ v:V,v∈C1→v.id? = none) (f2:∀ v:V,v∈C2→v.id? = none):TSpec Tryd.prog (loopOf Tryd.f90 0) (bS o1 n c1 o2 c2 C1 C2 (-1)) (Ex.exit 0) (bS o1 n c1 o2 c2 C1 C2 (-1)) :=
 tspec_dim (sc:=[]) (sb:=[]) (obs:=[]) [true,true,false,false,false,true] 2 (by kernel_rfl) hN ⟨f1,f2,trivial⟩
theorem be_fnN (o1 n c1 o2 m c2:Nat) (C1 C2:List V) (f1:∀ v:V,v∈C1→v.id? = none) (f2:∀ v:V,v∈C2→v.id? = none) (h:n≠m):FSpec Tryd.prog 90 [.sl 0 o1 n c1,.sl 1 o2 m c2] [some ⟨true,C1⟩,some ⟨true,C2⟩] (V.c (Value.bool (decide (n < m)))) [some ⟨true,C1⟩,some ⟨true,C2⟩] :=
 fspec_ok Tryd.func90 (sc:=[(1,4,.is (.c (.bool true))),(2,4,.is (.c (.bool (decide (n < m)))))]) (sb:=[]) (keep:=[]) (obs:=[Ob.prop (Flat ([some ⟨true,C1⟩,some ⟨true,C2⟩]:List (Option Row))),Ob.prop (V.c (Value.bool ((↑n:Int) != (↑m:Int)))=vT),Ob.prop (V.c (Value.bool (decide ((↑n:Int) < (↑m:Int))))=V.c (Value.bool (decide (n < m))))]) (by kernel_rfl) (hP ⟨f1,f2,trivial⟩ (hP (int_ne h) (hP int_lt hN)))
theorem be_fnR (o1 n c1 o2 c2:Nat) (C1 C2:List V) (r:Bool) (f1:∀ v:V,v∈C1→v.id? = none) (f2:∀ v:V,v∈C2→v.id? = none) (hn:n < 1125899906842624) (h:TSpec Tryd.prog (.block 0 (.loop (loopOf Tryd.f90 0))) (bS o1 n c1 o2 c2 C1 C2 ((n:Int) - 1)) .ret (bR o1 n c1 o2 c2 C1 C2 r)):FSpec Tryd.prog 90 [.sl 0 o1 n c1,.sl 1 o2 n c2] [some ⟨true,C1⟩,some ⟨true,C2⟩] (V.c (Value.bool r)) [some ⟨true,C1⟩,some ⟨true,C2⟩] :=
 fspec_ok Tryd.func90 (sc:=[(1,4,.is (.c (.bool false))),(3,2,.is (.c (.int .i64 ((n:Int) - 1))))]) (sb:=[(0,.ret,bR o1 n c1 o2 c2 C1 C2 r)]) (keep:=[]) (obs:=[Ob.prop (Flat ([some ⟨true,C1⟩,some ⟨true,C2⟩]:List (Option Row))),Ob.prop (V.c (Value.bool ((↑n:Int) != (↑n:Int)))=vF),Ob.prop (vI (IntKind.wrap .i64 ((↑n:Int) - (1:Int)))=vI ((↑n:Int) - (1:Int))),Ob.prop (TSpec Tryd.prog (Code.block 0 (Code.loop (loopOf Tryd.f90 0))) ({ t:=[V.sl 0 o1 n c1,V.sl 1 o2 n c2,V.c (Value.tuple { toList:=[] }),V.c (Value.tuple { toList:=[] }),vF,vI ((↑n:Int) - (1:Int)),V.sl 0 o1 n c1,vI ↑n,V.sl 1 o2 n c2,vI ↑n,vF,V.c (Value.tuple { toList:=[] }),V.c (Value.tuple { toList:=[] }),V.c (Value.tuple { toList:=[] }),V.c (Value.tuple { toList:=[] }),V.c (Value.tuple { toList:=[] }),V.sl 0 o1 n c1,vI ↑n,vI ((↑n:Int) - (1:Int)),V.c (Value.tuple { toList:=[] }),V.c (Value.tuple { toList:=[] }),V.c (Value.tuple { toList:=[] }),V.c (Value.tuple { toList:=[] }),V.c (Value.tuple { toList:=[] }),V.c (Value.tuple { toList:=[] }),V.c (Value.tuple { toList:=[] }),V.c (Value.tuple { toList:=[] }),V.c (Value.tuple { toList:=[] }),V.c (Value.tuple { toList:=[] }),V.c (Value.tuple { toList:=[] }),V.c (Value.tuple { toList:=[] }),V.c (Value.tuple { toList:=[] }),V.c (Value.tuple { toList:=[] }),V.c (Value.tuple { toList:=[] }),V.c (Value.tuple { toList:=[] }),V.c (Value.tuple { toList:=[] }),V.c (Value.tuple { toList:=[] }),V.c (Value.tuple { toList:=[] }),V.c (Value.tuple { toList:=[] }),V.c (Value.tuple { toList:=[] }),V.c (Value.tuple { toList:=[] })],m:=[some { own:=true,cells:=C1 },some { own:=true,cells:=C2 }] }) (Ex.ret) (bR o1 n c1 o2 c2 C1 C2 r))]) (by kernel_rfl) (hP ⟨f1,f2,trivial⟩ (hP int_eq (hP zV (hP (TSpec.from [true,true,false,false,false,true] h (by kernel_rfl) (by kernel_rfl) ⟨f1,f2,trivial⟩) hN))))
theorem be_fnE (o1 n c1 o2 c2:Nat) (C1 C2:List V) (f1:∀ v:V,v∈C1→v.id? = none) (f2:∀ v:V,v∈C2→v.id? = none) (hn:n < 1125899906842624) (h:TSpec Tryd.prog (.block 0 (.loop (loopOf Tryd.f90 0))) (bS o1 n c1 o2 c2 C1 C2 ((n:Int) - 1)) .normal (bS o1 n c1 o2 c2 C1 C2 (-1))):FSpec Tryd.prog 90 [.sl 0 o1 n c1,.sl 1 o2 n c2] [some ⟨true,C1⟩,some ⟨true,C2⟩] (vF) [some ⟨true,C1⟩,some ⟨true,C2⟩] :=
 fspec_ok Tryd.func90 (sc:=[(1,4,.is (.c (.bool false))),(3,2,.is (.c (.int .i64 ((n:Int) - 1))))]) (sb:=[(0,.normal,bS o1 n c1 o2 c2 C1 C2 (-1))]) (keep:=[]) (obs:=[Ob.prop (Flat ([some ⟨true,C1⟩,some ⟨true,C2⟩]:List (Option Row))),Ob.prop (V.c (Value.bool ((↑n:Int) != (↑n:Int)))=vF),Ob.prop (vI (IntKind.wrap .i64 ((↑n:Int) - (1:Int)))=vI ((↑n:Int) - (1:Int))),Ob.prop (TSpec Tryd.prog (Code.block 0 (Code.loop (loopOf Tryd.f90 0))) ({ t:=[V.sl 0 o1 n c1,V.sl 1 o2 n c2,V.c (Value.tuple { toList:=[] }),V.c (Value.tuple { toList:=[] }),vF,vI ((↑n:Int) - (1:Int)),V.sl 0 o1 n c1,vI ↑n,V.sl 1 o2 n c2,vI ↑n,vF,V.c (Value.tuple { toList:=[] }),V.c (Value.tuple { toList:=[] }),V.c (Value.tuple { toList:=[] }),V.c (Value.tuple { toList:=[] }),V.c (Value.tuple { toList:=[] }),V.sl 0 o1 n c1,vI ↑n,vI ((↑n:Int) - (1:Int)),V.c (Value.tuple { toList:=[] }),V.c (Value.tuple { toList:=[] }),V.c (Value.tuple { toList:=[] }),V.c (Value.tuple { toList:=[] }),V.c (Value.tuple { toList:=[] }),V.c (Value.tuple { toList:=[] }),V.c (Value.tuple { toList:=[] }),V.c (Value.tuple { toList:=[] }),V.c (Value.tuple { toList:=[] }),V.c (Value.tuple { toList:=[] }),V.c (Value.tuple { toList:=[] }),V.c (Value.tuple { toList:=[] }),V.c (Value.tuple { toList:=[] }),V.c (Value.tuple { toList:=[] }),V.c (Value.tuple { toList:=[] }),V.c (Value.tuple { toList:=[] }),V.c (Value.tuple { toList:=[] }),V.c (Value.tuple { toList:=[] }),V.c (Value.tuple { toList:=[] }),V.c (Value.tuple { toList:=[] }),V.c (Value.tuple { toList:=[] }),V.c (Value.tuple { toList:=[] })],m:=[some { own:=true,cells:=C1 },some { own:=true,cells:=C2 }] }) (Ex.normal) (bS o1 n c1 o2 c2 C1 C2 (-1:Int)))]) (by kernel_rfl) (hP ⟨f1,f2,trivial⟩ (hP int_eq (hP zV (hP (TSpec.from [true,true,false,false,false,true] h (by kernel_rfl) (by kernel_rfl) ⟨f1,f2,trivial⟩) hN))))
theorem mi_y0 (o1 n c1 o2 m c2 i x y:Nat) (C1 C2:List V) (f1:∀ v:V,v∈C1→v.id? = none) (f2:∀ v:V,v∈C2→v.id? = none) (hn:n < 1125899906842624) (hi:i < n) (hx:C1[o1+i]? = some (uu x)) (hm:i < m) (hy:C2[o2+i]? = some (uu y)):TSpec Tryd.prog (loopOf Tryd.f91 0) (mS o1 n c1 o2 m c2 C1 C2 i 0) (Ex.normal) (mS o1 n c1 o2 m c2 (C1.set (o1+i) (uu ((x+18446744073709551616 - y - 0)%18446744073709551616))) C2 (i+1) (if x < y+0 then 1 else 0)) :=
 tspec_dim (sc:=[(3,0,.is (.c (.bool true))),(6,3,.is (.c (.bool true))),(7,2,.is (.p 1 (o2+i))),(7,3,.fix (.int .u64 (y:Nat))),(8,4,.is (.p 0 (o1+i))),(8,5,.fix (.int .u64 (x:Nat))),(8,10,.is (.c (.int .u64 ((x+18446744073709551616 - y - 0)%18446744073709551616:Nat)))),(8,11,.is (.c (.int .u64 ((if x < y+0 then 1 else 0:Nat):Int)))),(8,12,.is (.p 0 (o1+i))),(8,13,.fix undef),(9,0,.is (.c (.int .i64 (i+1:Nat))))]) (sb:=[]) (obs:=[Ob.prop (V.c (Value.bool (decide ((↑i:Int) < (↑n:Int))))=vT),Ob.prop (V.c (Value.bool (decide ((↑i:Int) < (↑m:Int))))=vT),Ob.prop (V.p 1 (o2+Int.toNat (↑i:Int)*1)=V.p 1 (o2+i)),Ob.prop ((0:Int)≤(↑i:Int)∧(↑i:Int) < (↑m:Int)),Ob.prop (C2[o2+i]? = some (vU ↑y)),Ob.prop (V.p 0 (o1+Int.toNat (↑i:Int)*1)=V.p 0 (o1+i)),Ob.prop ((0:Int)≤(↑i:Int)∧(↑i:Int) < (↑n:Int)),Ob.prop (C1[o1+i]? = some (vU ↑x)),Ob.prop (V.c #[Value.int IntKind.u64 (Int.ofNat ((Int.toNat (Prod.snd (IntKind.u64,(↑x:Int)))+18446744073709551616 - Int.toNat (Prod.snd (IntKind.u64,(↑y:Int))) - 0)%18446744073709551616)),Value.int IntKind.u64 (Int.ofNat (if Int.toNat (Prod.snd (IntKind.u64,(↑x:Int))) < Int.toNat (Prod.snd (IntKind.u64,(↑y:Int)))+0 then (1:Nat) else (0:Nat)))][0]=vU (↑((x+18446744073709551616 - y - 0)%18446744073709551616):Int)),Ob.prop (V.c #[Value.int IntKind.u64 (Int.ofNat ((Int.toNat (Prod.snd (IntKind.u64,(↑x:Int)))+18446744073709551616 - Int.toNat (Prod.snd (IntKind.u64,(↑y:Int))) - 0)%18446744073709551616)),Value.int IntKind.u64 (Int.ofNat (if Int.toNat (Prod.snd (IntKind.u64,(↑x:Int))) < Int.toNat (Prod.snd (IntKind.u64,(↑y:Int)))+0 then (1:Nat) else (0:Nat)))][1]=vU (↑(if x < y+0 then (1:Nat) else (0:Nat)):Int)),Ob.prop (V.p 0 (o1+Int.toNat (↑i:Int)*1)=V.p 0 (o1+i)),Ob.prop ((0:Int)≤(↑i:Int)∧(↑i:Int) < (↑n:Int)),Ob.prop (o1+i+List.length [vU (↑((x+18446744073709551616 - y - 0)%18446744073709551616):Int)]≤List.length C1),Ob.prop (vI (IntKind.wrap .i64 ((↑i:Int)+(1:Int)))=vI (↑(i+1):Int))]) ([true,true,false,false,false,true,false,false,false,true,true]) 2 (by kernel_rfl) (hP zV (hP zV (hP zV (hP zV (hP hy (hP zV (hP zV (hP hx (hP rfl (hP rfl (hP zV (hP zV (hP (len_of hx) (hP zV hN)))))))))))))) ⟨flat_set rfl f1,f2,trivial⟩
theorem mi_y1 (o1 n c1 o2 m c2 i x y:Nat) (C1 C2:List V) (f1:∀ v:V,v∈C1→v.id? = none) (f2:∀ v:V,v∈C2→v.id? = none) (hn:n < 1125899906842624) (hi:i < n) (hx:C1[o1+i]? = some (uu x)) (hm:i < m) (hy:C2[o2+i]? = some (uu y)):TSpec Tryd.prog (loopOf Tryd.f91 0) (mS o1 n c1 o2 m c2 C1 C2 i 1) (Ex.normal) (mS o1 n c1 o2 m c2 (C1.set (o1+i) (uu ((x+18446744073709551616 - y - 1)%18446744073709551616))) C2 (i+1) (if x < y+1 then 1 else 0)) :=
 tspec_dim (sc:=[(3,0,.is (.c (.bool true))),(6,3,.is (.c (.bool true))),(7,2,.is (.p 1 (o2+i))),(7,3,.fix (.int .u64 (y:Nat))),(8,4,.is (.p 0 (o1+i))),(8,5,.fix (.int .u64 (x:Nat))),(8,10,.is (.c (.int .u64 ((x+18446744073709551616 - y - 1)%18446744073709551616:Nat)))),(8,11,.is (.c (.int .u64 ((if x < y+1 then 1 else 0:Nat):Int)))),(8,12,.is (.p 0 (o1+i))),(8,13,.fix undef),(9,0,.is (.c (.int .i64 (i+1:Nat))))]) (sb:=[]) (obs:=[Ob.prop (V.c (Value.bool (decide ((↑i:Int) < (↑n:Int))))=vT),Ob.prop (V.c (Value.bool (decide ((↑i:Int) < (↑m:Int))))=vT),Ob.prop (V.p 1 (o2+Int.toNat (↑i:Int)*1)=V.p 1 (o2+i)),Ob.prop ((0:Int)≤(↑i:Int)∧(↑i:Int) < (↑m:Int)),Ob.prop (C2[o2+i]? = some (vU ↑y)),Ob.prop (V.p 0 (o1+Int.toNat (↑i:Int)*1)=V.p 0 (o1+i)),Ob.prop ((0:Int)≤(↑i:Int)∧(↑i:Int) < (↑n:Int)),Ob.prop (C1[o1+i]? = some (vU ↑x)),Ob.prop (V.c #[Value.int IntKind.u64 (Int.ofNat ((Int.toNat (Prod.snd (IntKind.u64,(↑x:Int)))+18446744073709551616 - Int.toNat (Prod.snd (IntKind.u64,(↑y:Int))) - 1)%18446744073709551616)),Value.int IntKind.u64 (Int.ofNat (if Int.toNat (Prod.snd (IntKind.u64,(↑x:Int))) < Int.toNat (Prod.snd (IntKind.u64,(↑y:Int)))+1 then (1:Nat) else (0:Nat)))][0]=vU (↑((x+18446744073709551616 - y - 1)%18446744073709551616):Int)),Ob.prop (V.c #[Value.int IntKind.u64 (Int.ofNat ((Int.toNat (Prod.snd (IntKind.u64,(↑x:Int)))+18446744073709551616 - Int.toNat (Prod.snd (IntKind.u64,(↑y:Int))) - 1)%18446744073709551616)),Value.int IntKind.u64 (Int.ofNat (if Int.toNat (Prod.snd (IntKind.u64,(↑x:Int))) < Int.toNat (Prod.snd (IntKind.u64,(↑y:Int)))+1 then (1:Nat) else (0:Nat)))][1]=vU (↑(if x < y+1 then (1:Nat) else (0:Nat)):Int)),Ob.prop (V.p 0 (o1+Int.toNat (↑i:Int)*1)=V.p 0 (o1+i)),Ob.prop ((0:Int)≤(↑i:Int)∧(↑i:Int) < (↑n:Int)),Ob.prop (o1+i+List.length [vU (↑((x+18446744073709551616 - y - 1)%18446744073709551616):Int)]≤List.length C1),Ob.prop (vI (IntKind.wrap .i64 ((↑i:Int)+(1:Int)))=vI (↑(i+1):Int))]) ([true,true,false,false,false,true,false,false,false,true,true]) 2 (by kernel_rfl) (hP zV (hP zV (hP zV (hP zV (hP hy (hP zV (hP zV (hP hx (hP rfl (hP rfl (hP zV (hP zV (hP (len_of hx) (hP zV hN)))))))))))))) ⟨flat_set rfl f1,f2,trivial⟩
theorem mi_n0 (o1 n c1 o2 m c2 i x y:Nat) (C1 C2:List V) (f1:∀ v:V,v∈C1→v.id? = none) (f2:∀ v:V,v∈C2→v.id? = none) (hn:n < 1125899906842624) (hi:i < n) (hx:C1[o1+i]? = some (uu x)) (hm:¬ i < m) (hy:y=0):TSpec Tryd.prog (loopOf Tryd.f91 0) (mS o1 n c1 o2 m c2 C1 C2 i 0) (Ex.normal) (mS o1 n c1 o2 m c2 (C1.set (o1+i) (uu ((x+18446744073709551616 - y - 0)%18446744073709551616))) C2 (i+1) (if x < y+0 then 1 else 0)) :=
 tspec_dim (sc:=[(3,0,.is (.c (.bool true))),(5,0,.is (.c (.int .u64 (y:Nat)))),(6,3,.is (.c (.bool false))),(8,4,.is (.p 0 (o1+i))),(8,5,.fix (.int .u64 (x:Nat))),(8,10,.is (.c (.int .u64 ((x+18446744073709551616 - y - 0)%18446744073709551616:Nat)))),(8,11,.is (.c (.int .u64 ((if x < y+0 then 1 else 0:Nat):Int)))),(8,12,.is (.p 0 (o1+i))),(8,13,.fix undef),(9,0,.is (.c (.int .i64 (i+1:Nat))))]) (sb:=[]) (obs:=[Ob.prop (V.c (Value.bool (decide ((↑i:Int) < (↑n:Int))))=vT),Ob.prop (St.at (stepSt (stepSt (stepSt (mS o1 n c1 o2 m c2 C1 C2 i 0) (Oper.dst { dst:=some 11,op:=Op.binOp BinOp.lss 3 (Operand.tmp 10) (Operand.tmp 9) 3,type:=0,pos := "gcd.go:61",after:=#[],guard:=none }) (Eff.val (vT))) (Oper.dst { dst:=some 12,op:=Op.move (Operand.tmp 10),type:=3,pos := "gcd.go:61",after:=#[],guard:=none }) (Eff.val (St.at (stepSt (mS o1 n c1 o2 m c2 C1 C2 i 0) (Oper.dst { dst:=some 11,op:=Op.binOp BinOp.lss 3 (Operand.tmp 10) (Operand.tmp 9) 3,type:=0,pos := "gcd.go:61",after:=#[],guard:=none }) (Eff.val (vT))) (Operand.tmp 10)))) (Oper.dst { dst:=some 6,op:=Op.assign (Operand.tmp 12),type:=3,pos := "gcd.go:61",after:=#[{ on:=0,ground:=Ground.data },{ on:=0,ground:=Ground.phase }],guard:=none }) (Eff.val (St.at (stepSt (stepSt (mS o1 n c1 o2 m c2 C1 C2 i 0) (Oper.dst { dst:=some 11,op:=Op.binOp BinOp.lss 3 (Operand.tmp 10) (Operand.tmp 9) 3,type:=0,pos := "gcd.go:61",after:=#[],guard:=none }) (Eff.val (vT))) (Oper.dst { dst:=some 12,op:=Op.move (Operand.tmp 10),type:=3,pos := "gcd.go:61",after:=#[],guard:=none }) (Eff.val (St.at (stepSt (mS o1 n c1 o2 m c2 C1 C2 i 0) (Oper.dst { dst:=some 11,op:=Op.binOp BinOp.lss 3 (Operand.tmp 10) (Operand.tmp 9) 3,type:=0,pos := "gcd.go:61",after:=#[],guard:=none }) (Eff.val (vT))) (Operand.tmp 10)))) (Operand.tmp 12)))) (Operand.const (Value.int IntKind.u64 (0:Int)))=vU ↑y),Ob.prop (V.c (Value.bool (decide ((↑i:Int) < (↑m:Int))))=vF),Ob.prop (V.p 0 (o1+Int.toNat (↑i:Int)*1)=V.p 0 (o1+i)),Ob.prop ((0:Int)≤(↑i:Int)∧(↑i:Int) < (↑n:Int)),Ob.prop (C1[o1+i]? = some (vU ↑x)),Ob.prop (V.c #[Value.int IntKind.u64 (Int.ofNat ((Int.toNat (Prod.snd (IntKind.u64,(↑x:Int)))+18446744073709551616 - Int.toNat (Prod.snd (IntKind.u64,(↑y:Int))) - 0)%18446744073709551616)),Value.int IntKind.u64 (Int.ofNat (if Int.toNat (Prod.snd (IntKind.u64,(↑x:Int))) < Int.toNat (Prod.snd (IntKind.u64,(↑y:Int)))+0 then (1:Nat) else (0:Nat)))][0]=vU (↑((x+18446744073709551616 - y - 0)%18446744073709551616):Int)),Ob.prop (V.c #[Value.int IntKind.u64 (Int.ofNat ((Int.toNat (Prod.snd (IntKind.u64,(↑x:Int)))+18446744073709551616 - Int.toNat (Prod.snd (IntKind.u64,(↑y:Int))) - 0)%18446744073709551616)),Value.int IntKind.u64 (Int.ofNat (if Int.toNat (Prod.snd (IntKind.u64,(↑x:Int))) < Int.toNat (Prod.snd (IntKind.u64,(↑y:Int)))+0 then (1:Nat) else (0:Nat)))][1]=vU (↑(if x < y+0 then (1:Nat) else (0:Nat)):Int)),Ob.prop (V.p 0 (o1+Int.toNat (↑i:Int)*1)=V.p 0 (o1+i)),Ob.prop ((0:Int)≤(↑i:Int)∧(↑i:Int) < (↑n:Int)),Ob.prop (o1+i+List.length [vU (↑((x+18446744073709551616 - y - 0)%18446744073709551616):Int)]≤List.length C1),Ob.prop (vI (IntKind.wrap .i64 ((↑i:Int)+(1:Int)))=vI (↑(i+1):Int))]) ([true,true,false,false,false,true,false,false,false,true,true]) 2 (by kernel_rfl) (hP zV (hP (zero_w hy) (hP zV (hP zV (hP zV (hP hx (hP rfl (hP rfl (hP zV (hP zV (hP (len_of hx) (hP zV hN)))))))))))) ⟨flat_set rfl f1,f2,trivial⟩
theorem mi_n1 (o1 n c1 o2 m c2 i x y:Nat) (C1 C2:List V) (f1:∀ v:V,v∈C1→v.id? = none) (f2:∀ v:V,v∈C2→v.id? = none) (hn:n < 1125899906842624) (hi:i < n) (hx:C1[o1+i]? = some (uu x)) (hm:¬ i < m) (hy:y=0):TSpec Tryd.prog (loopOf Tryd.f91 0) (mS o1 n c1 o2 m c2 C1 C2 i 1) (Ex.normal) (mS o1 n c1 o2 m c2 (C1.set (o1+i) (uu ((x+18446744073709551616 - y - 1)%18446744073709551616))) C2 (i+1) (if x < y+1 then 1 else 0)) :=
 tspec_dim (sc:=[(3,0,.is (.c (.bool true))),(5,0,.is (.c (.int .u64 (y:Nat)))),(6,3,.is (.c (.bool false))),(8,4,.is (.p 0 (o1+i))),(8,5,.fix (.int .u64 (x:Nat))),(8,10,.is (.c (.int .u64 ((x+18446744073709551616 - y - 1)%18446744073709551616:Nat)))),(8,11,.is (.c (.int .u64 ((if x < y+1 then 1 else 0:Nat):Int)))),(8,12,.is (.p 0 (o1+i))),(8,13,.fix undef),(9,0,.is (.c (.int .i64 (i+1:Nat))))]) (sb:=[]) (obs:=[Ob.prop (V.c (Value.bool (decide ((↑i:Int) < (↑n:Int))))=vT),Ob.prop (St.at (stepSt (stepSt (stepSt (mS o1 n c1 o2 m c2 C1 C2 i 1) (Oper.dst { dst:=some 11,op:=Op.binOp BinOp.lss 3 (Operand.tmp 10) (Operand.tmp 9) 3,type:=0,pos := "gcd.go:61",after:=#[],guard:=none }) (Eff.val (vT))) (Oper.dst { dst:=some 12,op:=Op.move (Operand.tmp 10),type:=3,pos := "gcd.go:61",after:=#[],guard:=none }) (Eff.val (St.at (stepSt (mS o1 n c1 o2 m c2 C1 C2 i 1) (Oper.dst { dst:=some 11,op:=Op.binOp BinOp.lss 3 (Operand.tmp 10) (Operand.tmp 9) 3,type:=0,pos := "gcd.go:61",after:=#[],guard:=none }) (Eff.val (vT))) (Operand.tmp 10)))) (Oper.dst { dst:=some 6,op:=Op.assign (Operand.tmp 12),type:=3,pos := "gcd.go:61",after:=#[{ on:=0,ground:=Ground.data },{ on:=0,ground:=Ground.phase }],guard:=none }) (Eff.val (St.at (stepSt (stepSt (mS o1 n c1 o2 m c2 C1 C2 i 1) (Oper.dst { dst:=some 11,op:=Op.binOp BinOp.lss 3 (Operand.tmp 10) (Operand.tmp 9) 3,type:=0,pos := "gcd.go:61",after:=#[],guard:=none }) (Eff.val (vT))) (Oper.dst { dst:=some 12,op:=Op.move (Operand.tmp 10),type:=3,pos := "gcd.go:61",after:=#[],guard:=none }) (Eff.val (St.at (stepSt (mS o1 n c1 o2 m c2 C1 C2 i 1) (Oper.dst { dst:=some 11,op:=Op.binOp BinOp.lss 3 (Operand.tmp 10) (Operand.tmp 9) 3,type:=0,pos := "gcd.go:61",after:=#[],guard:=none }) (Eff.val (vT))) (Operand.tmp 10)))) (Operand.tmp 12)))) (Operand.const (Value.int IntKind.u64 (0:Int)))=vU ↑y),Ob.prop (V.c (Value.bool (decide ((↑i:Int) < (↑m:Int))))=vF),Ob.prop (V.p 0 (o1+Int.toNat (↑i:Int)*1)=V.p 0 (o1+i)),Ob.prop ((0:Int)≤(↑i:Int)∧(↑i:Int) < (↑n:Int)),Ob.prop (C1[o1+i]? = some (vU ↑x)),Ob.prop (V.c #[Value.int IntKind.u64 (Int.ofNat ((Int.toNat (Prod.snd (IntKind.u64,(↑x:Int)))+18446744073709551616 - Int.toNat (Prod.snd (IntKind.u64,(↑y:Int))) - 1)%18446744073709551616)),Value.int IntKind.u64 (Int.ofNat (if Int.toNat (Prod.snd (IntKind.u64,(↑x:Int))) < Int.toNat (Prod.snd (IntKind.u64,(↑y:Int)))+1 then (1:Nat) else (0:Nat)))][0]=vU (↑((x+18446744073709551616 - y - 1)%18446744073709551616):Int)),Ob.prop (V.c #[Value.int IntKind.u64 (Int.ofNat ((Int.toNat (Prod.snd (IntKind.u64,(↑x:Int)))+18446744073709551616 - Int.toNat (Prod.snd (IntKind.u64,(↑y:Int))) - 1)%18446744073709551616)),Value.int IntKind.u64 (Int.ofNat (if Int.toNat (Prod.snd (IntKind.u64,(↑x:Int))) < Int.toNat (Prod.snd (IntKind.u64,(↑y:Int)))+1 then (1:Nat) else (0:Nat)))][1]=vU (↑(if x < y+1 then (1:Nat) else (0:Nat)):Int)),Ob.prop (V.p 0 (o1+Int.toNat (↑i:Int)*1)=V.p 0 (o1+i)),Ob.prop ((0:Int)≤(↑i:Int)∧(↑i:Int) < (↑n:Int)),Ob.prop (o1+i+List.length [vU (↑((x+18446744073709551616 - y - 1)%18446744073709551616):Int)]≤List.length C1),Ob.prop (vI (IntKind.wrap .i64 ((↑i:Int)+(1:Int)))=vI (↑(i+1):Int))]) ([true,true,false,false,false,true,false,false,false,true,true]) 2 (by kernel_rfl) (hP zV (hP (zero_w hy) (hP zV (hP zV (hP zV (hP hx (hP rfl (hP rfl (hP zV (hP zV (hP (len_of hx) (hP zV hN)))))))))))) ⟨flat_set rfl f1,f2,trivial⟩
theorem mi_end (o1 n c1 o2 m c2 bw:Nat) (C1 C2:List V) (f1:∀ v:V,v∈C1→v.id? = none) (f2:∀ v:V,v∈C2→v.id? = none):TSpec Tryd.prog (loopOf Tryd.f91 0) (mS o1 n c1 o2 m c2 C1 C2 n bw) (Ex.exit 0) (mS o1 n c1 o2 m c2 C1 C2 n bw) :=
 tspec_dim (sc:=[(3,0,.is (.c (.bool false)))]) (sb:=[]) (obs:=[Ob.prop (V.c (Value.bool (decide ((↑n:Int) < (↑n:Int))))=vF)]) ([true,true,false,false,false,true,false,false,false,true,true]) 2 (by kernel_rfl) (hP zV hN) ⟨f1,f2,trivial⟩
theorem mi_fn (o1 n c1 o2 m c2 k bw:Nat) (C1 C2 C':List V) (f1:∀ v:V,v∈C1→v.id? = none) (f2:∀ v:V,v∈C2→v.id? = none) (f3:∀ v:V,v∈C' → v.id? = none) (hcut:FSpec Tryd.prog 98 [.sl 0 o1 n c1] [some ⟨true,C'⟩,some ⟨true,C2⟩] (.sl 0 o1 k c1) [some ⟨true,C'⟩,some ⟨true,C2⟩]) (h:TSpec Tryd.prog (.block 0 (.loop (loopOf Tryd.f91 0))) (mS o1 n c1 o2 m c2 C1 C2 0 0) .normal (mS o1 n c1 o2 m c2 C' C2 n bw)):FSpec Tryd.prog 91 [.sl 0 o1 n c1,.sl 1 o2 m c2] [some ⟨true,C1⟩,some ⟨true,C2⟩] (V.sl 0 o1 k c1) [some ⟨true,C'⟩,some ⟨true,C2⟩] :=
 fspec_ok Tryd.func91 (sc:=[(10,1,.call (.sl 0 o1 k c1) [some ⟨true,C'⟩,some ⟨true,C2⟩])]) (sb:=[(0,.normal,mS o1 n c1 o2 m c2 C' C2 n bw)]) (keep:=[]) (obs:=[Ob.prop (Flat ([some ⟨true,C'⟩,some ⟨true,C2⟩]:List (Option Row))),Ob.prop (TSpec Tryd.prog (Code.block 0 (Code.loop (loopOf Tryd.f91 0))) ({ t:=[V.sl 0 o1 n c1,V.sl 1 o2 m c2,V.c (Value.tuple { toList:=[] }),V.c (Value.tuple { toList:=[] }),V.c (Value.slice none 0 0),vU (0:Int),V.c (Value.tuple { toList:=[] }),V.c (Value.tuple { toList:=[] }),V.sl 0 o1 n c1,vI ↑n,vI (0:Int),V.c (Value.tuple { toList:=[] }),V.c (Value.tuple { toList:=[] }),V.c (Value.tuple { toList:=[] }),V.c (Value.tuple { toList:=[] }),V.c (Value.tuple { toList:=[] }),V.c (Value.tuple { toList:=[] }),V.c (Value.tuple { toList:=[] }),V.c (Value.tuple { toList:=[] }),V.c (Value.tuple { toList:=[] }),V.c (Value.tuple { toList:=[] }),V.c (Value.tuple { toList:=[] }),V.c (Value.tuple { toList:=[] }),V.c (Value.tuple { toList:=[] }),V.c (Value.tuple { toList:=[] }),V.c (Value.tuple { toList:=[] }),V.c (Value.tuple { toList:=[] }),V.c (Value.tuple { toList:=[] }),V.c (Value.tuple { toList:=[] }),V.c (Value.tuple { toList:=[] }),V.c (Value.tuple { toList:=[] }),V.c (Value.tuple { toList:=[] }),V.c (Value.tuple { toList:=[] }),V.c (Value.tuple { toList:=[] }),V.c (Value.tuple { toList:=[] }),V.c (Value.tuple { toList:=[] }),V.c (Value.tuple { toList:=[] })],m:=[some { own:=true,cells:=C1 },some { own:=true,cells:=C2 }] }) (Ex.normal) (mS o1 n c1 o2 m c2 C' C2 n bw)),Ob.fcall 98 [V.sl 0 o1 n c1] [some { own:=true,cells:=C' },some { own:=true,cells:=C2 }] (V.sl 0 o1 k c1) [some { own:=true,cells:=C' },some { own:=true,cells:=C2 }] ]) (by kernel_rfl) (hP ⟨f3,f2,trivial⟩ (hP (TSpec.from ([true,true,false,false,false,true,false,false,false,true,true]) h (by kernel_rfl) (by kernel_rfl) ⟨f1,f2,trivial⟩) (hF hcut hN)))
theorem win_cons {L:List Nat} {off n:Nat} (h:0 < n) (hl:off < L.length):win L off n=L.getD off 0::win L (off+1) (n - 1):=by
 obtain ⟨m,rfl⟩:∃ m,n=m+1:=⟨n - 1,by omega⟩
 unfold win
 rw [List.drop_eq_getElem_cons hl,List.take_succ_cons,List.getD_eq_getElem?_getD,List.getElem?_eq_getElem hl]
 rfl
theorem getD_lt {L:List Nat} {k:Nat} (h:Wd L) (hk:k < L.length):L.getD k 0 < 18446744073709551616:=by
 rw [List.getD_eq_getElem?_getD,List.getElem?_eq_getElem hk]
 exact h _ (List.getElem_mem hk)
theorem top_lt {a b x y P:Nat} (ha:a < P) (h:x < y):a+P*x < b+P*y:=by
 have:=Nat.mul_le_mul_left P (show x+1≤y from h)
 rw [Nat.mul_add] at this
 omega
theorem be_loop (o1 n c1 o2 c2:Nat) (L1 L2:List Nat) (w1:Wd L1) (w2:Wd L2) (h1:o1+n≤L1.length) (h2:o2+n≤L2.length) (hn:n < 1125899906842624):∀ k,k≤n →
 Rounds Tryd.prog (loopOf Tryd.f90 0) 0 (bS o1 n c1 o2 c2 (L1.map uu) (L2.map uu) ((k:Int) - 1)) .ret (bR o1 n c1 o2 c2 (L1.map uu) (L2.map uu) (decide (lw (win L1 o1 k) < lw (win L2 o2 k)))) ∨
 (lw (win L1 o1 k)=lw (win L2 o2 k)∧Rounds Tryd.prog (loopOf Tryd.f90 0) 0 (bS o1 n c1 o2 c2 (L1.map uu) (L2.map uu) ((k:Int) - 1)) .normal (bS o1 n c1 o2 c2 (L1.map uu) (L2.map uu) (-1)))
 | 0,_=>.inr ⟨rfl,.stop (be_end o1 n c1 o2 c2 _ _ (uu_flat _) (uu_flat _))⟩
 | k+1,hk=>by
   have hx:=uget (X:=L1) (i:=o1+k) (by omega)
   have hy:=uget (X:=L2) (i:=o2+k) (by omega)
   have e:((k+1:Nat):Int) - 1=(k:Int):=by omega
   rw [e,win_succ (by omega),win_succ (by omega),lw_append,lw_append,win_len (by omega),win_len (by omega)]
   have q1:=lw_lt (win_wd (L:=L1) (off:=o1) (n:=k) w1)
   have q2:=lw_lt (win_wd (L:=L2) (off:=o2) (n:=k) w2)
   rw [win_len (by omega)] at q1 q2
   have s1:∀ x,lw [x]=x:=fun x=>by simp [lw]
   rw [s1,s1]
   by_cases h:L1.getD (o1+k) 0=L2.getD (o2+k) 0
   ·have hr:=be_go o1 n c1 o2 c2 _ _ k _ _ (uu_flat L1) (uu_flat L2) hn (by omega) hx hy h
    rw [h]
    rcases be_loop o1 n c1 o2 c2 L1 L2 w1 w2 h1 h2 hn k (by omega) with ih | ⟨ih1,ih2⟩
    ·refine .inl ?_
     have ed:(decide (lw (win L1 o1 k)+18446744073709551616^k*L2.getD (o2+k) 0 < lw (win L2 o2 k)+18446744073709551616^k*L2.getD (o2+k) 0))=decide (lw (win L1 o1 k) < lw (win L2 o2 k)):=decide_eq_decide.2 (by omega)
     rw [ed]
     exact .step hr ih
    exact .inr ⟨by rw [ih1],.step hr ih2⟩
   refine .inl (.ret ?_)
   have hr:=be_ret o1 n c1 o2 c2 _ _ k _ _ (uu_flat L1) (uu_flat L2) hn (by omega) hx hy h
   have ed:(decide (lw (win L1 o1 k)+18446744073709551616^k*L1.getD (o1+k) 0 < lw (win L2 o2 k)+18446744073709551616^k*L2.getD (o2+k) 0))=decide (L1.getD (o1+k) 0 < L2.getD (o2+k) 0):=by
    refine decide_eq_decide.2 ⟨fun hh=>?_,fun hh=>top_lt q1 hh⟩
    rcases Nat.lt_or_gt_of_ne h with h' | h'
    ·exact h'
    have:=top_lt (a:=lw (win L2 o2 k)) (b:=lw (win L1 o1 k)) q2 h'
    omega
   rw [ed]
   exact hr
theorem nm_lt {L:List Nat} {off n c v:Nat} (h:Nm L off n c v):v < 18446744073709551616^n:=by
 obtain ⟨hw,hl,_,hv,_⟩:=h
 have:=lw_lt (win_wd (L:=L) (off:=off) (n:=n) hw)
 rwa [win_len hl,hv] at this
theorem nm_len_lt {L L':List Nat} {off n c v off' n' c' v':Nat} (h:Nm L off n c v) (h':Nm L' off' n' c' v') (hn:n < n'):v < v':=by
 have h1:=nm_lt h
 rcases h'.2.2.2.2 with h2 | h2
 ·omega
 have:=Nat.pow_le_pow_right (n:=18446744073709551616) (by decide) (show n≤n' - 1 by omega)
 omega
theorem below_spec {L1 L2:List Nat} {o1 n c1 v o2 m c2 u:Nat} (h1:Nm L1 o1 n c1 v) (h2:Nm L2 o2 m c2 u) (hn:n < 1125899906842624) :
 FSpec Tryd.prog 90 [.sl 0 o1 n c1,.sl 1 o2 m c2] [some ⟨true,L1.map uu⟩,some ⟨true,L2.map uu⟩] (.c (.bool (decide (v < u)))) [some ⟨true,L1.map uu⟩,some ⟨true,L2.map uu⟩]:=by
 by_cases h:n=m
 ·subst h
  have hv:=h1.2.2.2.1
  have hu:=h2.2.2.2.1
  rcases be_loop o1 n c1 o2 c2 L1 L2 h1.1 h2.1 h1.2.1 h2.2.1 hn n (Nat.le_refl _) with hl | ⟨he,hl⟩
  ·rw [hv,hu] at hl
   exact be_fnR o1 n c1 o2 c2 _ _ _ (uu_flat L1) (uu_flat L2) hn hl.spec
  have:decide (v < u)=false:=by rw [← hv,← hu,he]; simp
  rw [this]
  exact be_fnE o1 n c1 o2 c2 _ _ (uu_flat L1) (uu_flat L2) hn hl.spec
 have e:decide (v < u)=decide (n < m):=by
  refine decide_eq_decide.2 ⟨fun hh=>?_,fun hh=>nm_len_lt h1 h2 hh⟩
  rcases Nat.lt_or_gt_of_ne h with h' | h'
  ·exact h'
  have:=nm_len_lt h2 h1 h'
  omega
 rw [e]
 exact be_fnN o1 n c1 o2 m c2 _ _ (uu_flat L1) (uu_flat L2) h
theorem sub_word {x y b:Nat} (hx:x < 18446744073709551616) (hy:y < 18446744073709551616) (hb:b≤1):(x+18446744073709551616 - y - b)%18446744073709551616+y+b=x+18446744073709551616*(if x < y+b then 1 else 0):=by
 split<;>omega
theorem mi_loop (o1 n c1 o2 m c2:Nat) (L2 post:List Nat) (w2:Wd L2) (hl2:o2+m≤L2.length) (hmn:m≤n) (hn:n < 1125899906842624):∀ (W pre:List Nat) (i bw:Nat),pre.length=o1+i→i+W.length=n→Wd W→bw≤1 →
 ∃ W' bo,W'.length=W.length∧Wd W' ∧ lw W' + lw (win L2 (o2+i) (m - i))+bw=lw W+18446744073709551616^W.length*bo ∧
   Rounds Tryd.prog (loopOf Tryd.f91 0) 0 (mS o1 n c1 o2 m c2 ((pre++(W++post)).map uu) (L2.map uu) i bw) .normal (mS o1 n c1 o2 m c2 ((pre++(W' ++ post)).map uu) (L2.map uu) n bo)
 | [],pre,i,bw,hp,hl,hw,hb=>by
   have hi:i=n:=by simpa using hl
   subst hi
   refine ⟨[],bw,rfl,hw,?_,.stop (mi_end o1 i c1 o2 m c2 bw _ _ (uu_flat _) (uu_flat _))⟩
   rw [show m - i=0 by omega]
   simp [win,lw]
 | x::r,pre,i,bw,hp,hl,hw,hb=>by
   have hlen:i+(r.length+1)=n:=by simpa using hl
   have hx:=at_mid (post:=r++post) (x:=x) hp
   have hx2:=hw x (by simp)
   obtain ⟨y, hy2, hyw, hstep⟩ : ∃ y, y < 18446744073709551616 ∧ lw (win L2 (o2 + i) (m - i)) = y + 18446744073709551616 * lw (win L2 (o2 + (i + 1)) (m - (i + 1))) ∧
    TSpec Tryd.prog (loopOf Tryd.f91 0) (mS o1 n c1 o2 m c2 ((pre++x::(r++post)).map uu) (L2.map uu) i bw) .normal (mS o1 n c1 o2 m c2 (((pre++x::(r++post)).map uu).set (o1+i) (uu ((x+18446744073709551616 - y - bw)%18446744073709551616))) (L2.map uu) (i+1) (if x < y+bw then 1 else 0)):=by
    have hbw:bw=0∨bw=1:=by omega
    by_cases him:i < m
    ·refine ⟨L2.getD (o2+i) 0,getD_lt w2 (by omega),?_,?_⟩
     ·rw [win_cons (by omega) (by omega),lw]
      rfl
     have hy:=uget (X:=L2) (i:=o2+i) (by omega)
     rcases hbw with rfl | rfl
     ·exact mi_y0 o1 n c1 o2 m c2 i x _ _ _ (uu_flat _) (uu_flat _) hn (by omega) hx him hy
     exact mi_y1 o1 n c1 o2 m c2 i x _ _ _ (uu_flat _) (uu_flat _) hn (by omega) hx him hy
    refine ⟨0,by omega,?_,?_⟩
    ·rw [show m - i=0 by omega,show m - (i+1)=0 by omega]
     simp [win,lw]
    rcases hbw with rfl | rfl
    ·exact mi_n0 o1 n c1 o2 m c2 i x _ _ _ (uu_flat _) (uu_flat _) hn (by omega) hx him rfl
    exact mi_n1 o1 n c1 o2 m c2 i x _ _ _ (uu_flat _) (uu_flat _) hn (by omega) hx him rfl
   have hD:=sub_word hx2 hy2 hb
   generalize hb':(if x < y+bw then 1 else 0)=b' at hD hstep
   have hb1:b' ≤ 1:=by rw [← hb']; split<;>omega
   generalize hd:(x+18446744073709551616 - y - bw)%18446744073709551616=D at hD hstep
   have hD2:D < 18446744073709551616:=by rw [← hd]; exact Nat.mod_lt _ (by decide)
   rw [set_mid hp] at hstep
   obtain ⟨W',bo,h1,h2,h3,h4⟩:=mi_loop o1 n c1 o2 m c2 L2 post w2 hl2 hmn hn r (pre++[D]) (i+1) b' (by simp; omega) (by omega) (fun z hz=>hw z (List.mem_cons_of_mem _ hz)) hb1
   refine ⟨D::W',bo,by simp [h1],fun z hz=>?_,?_,.step hstep (by simpa using h4)⟩
   ·rcases List.mem_cons.1 hz with rfl | hz
    ·exact hD2
    exact h2 z hz
   rw [hyw,lw,lw,List.length_cons,Nat.pow_succ,Nat.mul_comm (18446744073709551616^r.length),Nat.mul_assoc]
   generalize 18446744073709551616^r.length*bo=P at h3 ⊢
   omega
theorem minus_spec {L1 L2:List Nat} {o1 n c1 v o2 m c2 u:Nat} (h1:Nm L1 o1 n c1 v) (h2:Nm L2 o2 m c2 u) (hn:n < 1125899906842624) (huv:u≤v) :
 ∃ L' k,k≤n∧L'.length=L1.length∧Nm L' o1 k c1 (v - u)∧FSpec Tryd.prog 91 [.sl 0 o1 n c1,.sl 1 o2 m c2] [some ⟨true,L1.map uu⟩,some ⟨true,L2.map uu⟩] (.sl 0 o1 k c1) [some ⟨true,L'.map uu⟩,some ⟨true,L2.map uu⟩]:=by
 have hmn:m≤n:=by
  rcases Nat.lt_or_ge n m with h | h
  ·have:=nm_len_lt h1 h2 h
   omega
  exact h
 have hw:=h1.1
 have hl:=h1.2.1
 have hv:=h1.2.2.2.1
 have hu:=h2.2.2.2.1
 have hsp:=win_split L1 o1 n
 have htl:(L1.take o1).length=o1:=by simp; omega
 obtain ⟨W',bo,w1,w2,w3,w4⟩:=mi_loop o1 n c1 o2 m c2 L2 (L1.drop (o1+n)) h2.1 h2.2.1 hmn hn (win L1 o1 n) (L1.take o1) 0 0 (by omega) (by rw [win_len hl]; omega) (win_wd hw) (by omega)
 rw [← hsp] at w4
 rw [win_len hl] at w1 w3
 simp only [Nat.add_zero,Nat.sub_zero] at w3
 rw [hu,hv] at w3
 have hlt:=lw_lt w2
 rw [w1] at hlt
 have hbo:bo=0:=by
  rcases Nat.eq_zero_or_pos bo with h | h
  ·exact h
  have:=Nat.mul_le_mul_left (18446744073709551616^n) h
  omega
 rw [hbo,Nat.mul_zero] at w3
 have hwd:Wd (L1.take o1++(W' ++ L1.drop (o1+n))):=fun x hx=>by
  rcases List.mem_append.1 hx with hx | hx
  ·exact hw x (List.mem_of_mem_take hx)
  rcases List.mem_append.1 hx with hx | hx
  ·exact w2 x hx
  exact hw x (List.mem_of_mem_drop hx)
 have hlen:(L1.take o1++(W' ++ L1.drop (o1+n))).length=L1.length:=by
  simp [w1]; omega
 obtain ⟨k,k1,k2,k3⟩:=cut_nm true hwd (off:=o1) (n:=n) (c:=c1) (by omega) h1.2.2.1 hn
 have hwin:win (L1.take o1++(W' ++ L1.drop (o1+n))) o1 n=W':=by
  have:=win_mid (L1.take o1) W' (L1.drop (o1+n))
  rwa [htl,w1] at this
 rw [hwin] at k2
 have hval:lw W' = v - u:=by omega
 rw [hval] at k2
 refine ⟨_,k,k1,hlen,k2,?_⟩
 exact mi_fn o1 n c1 o2 m c2 k bo _ _ _ (uu_flat L1) (uu_flat L2) (uu_flat _) (FSpec.embed [0] k3 (by kernel_rfl) (by kernel_rfl) (uflat _ _) (uflat _ _)) w4.spec
end Go.Proofs.YtmkgijiniopalaaDoor.G
end
