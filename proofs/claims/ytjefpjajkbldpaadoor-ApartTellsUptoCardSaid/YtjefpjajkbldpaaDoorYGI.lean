import Derived.Test.YtjefpjajkbldpaaDoorYU6
import Derived.Test.YtjefpjajkbldpaaDoorProg
import Derived.KernelRfl
import Derived.Laws.Bits64
import Derived.Shelf.Spec.TrailingZeros
import Derived.Test.YtjefpjajkbldpaaDoorYGW
import Derived.Test.YtjefpjajkbldpaaDoorYSA
set_option maxRecDepth 100000
set_option linter.unusedVariables false
section
namespace Go.Proofs.YtjefpjajkbldpaaDoor.G
open Go.Proofs.YtjefpjajkbldpaaDoor.U
def uu (x:Nat):V:=.c (.int .u64 (x:Int))
def cutS (off c:Nat) (b:Bool) (X:List Nat) (n:Nat):St:=⟨.sl 0 off n c::List.replicate 20 .any,[some ⟨b,X.map uu⟩]⟩
def cutN (X:List Nat) (off:Nat):Nat→Nat
 | 0=>0
 | n+1=>if X.getD (off+n) 0=0 then cutN X off n else n+1
theorem uflat (b:Bool) (X:List Nat):Flat [some ⟨b,X.map uu⟩]:=⟨fun v hv=>by
 obtain ⟨x,_,rfl⟩:=List.mem_map.1 hv
 rfl,trivial⟩
theorem uget {X:List Nat} {i:Nat} (h:i < X.length):(X.map uu)[i]? = some (uu (X.getD i 0)):=by
 rw [List.getElem?_map,List.getElem?_eq_getElem h]
 simp [List.getD_eq_getElem?_getD,List.getElem?_eq_getElem h]
theorem cut_go (off c:Nat) (b:Bool) (X:List Nat) (n:Nat) (x:Nat) (hn:0 < n) (hc:n≤c) (hb:(n:Int) < 9223372036854775807) (hx:(X.map uu)[off+(n - 1)]? = some (uu x)) (h0:x=0):TSpec Tryd.prog (loopOf Tryd.f82 0) (cutS off c b X n) (Ex.normal) (cutS off c b X (n - 1)) :=
 tspec_dim (sc:=[(1,2,.is (.c (.bool true))),(1,7,.is (.c (.int .i64 (n - 1)))),(1,8,.is (.p 0 (off+(n-1)))),(1,9,.fix (.int .u64 (x:Nat))),(1,10,.is (.c (.bool true))),(2,3,.is (.c (.int .i64 (n - 1)))),(2,4,.is (.sl 0 off (n-1) c))]) (sb:=[]) (obs:=[Ob.prop (V.c (Value.bool (decide ((↑n:Int) > (0:Int))))=vT),Ob.prop (vI (IntKind.wrap .i64 ((↑n:Int) - (1:Int)))=vI ((↑n:Int) - (1:Int))),Ob.prop (V.p 0 (off+Int.toNat ((↑n:Int) - (1:Int))*1)=V.p 0 (off+(n - 1))),Ob.prop ((0:Int)≤(↑n:Int) - (1:Int)∧(↑n:Int) - (1:Int) < (↑n:Int)),Ob.prop ((List.map uu X)[off+(n - 1)]? = some (vU ↑x)),Ob.prop (V.c (Value.bool ((↑x:Int)==(0:Int)))=vT),Ob.prop (vI (IntKind.wrap .i64 ((↑n:Int) - (1:Int)))=vI ((↑n:Int) - (1:Int))),Ob.prop (V.sl 0 (off+if c=0 then (0:Nat) else (0:Nat)) (Int.toNat ((↑n:Int) - (1:Int)) - 0) (c - 0)=V.sl 0 off (n - 1) c),Ob.prop ((0:Int)≤(0:Int)∧(0:Int)≤(↑n:Int) - (1:Int)∧(↑n:Int) - (1:Int)≤(↑c:Int))]) [true] 1 (by kernel_rfl) (hP zV (hP zV (hP zV (hP zV (hP hx (hP zV (hP zV (hP zV (hP zV hN))))))))) (uflat b X)
theorem cut_stop (off c:Nat) (b:Bool) (X:List Nat) (n:Nat) (x:Nat) (hn:0 < n) (hc:n≤c) (hb:(n:Int) < 9223372036854775807) (hx:(X.map uu)[off+(n - 1)]? = some (uu x)) (h0:x≠0):TSpec Tryd.prog (loopOf Tryd.f82 0) (cutS off c b X n) (Ex.exit 0) (cutS off c b X n) :=
 tspec_dim (sc:=[(1,2,.is (.c (.bool true))),(1,7,.is (.c (.int .i64 (n - 1)))),(1,8,.is (.p 0 (off+(n-1)))),(1,9,.fix (.int .u64 (x:Nat))),(1,10,.is (.c (.bool false)))]) (sb:=[]) (obs:=[Ob.prop (V.c (Value.bool (decide ((↑n:Int) > (0:Int))))=vT),Ob.prop (vI (IntKind.wrap .i64 ((↑n:Int) - (1:Int)))=vI ((↑n:Int) - (1:Int))),Ob.prop (V.p 0 (off+Int.toNat ((↑n:Int) - (1:Int))*1)=V.p 0 (off+(n - 1))),Ob.prop ((0:Int)≤(↑n:Int) - (1:Int)∧(↑n:Int) - (1:Int) < (↑n:Int)),Ob.prop ((List.map uu X)[off+(n - 1)]? = some (vU ↑x)),Ob.prop (V.c (Value.bool ((↑x:Int)==(0:Int)))=vF)]) [true] 1 (by kernel_rfl) (hP zV (hP zV (hP zV (hP zV (hP hx (hP zV hN)))))) (uflat b X)
theorem cut_end (off c:Nat) (b:Bool) (X:List Nat)  : TSpec Tryd.prog (loopOf Tryd.f82 0) (cutS off c b X 0) (Ex.exit 0) (cutS off c b X 0) :=
 tspec_dim (sc:=[]) (sb:=[]) (obs:=[]) [true] 1 (by kernel_rfl) hN (uflat b X)
theorem cut_fnt (off c:Nat) (X:List Nat) (n m:Nat) (h:TSpec Tryd.prog (.block 0 (.loop (loopOf Tryd.f82 0))) (cutS off c true X n) .normal (cutS off c true X m)):FSpec Tryd.prog 82 [.sl 0 off n c] [some ⟨true,X.map uu⟩] (V.sl 0 off m c) [some ⟨true,X.map uu⟩] :=
 fspec_ok Tryd.func82 (sc:=[]) (sb:=[(0,.normal,cutS off c true X m)]) (keep:=[]) (obs:=[Ob.prop (Flat ([some ⟨true,X.map uu⟩]:List (Option Row))),Ob.prop (TSpec Tryd.prog (Code.block 0 (Code.loop (loopOf Tryd.f82 0))) ({ t:=[V.sl 0 off n c,V.c (Value.tuple { toList:=[] }),V.c (Value.slice none 0 0),V.c (Value.tuple { toList:=[] }),V.c (Value.tuple { toList:=[] }),V.c (Value.tuple { toList:=[] }),V.c (Value.tuple { toList:=[] }),V.c (Value.tuple { toList:=[] }),V.c (Value.tuple { toList:=[] }),V.c (Value.tuple { toList:=[] }),V.c (Value.tuple { toList:=[] }),V.c (Value.tuple { toList:=[] }),V.c (Value.tuple { toList:=[] }),V.c (Value.tuple { toList:=[] }),V.c (Value.tuple { toList:=[] }),V.c (Value.tuple { toList:=[] }),V.c (Value.tuple { toList:=[] }),V.c (Value.tuple { toList:=[] }),V.c (Value.tuple { toList:=[] }),V.c (Value.tuple { toList:=[] }),V.c (Value.tuple { toList:=[] })],m:=[some { own:=true,cells:=List.map uu X }] }) (Ex.normal) (cutS off c true X m))]) (by kernel_rfl) (hP (uflat true X) (hP (TSpec.from [true] h (by kernel_rfl) (by kernel_rfl) (uflat true X)) hN))
theorem cut_fnf (off c:Nat) (X:List Nat) (n m:Nat) (h:TSpec Tryd.prog (.block 0 (.loop (loopOf Tryd.f82 0))) (cutS off c false X n) .normal (cutS off c false X m)):FSpec Tryd.prog 82 [.sl 0 off n c] [some ⟨false,X.map uu⟩] (V.sl 0 off m c) [some ⟨false,X.map uu⟩] :=
 fspec_ok Tryd.func82 (sc:=[]) (sb:=[(0,.normal,cutS off c false X m)]) (keep:=[]) (obs:=[Ob.prop (Flat ([some ⟨false,X.map uu⟩]:List (Option Row))),Ob.prop (TSpec Tryd.prog (Code.block 0 (Code.loop (loopOf Tryd.f82 0))) ({ t:=[V.sl 0 off n c,V.c (Value.tuple { toList:=[] }),V.c (Value.slice none 0 0),V.c (Value.tuple { toList:=[] }),V.c (Value.tuple { toList:=[] }),V.c (Value.tuple { toList:=[] }),V.c (Value.tuple { toList:=[] }),V.c (Value.tuple { toList:=[] }),V.c (Value.tuple { toList:=[] }),V.c (Value.tuple { toList:=[] }),V.c (Value.tuple { toList:=[] }),V.c (Value.tuple { toList:=[] }),V.c (Value.tuple { toList:=[] }),V.c (Value.tuple { toList:=[] }),V.c (Value.tuple { toList:=[] }),V.c (Value.tuple { toList:=[] }),V.c (Value.tuple { toList:=[] }),V.c (Value.tuple { toList:=[] }),V.c (Value.tuple { toList:=[] }),V.c (Value.tuple { toList:=[] }),V.c (Value.tuple { toList:=[] })],m:=[some { own:=false,cells:=List.map uu X }] }) (Ex.normal) (cutS off c false X m)) ]) (by kernel_rfl) (hP (uflat false X) (hP (TSpec.from [true] h (by kernel_rfl) (by kernel_rfl) (uflat false X)) hN))
theorem cut_spec (off c:Nat) (b:Bool) (X:List Nat) (n:Nat) (hl:off+n≤X.length) (hc:n≤c) (hb:n < 9223372036854775807) :
 FSpec Tryd.prog 82 [.sl 0 off n c] [some ⟨b,X.map uu⟩] (.sl 0 off (cutN X off n) c) [some ⟨b,X.map uu⟩]:=by
 have key:=(loop_spec (cutS off c b X) id (fun k=>k≤n∧cutN X off k=cutN X off n) (e:=.normal) (s':=cutS off c b X (cutN X off n)) ?_ n ⟨Nat.le_refl _,rfl⟩:TSpec Tryd.prog (.block 0 (.loop (loopOf Tryd.f82 0))) (cutS off c b X n) .normal _)
 ·cases b with
  | true=>exact cut_fnt off c X n _ key
  | false=>exact cut_fnf off c X n _ key
 rintro k ⟨hk,he⟩
 cases k with
 | zero=>exact .inr (.inl ⟨rfl,by rw [← he]; exact cut_end off c b X⟩)
 | succ k =>
   have hx:=uget (X:=X) (i:=off+(k+1 - 1)) (by omega)
   by_cases h0:X.getD (off+k) 0=0
   ·exact .inl ⟨k,⟨by omega,by rw [← he,cutN,if_pos h0]⟩,by simp,cut_go off c b X (k+1) _ (by omega) (by omega) (by omega) hx h0⟩
   refine .inr (.inl ⟨rfl,?_⟩)
   have:cutN X off n=k+1:=by rw [← he,cutN,if_neg h0]
   rw [this]
   exact cut_stop off c b X (k+1) _ (by omega) (by omega) (by omega) hx h0
end Go.Proofs.YtjefpjajkbldpaaDoor.G
end
section
open Go.RowKit
namespace Go.Proofs.YtjefpjajkbldpaaDoor.G
open Go.Proofs.YtjefpjajkbldpaaDoor.U
theorem tz_a {x:Nat} (h:x≠0):V.c (.bool ((x:Int)==0))=V.c (.bool false):=by
 congr 2
 simpa using h
theorem tz_b {x idx:Nat} (h:IntKind.u64.wrap (bits BinOp.and IntKind.u64 (x:Int) (IntKind.u64.wrap (-(x:Int)))*285870213051353865)/288230376151711744=(idx:Int)) :
 V.c (Value.int IntKind.u64 (Int.fdiv (IntKind.wrap IntKind.u64 (IntKind.wrap IntKind.u64 (↑(BitVec.toNat (BitVec.ofInt (64:Nat) (↑x:Int) &&& BitVec.ofInt (64:Nat) (IntKind.wrap IntKind.u64 ((0:Int) - (↑x:Int))))):Int)*(285870213051353865:Int))) ((2:Int)^(58:Nat))))=V.c (Value.int IntKind.u64 (↑idx:Int)):=by
 congr 2
 rw [← h,Int.zero_sub]
 rw [show (2:Int)^58=288230376151711744 by decide,Int.fdiv_eq_ediv_of_nonneg _ (by omega)]
 rfl
def allB (p:Nat→Prop):Nat→Nat→Prop
 | 0,_=>True
 | n+1,i=>p i∧allB p n (i+1)
theorem allB_at {p:Nat→Prop}:∀ {n i k:Nat},allB p n i→i≤k→k < i+n→p k
 | 0,i,k,_,h1,h2=>by omega
 | n+1,i,k,h,h1,h2=>by
   by_cases hk:k=i
   ·exact hk▸h.1
   exact allB_at h.2 (by omega) (by omega)
theorem tz_ix (i:Nat) (h:i < 64) (t:List V) (ht:t=List.replicate 10 .any++[.c (.int .u64 (i:Int))]) (d:Option Tmp) (ps:String) (af:Array Edge):sval Tryd.prog (execOp (St.rho ⟨t,[]⟩) { dst:=d,op:=.indexAddr 105 (.global tabG) (.tmp 10),type:=0,pos:=ps,after:=af,guard:=none })=some (.value (.pointer (some ⟨tabG,i,none⟩))):=by
 subst ht
 refine allB_at (p:=fun i=>sval Tryd.prog (execOp (St.rho ⟨List.replicate 10 .any++[.c (.int .u64 (i:Int))],[]⟩) { dst:=d,op:=.indexAddr 105 (.global tabG) (.tmp 10),type:=0,pos:=ps,after:=af,guard:=none })=some (.value (.pointer (some ⟨tabG,i,none⟩)))) (n:=64) (i:=0) ?_ (by omega) (by omega)
 repeat' (first | exact trivial | refine ⟨by show (_=_); kernel_rfl,?_⟩)
theorem tz_ld {i k:Nat} (h:i < 64) (h3:deB.getD i 0=(k:Int)):∀ (w:World),Laid w→Sem.run Tryd.prog (Instr.loadAt (5:Nat) (Value.pointer (some { block:=tabG,off:=i }))) w=Result.ok (Value.int IntKind.u8 (↑k:Int)) w:=by
 intro w hl
 have:=hl i h
 rw [h3] at this
 have ha:sval Tryd.prog (isAgg 5)=some false:=by kernel_rfl
 simp [Instr.loadAt,Instr.sureAddr,loadVar,sval_run ha,this]
theorem deB_at:∀ i,i < 64→deB.getD i 0=(Lib.deBruijn64tab.getD i 0:Nat):=by decide +kernel
theorem tz_c {k:Nat} (h:k < 64):V.c (Value.int IntKind.i64 (IntKind.wrap IntKind.i64 (↑k:Int)))=V.c (Value.int IntKind.i64 (↑k:Int)):=by
 rw [show IntKind.wrap .i64 (k:Int)=k by simp [IntKind.wrap,IntKind.signed,IntKind.bits]; omega]
theorem tz_fn (x idx:Nat) (k:Nat) (h0:x≠0) (h1:IntKind.u64.wrap (bits BinOp.and IntKind.u64 (x:Int) (IntKind.u64.wrap (-(x:Int)))*285870213051353865)/288230376151711744=(idx:Int)) (h2:idx < 64) (hk:k < 64) (h3:deB.getD idx 0=(k:Int)):FSpec Tryd.prog 81 [.c (.int .u64 (x:Int))] [] (vI ↑k) [] :=
 fspec_ok Tryd.func81 (sc:=[(1,1,.is (.c (.bool false))),(3,5,.is (.c (.int .u64 (idx:Nat)))),(3,6,.fix (.pointer (some ⟨tabG,idx,none⟩))),(3,7,.fix (.int .u8 (k:Nat))),(3,8,.is (.c (.int .i64 (k:Nat))))]) (sb:=[]) (keep:=[]) (obs:=[Ob.prop (Flat ([]:List (Option Row))),Ob.prop (V.c (Value.bool ((↑x:Int)==(0:Int)))=vF),Ob.prop (vU (Int.fdiv (IntKind.wrap .u64 (IntKind.wrap .u64 (↑(BitVec.toNat (BitVec.ofInt 64 (↑x:Int) &&& BitVec.ofInt 64 (IntKind.wrap .u64 ((0:Int) - (↑x:Int))))):Int)*(285870213051353865:Int))) ((2:Int)^58))=vU ↑idx),Ob.val (execOp (St.rho ⟨(slots 11 0 [(10,vU ↑idx)]),[]⟩) { dst:=some 11,op:=Op.indexAddr 105 (Operand.global 1) (Operand.tmp 10),type:=0,pos := "bits.go:105",after:={ toList:=[{ on:=5,ground:=Ground.data }] },guard:=none }) (Value.pointer (some { block:=1,off:=idx })),Ob.prop (∀ (w:World),Laid w→Sem.run Tryd.prog (Instr.loadAt 5 (Value.pointer (some { block:=1,off:=idx }))) w=Result.ok (Value.int IntKind.u8 (↑k:Int)) w),Ob.prop (vI (IntKind.wrap .i64 (↑k:Int))=vI ↑k) ]) (by kernel_rfl) (hP trivial (hP (tz_a h0) (hP (tz_b h1) (hV (tz_ix idx h2 _ rfl _ _ _) (hP (tz_ld h2 h3) (hP (tz_c hk) hN))))))
theorem tz_spec (x:Nat) (hx:x < 18446744073709551616) (h0:x≠0):CSpec Tryd.prog 81 #[.int .u64 (x:Int)] (.int .i64 (Lib.ctz 64 x:Nat)):=by
 obtain ⟨hlow,hk⟩:=Lib.lowest_bit 64 x h0 hx
 obtain ⟨hi,htab⟩:=Lib.deBruijn64_at _ hk
 exact cspec_of (tz_fn x _ _ h0 (tz64_key x _ hx h0 hlow) hi hk (by rw [deB_at _ hi,htab]))
end Go.Proofs.YtjefpjajkbldpaaDoor.G
end
section
namespace Go.Proofs.YtjefpjajkbldpaaDoor.G
open Go.Proofs.YtjefpjajkbldpaaDoor.U
def lw:List Nat→Nat
 | []=>0
 | x::r=>x+18446744073709551616*lw r
def Tz (v t:Nat):Prop:=∃ m,v=2^t*(2*m+1)
def Wd (X:List Nat):Prop:=∀ x∈X,x < 18446744073709551616
def win (X:List Nat) (off n:Nat):List Nat:=(X.drop off).take n
theorem tz_ctz {x:Nat} (h0:x≠0) (hx:x < 18446744073709551616):Tz x (Lib.ctz 64 x)∧Lib.ctz 64 x < 64:=by
 obtain ⟨m,hm,hk⟩:=Lib.ctzFrom_spec 64 x (by omega) hx
 have e:Lib.ctz 64 x=Lib.ctzFrom 64 x:=by simp [Lib.ctz,h0]
 exact ⟨⟨m,by rw [e]; exact hm⟩,by rw [e]; exact hk⟩
theorem tz_low {x t v:Nat} (ht:t < 64) (h:Tz x t):Tz (x+18446744073709551616*v) t:=by
 obtain ⟨m,rfl⟩:=h
 obtain ⟨d,hd⟩:∃ d,64=t+(d+1):=⟨63 - t,by omega⟩
 refine ⟨m+2^d*v,?_⟩
 rw [show (18446744073709551616:Nat)=2^64 by decide,hd,Nat.pow_add,Nat.pow_succ,Nat.mul_assoc,← Nat.mul_add]
 congr 1
 rw [Nat.mul_add,Nat.mul_comm (2^d) 2,Nat.mul_assoc]
 omega
theorem tz_up {v t:Nat} (h:Tz v t):Tz (0+18446744073709551616*v) (64+t):=by
 obtain ⟨m,rfl⟩:=h
 refine ⟨m,?_⟩
 rw [Nat.pow_add,show (2:Nat)^64=18446744073709551616 by decide,Nat.zero_add,Nat.mul_assoc]
def evS (off n c:Nat) (b:Bool) (X:List Nat) (k:Nat):St:=⟨[.sl 0 off n c,.any,.any,.c (.int .i64 (k:Nat))]++List.replicate 15 .any,[some ⟨b,X.map uu⟩]⟩
theorem ev_go (off n c:Nat) (b:Bool) (X:List Nat) (k x:Nat) (hn:k < n) (hb:n < 1125899906842624) (hx:(X.map uu)[off+k]? = some (uu x)) (h0:x=0):TSpec Tryd.prog (loopOf Tryd.f73 0) (evS off n c b X k) (Ex.normal) (evS off n c b X (k+1)) :=
 tspec_dim (sc:=[(2,2,.is (.p 0 (off+k))),(2,3,.fix (.int .u64 (x:Nat))),(2,4,.is (.c (.bool true))),(3,1,.is (.c (.int .i64 (k+1:Nat))))]) (sb:=[]) (obs:=[Ob.prop (V.p 0 (off+Int.toNat (↑k:Int)*1)=V.p 0 (off+k)),Ob.prop ((0:Int)≤(↑k:Int)∧(↑k:Int) < (↑n:Int)),Ob.prop ((List.map uu X)[off+k]? = some (vU ↑x)),Ob.prop (V.c (Value.bool ((↑x:Int)==(0:Int)))=vT),Ob.prop (vI (IntKind.wrap .i64 ((↑k:Int)+(1:Int)))=vI (↑(k+1):Int))]) [true,false,false,true] 1 (by kernel_rfl) (hP zV (hP zV (hP hx (hP zV (hP zV hN))))) (uflat b X)
theorem ev_stop (off n c:Nat) (b:Bool) (X:List Nat) (k x:Nat) (hn:k < n) (hb:n < 1125899906842624) (hx:(X.map uu)[off+k]? = some (uu x)) (h0:x≠0):TSpec Tryd.prog (loopOf Tryd.f73 0) (evS off n c b X k) (Ex.exit 0) (evS off n c b X k) :=
 tspec_dim (sc:=[(2,2,.is (.p 0 (off+k))),(2,3,.fix (.int .u64 (x:Nat))),(2,4,.is (.c (.bool false)))]) (sb:=[]) (obs:=[Ob.prop (V.p 0 (off+Int.toNat (↑k:Int)*1)=V.p 0 (off+k)),Ob.prop ((0:Int)≤(↑k:Int)∧(↑k:Int) < (↑n:Int)),Ob.prop ((List.map uu X)[off+k]? = some (vU ↑x)),Ob.prop (V.c (Value.bool ((↑x:Int)==(0:Int)))=vF)]) [true,false,false,true] 1 (by kernel_rfl) (hP zV (hP zV (hP hx (hP zV hN)))) (uflat b X)
theorem ev_fnt (off n c:Nat) (X:List Nat) (k x z:Nat) (hn:k < n) (hb:n < 1125899906842624) (hx:(X.map uu)[off+k]? = some (uu x)) (hz:z < 64) (ht:CSpec Tryd.prog 81 #[.int .u64 (x:Int)] (.int .i64 (z:Nat))) (h:TSpec Tryd.prog (.block 0 (.loop (loopOf Tryd.f73 0))) (evS off n c true X 0) .normal (evS off n c true X k)):FSpec Tryd.prog 73 [.sl 0 off n c] [some ⟨true,X.map uu⟩] (vI (↑(64*k+z):Int)) [some ⟨true,X.map uu⟩] :=
 fspec_ok Tryd.func73 (sc:=[(4,1,.is (.c (.int .i64 (64*k:Nat)))),(4,4,.is (.p 0 (off+k))),(4,5,.fix (.int .u64 (x:Nat))),(4,6,.fix (.int .i64 (z:Nat))),(4,7,.is (.c (.int .i64 (64*k+z:Nat))))]) (sb:=[(0,.normal,evS off n c true X k)]) (keep:=[]) (obs:=[Ob.prop (Flat ([some ⟨true,X.map uu⟩]:List (Option Row))),Ob.prop (TSpec Tryd.prog (Code.block 0 (Code.loop (loopOf Tryd.f73 0))) ({ t:=[V.sl 0 off n c,V.c (Value.tuple { toList:=[] }),vI (0:Int),vI (0:Int),V.c (Value.tuple { toList:=[] }),V.c (Value.tuple { toList:=[] }),V.c (Value.tuple { toList:=[] }),V.c (Value.tuple { toList:=[] }),V.c (Value.tuple { toList:=[] }),V.c (Value.tuple { toList:=[] }),V.c (Value.tuple { toList:=[] }),V.c (Value.tuple { toList:=[] }),V.c (Value.tuple { toList:=[] }),V.c (Value.tuple { toList:=[] }),V.c (Value.tuple { toList:=[] }),V.c (Value.tuple { toList:=[] }),V.c (Value.tuple { toList:=[] }),V.c (Value.tuple { toList:=[] }),V.c (Value.tuple { toList:=[] })],m:=[some { own:=true,cells:=List.map uu X }] }) (Ex.normal) (evS off n c true X k)),Ob.prop (vI (IntKind.wrap .i64 ((64:Int)*(↑k:Int)))=vI (↑(64*k):Int)),Ob.prop (V.p 0 (off+Int.toNat (↑k:Int)*1)=V.p 0 (off+k)),Ob.prop ((0:Int)≤(↑k:Int)∧(↑k:Int) < (↑n:Int)),Ob.prop ((List.map uu X)[off+k]? = some (vU ↑x)),Ob.call 81 { toList:=[Value.int IntKind.u64 (↑x:Int)] } (Value.int IntKind.i64 (↑z:Int)),Ob.prop (vI (IntKind.wrap .i64 ((↑(64*k):Int)+(↑z:Int)))=vI (↑(64*k+z):Int))]) (by kernel_rfl) (hP (uflat true X) (hP (TSpec.from [true,false,false,true] h (by kernel_rfl) (by kernel_rfl) (uflat true X)) (hP zV (hP zV (hP zV (hP hx (hC ht (hP zV hN))))))))
theorem ev_fnf (off n c:Nat) (X:List Nat) (k x z:Nat) (hn:k < n) (hb:n < 1125899906842624) (hx:(X.map uu)[off+k]? = some (uu x)) (hz:z < 64) (ht:CSpec Tryd.prog 81 #[.int .u64 (x:Int)] (.int .i64 (z:Nat))) (h:TSpec Tryd.prog (.block 0 (.loop (loopOf Tryd.f73 0))) (evS off n c false X 0) .normal (evS off n c false X k)):FSpec Tryd.prog 73 [.sl 0 off n c] [some ⟨false,X.map uu⟩] (vI (↑(64*k+z):Int)) [some ⟨false,X.map uu⟩] :=
 fspec_ok Tryd.func73 (sc:=[(4,1,.is (.c (.int .i64 (64*k:Nat)))),(4,4,.is (.p 0 (off+k))),(4,5,.fix (.int .u64 (x:Nat))),(4,6,.fix (.int .i64 (z:Nat))),(4,7,.is (.c (.int .i64 (64*k+z:Nat))))]) (sb:=[(0,.normal,evS off n c false X k)]) (keep:=[]) (obs:=[Ob.prop (Flat ([some ⟨false,X.map uu⟩]:List (Option Row))),Ob.prop (TSpec Tryd.prog (Code.block 0 (Code.loop (loopOf Tryd.f73 0))) ({ t:=[V.sl 0 off n c,V.c (Value.tuple { toList:=[] }),vI (0:Int),vI (0:Int),V.c (Value.tuple { toList:=[] }),V.c (Value.tuple { toList:=[] }),V.c (Value.tuple { toList:=[] }),V.c (Value.tuple { toList:=[] }),V.c (Value.tuple { toList:=[] }),V.c (Value.tuple { toList:=[] }),V.c (Value.tuple { toList:=[] }),V.c (Value.tuple { toList:=[] }),V.c (Value.tuple { toList:=[] }),V.c (Value.tuple { toList:=[] }),V.c (Value.tuple { toList:=[] }),V.c (Value.tuple { toList:=[] }),V.c (Value.tuple { toList:=[] }),V.c (Value.tuple { toList:=[] }),V.c (Value.tuple { toList:=[] })],m:=[some { own:=false,cells:=List.map uu X }] }) (Ex.normal) (evS off n c false X k)),Ob.prop (vI (IntKind.wrap .i64 ((64:Int)*(↑k:Int)))=vI (↑(64*k):Int)),Ob.prop (V.p 0 (off+Int.toNat (↑k:Int)*1)=V.p 0 (off+k)),Ob.prop ((0:Int)≤(↑k:Int)∧(↑k:Int) < (↑n:Int)),Ob.prop ((List.map uu X)[off+k]? = some (vU ↑x)),Ob.call 81 { toList:=[Value.int IntKind.u64 (↑x:Int)] } (Value.int IntKind.i64 (↑z:Int)),Ob.prop (vI (IntKind.wrap .i64 ((↑(64*k):Int)+(↑z:Int)))=vI (↑(64*k+z):Int)) ]) (by kernel_rfl) (hP (uflat false X) (hP (TSpec.from [true,false,false,true] h (by kernel_rfl) (by kernel_rfl) (uflat false X)) (hP zV (hP zV (hP zV (hP hx (hC ht (hP zV hN))))))))
theorem ev_loop (off n c:Nat) (b:Bool) (X:List Nat) (hb:n < 1125899906842624) (hl:off+n≤X.length):∀ (r k:Nat),r=n - k→lw (win X (off+k) (n - k))≠0 →
 ∃ k',k≤k' ∧ k' < n∧X.getD (off+k') 0≠0∧(∀ t,t < 64→Tz (X.getD (off+k') 0) t→Tz (lw (win X (off+k) (n - k))) (64*(k' - k)+t))∧Rounds Tryd.prog (loopOf Tryd.f73 0) 0 (evS off n c b X k) .normal (evS off n c b X k'):=by
 intro r
 induction r with
 | zero =>
   intro k hr h
   rw [← hr] at h
   exact (h (by simp [win,lw])).elim
 | succ r ih =>
   intro k hr h
   have hk:off+k < X.length:=by omega
   have hw:win X (off+k) (n - k)=X.getD (off+k) 0::win X (off+(k+1)) (n - (k+1)):=by
    unfold win
    rw [List.drop_eq_getElem_cons hk,← hr,List.take_succ_cons,List.getD_eq_getElem?_getD,List.getElem?_eq_getElem hk]
    simp only [Option.getD_some]
    congr 2
    omega
   have hx:=uget hk
   by_cases h0:X.getD (off+k) 0=0
   ·rw [hw,lw,h0] at h
    obtain ⟨k',h1,h2,h3,h4,h5⟩:=ih (k+1) (by omega) (by omega)
    refine ⟨k',by omega,h2,h3,fun t ht htz=>?_,.step (ev_go off n c b X k _ (by omega) hb hx h0) h5⟩
    rw [hw,lw,h0,show 64*(k' - k)+t=64+(64*(k' - (k+1))+t) by omega]
    exact tz_up (h4 t ht htz)
   refine ⟨k,Nat.le_refl _,by omega,h0,fun t ht htz=>?_,.stop (ev_stop off n c b X k _ (by omega) hb hx h0)⟩
   rw [hw,lw,show 64*(k - k)+t=t by omega]
   exact tz_low ht htz
theorem evens_spec (off n c:Nat) (b:Bool) (X:List Nat) (hw:Wd X) (hb:n < 1125899906842624) (hl:off+n≤X.length) (h0:lw (win X off n)≠0) :
 ∃ t,t < 64*n∧Tz (lw (win X off n)) t∧FSpec Tryd.prog 73 [.sl 0 off n c] [some ⟨b,X.map uu⟩] (.c (.int .i64 (t:Nat))) [some ⟨b,X.map uu⟩]:=by
 obtain ⟨k,_,hk,hx,htz,hloop⟩:=ev_loop off n c b X hb hl n 0 (by omega) h0
 have hkl:off+k < X.length:=by omega
 have hx64:X.getD (off+k) 0 < 18446744073709551616:=by
  rw [List.getD_eq_getElem?_getD,List.getElem?_eq_getElem hkl]
  exact hw _ (List.getElem_mem hkl)
 obtain ⟨hz,hz64⟩:=tz_ctz hx hx64
 refine ⟨64*k+Lib.ctz 64 (X.getD (off+k) 0),by omega,htz _ hz64 hz,?_⟩
 cases b with
 | true=>exact ev_fnt off n c X k _ _ hk hb (uget hkl) hz64 (tz_spec _ hx64 hx) hloop.spec
 | false=>exact ev_fnf off n c X k _ _ hk hb (uget hkl) hz64 (tz_spec _ hx64 hx) hloop.spec
end Go.Proofs.YtjefpjajkbldpaaDoor.G
end
section
namespace Go.Proofs.YtjefpjajkbldpaaDoor.G
open Go.Proofs.YtjefpjajkbldpaaDoor.U
theorem len_of {C:List V} {k:Nat} {v u:V} (h:C[k]? = some v):k+List.length [u]≤C.length:=by
 have:=(List.getElem?_eq_some_iff.1 h).1
 simp; omega
theorem len_set {C:List V} {k:Nat} {v u z:V} (h:C[k]? = some v):k+List.length [u]≤List.length (List.set C k z):=by
 have:=(List.getElem?_eq_some_iff.1 h).1
 simp; omega
theorem set_at {C:List V} {k:Nat} {v u:V} (h:C[k]? = some v):(List.set C k u)[k]? = some u:=by
 rw [List.getElem?_set_self (List.getElem?_eq_some_iff.1 h).1]
theorem set_next {C:List V} {k j:Nat} {v u:V} (h:C[j]? = some v) (hk:k≠j):(List.set C k u)[j]? = some v:=by
 rw [List.getElem?_set_ne hk]; exact h
theorem flat_set {C:List V} {k:Nat} {u:V} (hu:u.isC=true) (h:∀ v:V,v∈C→v.isC=true):∀ v:V,v∈List.set C k u→v.isC=true:=fun v hv=>by
 rcases List.mem_or_eq_of_mem_set hv with h1 | rfl
 ·exact h v h1
 exact hu
theorem shr_lt {x s:Nat} (h:s≤64) (hx:x < 18446744073709551616):x/2^s < 2^(64 - s):=by
 refine Nat.div_lt_of_lt_mul ?_
 rw [← Nat.pow_add,show s+(64 - s)=64 by omega]
 exact hx
theorem or_shift {x y s:Nat} (h:0 < s) (hs:s < 64) (hx:x < 18446744073709551616) :
 V.c (Value.int IntKind.u64 (IntKind.wrap IntKind.u64 ((BitVec.toNat (BitVec.ofInt (64:Nat) ((x/2^s:Nat):Int) ||| BitVec.ofInt (64:Nat) ((y*2^(64 - s)%18446744073709551616:Nat):Int)):Nat):Int)))=V.c (.int .u64 ((x/2^s+y%2^s*2^(64 - s):Nat):Int)):=by
 have h1:=shr_lt (Nat.le_of_lt hs) hx
 have h2:2^(64 - s) < 18446744073709551616:=by
  rw [show (18446744073709551616:Nat)=2^64 by decide]
  exact Nat.pow_lt_pow_right (by decide) (by omega)
 rw [or_words (by omega) (Nat.mod_lt _ (by decide))]
 congr 3
 have e:y*2^(64 - s)%18446744073709551616=y%2^s*2^(64 - s):=by
  rw [show (18446744073709551616:Nat)=2^s*2^(64 - s) by rw [← Nat.pow_add,show s+(64 - s)=64 by omega],Nat.mul_mod_mul_right]
 rw [e,or_apart h1]
theorem quo_q {q s:Nat} (hs:s < 64) (hq:q < 1125899906842624):V.c (Value.int IntKind.i64 (IntKind.wrap IntKind.i64 (Int.tdiv ((64*q+s:Nat):Int) 64)))=V.c (Value.int IntKind.i64 (q:Int)):=by
 congr 2
 rw [Int.tdiv_eq_ediv_of_nonneg (by omega),show (((64*q+s:Nat):Int)/64)=q by omega]
 simp [IntKind.wrap,IntKind.signed,IntKind.bits]; omega
theorem rem_q {q s:Nat} (hs:s < 64):V.c (Value.int IntKind.i64 (Int.tmod ((64*q+s:Nat):Int) 64))=V.c (Value.int IntKind.i64 (s:Int)):=by
 congr 2
 rw [Int.tmod_eq_emod_of_nonneg (by omega)]
 omega
theorem slice_q {off q n c:Nat} (hq:q < n) (hc:n≤c):V.sl 0 (off+(if c=Int.toNat (q:Int) then 0 else Int.toNat (q:Int)*1)) (n - Int.toNat (q:Int)) (c - Int.toNat (q:Int))=V.sl 0 (off+q) (n - q) (c - q):=by
 have:¬ c=q:=by omega
 simp [this]
def rS (o m c s:Nat) (C:List V) (i:Nat):St:=⟨[.sl 0 o m c,.c (.int .i64 (s:Nat))]++List.replicate 13 .any++[.c (.int .i64 (m:Nat)),.c (.int .i64 (i:Nat))]++List.replicate 31 .any,[some ⟨true,C⟩]⟩
theorem ri_go (o m c s i x y:Nat) (C:List V) (hf:∀ v:V,v∈C→v.isC=true) (hm:m < 1125899906842624) (hs:0 < s) (hs2:s < 64) (hi:i < m) (hx:C[o+i]? = some (uu x)) (hx2:x < 18446744073709551616) (hl:i+1 < m) (hy:C[o+(i+1)]? = some (uu y)) (hy2:y < 18446744073709551616):TSpec Tryd.prog (loopOf Tryd.f74 0) (rS o m c s C i) (Ex.normal) (rS o m c s ((C.set (o+i) (uu (x/2^s))).set (o+i) (uu (x/2^s+y%2^s*2^(64 - s)))) (i+1)) :=
 tspec_dim (sc:=[(5,0,.is (.c (.bool true))),(7,2,.is (.p 0 (o+i))),(7,3,.fix (.int .u64 (x:Nat))),(7,5,.fix (.int .u64 (x/2^s:Nat))),(7,6,.is (.p 0 (o+i))),(7,7,.fix undef),(8,1,.is (.c (.int .i64 (i+1:Nat)))),(8,4,.is (.c (.bool true))),(9,2,.is (.p 0 (o+i))),(9,3,.fix (.int .u64 (x/2^s:Nat))),(9,6,.is (.c (.int .i64 (i+1:Nat)))),(9,7,.is (.p 0 (o+(i+1)))),(9,8,.fix (.int .u64 (y:Nat))),(9,10,.is (.c (.int .i64 (64-s:Nat)))),(9,11,.fix (.int .u64 (y*2^(64 - s)%18446744073709551616:Nat))),(9,12,.is (.c (.int .u64 (x/2^s+y%2^s*2^(64 - s):Nat)))),(9,13,.is (.p 0 (o+i))),(9,14,.fix undef),(10,0,.is (.c (.int .i64 (i+1:Nat))))]) (sb:=[]) (obs:=[Ob.prop (V.c (Value.bool (decide ((↑i:Int) < (↑m:Int))))=vT),Ob.prop (V.p 0 (o+Int.toNat (↑i:Int)*1)=V.p 0 (o+i)),Ob.prop ((0:Int)≤(↑i:Int)∧(↑i:Int) < (↑m:Int)),Ob.prop (C[o+i]? = some (vU ↑x)),Ob.val (execOp (St.rho ⟨(slots 24 0 [(22,vU ↑x),(23,vI ↑s)]),[]⟩) { dst:=some 24,op:=Op.binOp BinOp.shr 70 (Operand.tmp 22) (Operand.tmp 23) 3,type:=70,pos := "gcd.go:36",after:={ toList:=[{ on:=3,ground:=Ground.data },{ on:=4,ground:=Ground.data }] },guard:=none }) (Value.int IntKind.u64 (↑(x/(2:Nat)^s):Int)),Ob.prop (V.p 0 (o+Int.toNat (↑i:Int)*1)=V.p 0 (o+i)),Ob.prop ((0:Int)≤(↑i:Int)∧(↑i:Int) < (↑m:Int)),Ob.prop (o+i+List.length [vU (↑(x/(2:Nat)^s):Int)]≤List.length C),Ob.prop (vI (IntKind.wrap .i64 ((↑i:Int)+(1:Int)))=vI (↑(i+1):Int)),Ob.prop (V.c (Value.bool (decide ((↑(i+1):Int) < (↑m:Int))))=vT),Ob.prop (V.p 0 (o+Int.toNat (↑i:Int)*1)=V.p 0 (o+i)),Ob.prop ((0:Int)≤(↑i:Int)∧(↑i:Int) < (↑m:Int)),Ob.prop ((List.set C (o+i) (vU (↑(x/(2:Nat)^s):Int)))[o+i]? = some (vU (↑(x/(2:Nat)^s):Int))),Ob.prop (vI (IntKind.wrap .i64 ((↑i:Int)+(1:Int)))=vI (↑(i+1):Int)),Ob.prop (V.p 0 (o+Int.toNat (↑(i+1):Int)*1)=V.p 0 (o+(i+1))),Ob.prop ((0:Int)≤(↑(i+1):Int)∧(↑(i+1):Int) < (↑m:Int)),Ob.prop ((List.set C (o+i) (vU (↑(x/(2:Nat)^s):Int)))[o+(i+1)]? = some (vU ↑y)),Ob.prop (vI (IntKind.wrap .i64 ((64:Int) - (↑s:Int)))=vI (↑(64 - s):Int)),Ob.val (execOp (St.rho ⟨(slots 42 0 [(39,vU ↑y),(41,vI (↑(64 - s):Int))]),[]⟩) { dst:=some 42,op:=Op.binOp BinOp.shl 70 (Operand.tmp 39) (Operand.tmp 41) 3,type:=70,pos := "gcd.go:38",after:={ toList:=[{ on:=8,ground:=Ground.data },{ on:=10,ground:=Ground.data }] },guard:=none }) (Value.int IntKind.u64 (↑(y*(2:Nat)^(64 - s)%18446744073709551616):Int)),Ob.prop (vU (IntKind.wrap .u64 (↑(BitVec.toNat (BitVec.ofInt 64 (↑(x/(2:Nat)^s):Int) ||| BitVec.ofInt 64 (↑(y*(2:Nat)^(64 - s)%18446744073709551616):Int))):Int))=vU (↑(x/(2:Nat)^s+y%(2:Nat)^s*(2:Nat)^(64 - s)):Int)),Ob.prop (V.p 0 (o+Int.toNat (↑i:Int)*1)=V.p 0 (o+i)),Ob.prop ((0:Int)≤(↑i:Int)∧(↑i:Int) < (↑m:Int)),Ob.prop (o+i+List.length [vU (↑(x/(2:Nat)^s+y%(2:Nat)^s*(2:Nat)^(64 - s)):Int)]≤List.length (List.set C (o+i) (vU (↑(x/(2:Nat)^s):Int)))),Ob.prop (vI (IntKind.wrap .i64 ((↑i:Int)+(1:Int)))=vI (↑(i+1):Int))]) ([true,true]++List.replicate 13 false++[true,true]) 1 (by kernel_rfl) (hP zV (hP zV (hP zV (hP hx (hV (sv_shr hs2 rfl rfl) (hP zV (hP zV (hP (len_of hx) (hP zV (hP zV (hP zV (hP zV (hP (set_at hx) (hP zV (hP zV (hP zV (hP (set_next hy (by omega)) (hP zV (hV (sv_shl (by omega) rfl rfl) (hP (or_shift hs hs2 hx2) (hP zV (hP zV (hP (len_set hx) (hP zV hN)))))))))))))))))))))))) ⟨flat_set rfl (flat_set rfl hf),trivial⟩
theorem ri_last (o m c s i x:Nat) (C:List V) (hf:∀ v:V,v∈C→v.isC=true) (hm:m < 1125899906842624) (hs:0 < s) (hs2:s < 64) (hi:i < m) (hx:C[o+i]? = some (uu x)) (hx2:x < 18446744073709551616) (hl:¬ i+1 < m):TSpec Tryd.prog (loopOf Tryd.f74 0) (rS o m c s C i) (Ex.normal) (rS o m c s (C.set (o+i) (uu (x/2^s))) (i+1)) :=
 tspec_dim (sc:=[(5,0,.is (.c (.bool true))),(7,2,.is (.p 0 (o+i))),(7,3,.fix (.int .u64 (x:Nat))),(7,5,.fix (.int .u64 (x/2^s:Nat))),(7,6,.is (.p 0 (o+i))),(7,7,.fix undef),(8,1,.is (.c (.int .i64 (i+1:Nat)))),(8,4,.is (.c (.bool false))),(10,0,.is (.c (.int .i64 (i+1:Nat))))]) (sb:=[]) (obs:=[Ob.prop (V.c (Value.bool (decide ((↑i:Int) < (↑m:Int))))=vT),Ob.prop (V.p 0 (o+Int.toNat (↑i:Int)*1)=V.p 0 (o+i)),Ob.prop ((0:Int)≤(↑i:Int)∧(↑i:Int) < (↑m:Int)),Ob.prop (C[o+i]? = some (vU ↑x)),Ob.val (execOp (St.rho ⟨(slots 24 0 [(22,vU ↑x),(23,vI ↑s)]),[]⟩) { dst:=some 24,op:=Op.binOp BinOp.shr 70 (Operand.tmp 22) (Operand.tmp 23) 3,type:=70,pos := "gcd.go:36",after:={ toList:=[{ on:=3,ground:=Ground.data },{ on:=4,ground:=Ground.data }] },guard:=none }) (Value.int IntKind.u64 (↑(x/(2:Nat)^s):Int)),Ob.prop (V.p 0 (o+Int.toNat (↑i:Int)*1)=V.p 0 (o+i)),Ob.prop ((0:Int)≤(↑i:Int)∧(↑i:Int) < (↑m:Int)),Ob.prop (o+i+List.length [vU (↑(x/(2:Nat)^s):Int)]≤List.length C),Ob.prop (vI (IntKind.wrap .i64 ((↑i:Int)+(1:Int)))=vI (↑(i+1):Int)),Ob.prop (V.c (Value.bool (decide ((↑(i+1):Int) < (↑m:Int))))=vF),Ob.prop (vI (IntKind.wrap .i64 ((↑i:Int)+(1:Int)))=vI (↑(i+1):Int))]) ([true,true]++List.replicate 13 false++[true,true]) 1 (by kernel_rfl) (hP zV (hP zV (hP zV (hP hx (hV (sv_shr hs2 rfl rfl) (hP zV (hP zV (hP (len_of hx) (hP zV (hP zV (hP zV hN))))))))))) ⟨flat_set rfl hf,trivial⟩
theorem ri_end (o m c s:Nat) (C:List V) (hf:∀ v:V,v∈C→v.isC=true):TSpec Tryd.prog (loopOf Tryd.f74 0) (rS o m c s C m) (Ex.exit 0) (rS o m c s C m) :=
 tspec_dim (sc:=[(5,0,.is (.c (.bool false)))]) (sb:=[]) (obs:=[Ob.prop (V.c (Value.bool (decide ((↑m:Int) < (↑m:Int))))=vF)]) ([true,true]++List.replicate 13 false++[true,true]) 1 (by kernel_rfl) (hP zV hN) ⟨hf,trivial⟩
theorem ri_fnA (off n c q s k:Nat) (C C':List V) (hf:∀ v:V,v∈C' → v.isC=true) (hf0:∀ v:V,v∈C→v.isC=true) (hn:n < 1125899906842624) (hq:q < n) (hc:n≤c) (hs2:s < 64) (hcut:FSpec Tryd.prog 82 [.sl 0 (off+q) (n - q) (c - q)] [some ⟨true,C'⟩] (.sl 0 (off+q) k (c - q)) [some ⟨true,C'⟩]) (hs:0 < s) (h:TSpec Tryd.prog (.block 0 (.loop (loopOf Tryd.f74 0))) (rS (off+q) (n - q) (c - q) s C 0) .normal (rS (off+q) (n - q) (c - q) s C' (n - q))):FSpec Tryd.prog 74 [.sl 0 off n c,.c (.int .i64 (64*q+s:Nat))] [some ⟨true,C⟩] (V.sl 0 (off+q) k (c - q)) [some ⟨true,C'⟩] :=
 fspec_ok Tryd.func74 (sc:=[(1,2,.is (.c (.int .i64 (q:Nat)))),(1,3,.is (.sl 0 (off+q) (n - q) (c - q))),(2,1,.is (.c (.int .i64 (s:Nat)))),(3,1,.is (.c (.bool true))),(11,1,.call (.sl 0 (off+q) k (c - q)) [some ⟨true,C'⟩])]) (sb:=[(0,.normal,rS (off+q) (n - q) (c - q) s C' (n - q))]) (keep:=[]) (obs:=[Ob.prop (Flat ([some ⟨true,C'⟩]:List (Option Row))),Ob.prop (vI (IntKind.wrap .i64 (Int.tdiv (↑(64*q+s):Int) (64:Int)))=vI ↑q),Ob.prop (V.sl 0 (off+if c=Int.toNat (↑q:Int) then (0:Nat) else Int.toNat (↑q:Int)*1) (Int.toNat (↑n:Int) - Int.toNat (↑q:Int)) (c - Int.toNat (↑q:Int))=V.sl 0 (off+q) (n - q) (c - q)),Ob.prop ((0:Int)≤(↑q:Int)∧(↑q:Int)≤(↑n:Int)∧(↑n:Int)≤(↑c:Int)),Ob.prop (vI (Int.tmod (↑(64*q+s):Int) (64:Int))=vI ↑s),Ob.prop (V.c (Value.bool (decide ((↑s:Int) > (0:Int))))=vT),Ob.prop (TSpec Tryd.prog (Code.block 0 (Code.loop (loopOf Tryd.f74 0))) ({ t:=[V.sl 0 (off+q) (n - q) (c - q),vI ↑s,V.c (Value.tuple { toList:=[] }),V.c (Value.tuple { toList:=[] }),V.c (Value.slice none 0 0),V.c (Value.tuple { toList:=[] }),V.sl 0 off n c,vI (↑(64*q+s):Int),vI ↑q,V.sl 0 (off+q) (n - q) (c - q),vI (↑(64*q+s):Int),vI ↑s,vI ↑s,vT,V.sl 0 (off+q) (n - q) (c - q),vI (↑(n - q):Int),vI (0:Int),V.c (Value.tuple { toList:=[] }),V.c (Value.tuple { toList:=[] }),V.c (Value.tuple { toList:=[] }),V.c (Value.tuple { toList:=[] }),V.c (Value.tuple { toList:=[] }),V.c (Value.tuple { toList:=[] }),V.c (Value.tuple { toList:=[] }),V.c (Value.tuple { toList:=[] }),V.c (Value.tuple { toList:=[] }),V.c (Value.tuple { toList:=[] }),V.c (Value.tuple { toList:=[] }),V.c (Value.tuple { toList:=[] }),V.c (Value.tuple { toList:=[] }),V.c (Value.tuple { toList:=[] }),V.c (Value.tuple { toList:=[] }),V.c (Value.tuple { toList:=[] }),V.c (Value.tuple { toList:=[] }),V.c (Value.tuple { toList:=[] }),V.c (Value.tuple { toList:=[] }),V.c (Value.tuple { toList:=[] }),V.c (Value.tuple { toList:=[] }),V.c (Value.tuple { toList:=[] }),V.c (Value.tuple { toList:=[] }),V.c (Value.tuple { toList:=[] }),V.c (Value.tuple { toList:=[] }),V.c (Value.tuple { toList:=[] }),V.c (Value.tuple { toList:=[] }),V.c (Value.tuple { toList:=[] }),V.c (Value.tuple { toList:=[] }),V.c (Value.tuple { toList:=[] }),V.c (Value.tuple { toList:=[] })],m:=[some { own:=true,cells:=C }] }) (Ex.normal) (rS (off+q) (n - q) (c - q) s C' (n - q))),Ob.fcall 82 [V.sl 0 (off+q) (n - q) (c - q)] [some { own:=true,cells:=C' }] (V.sl 0 (off+q) k (c - q)) [some { own:=true,cells:=C' }]]) (by kernel_rfl) (hP ⟨hf,trivial⟩ (hP (quo_q hs2 (by omega)) (hP (slice_q hq hc) (hP zV (hP (rem_q hs2) (hP zV (hP (TSpec.from ([true,true]++List.replicate 13 false++[true,true]) h (by kernel_rfl) (by kernel_rfl) ⟨hf0,trivial⟩) (hF hcut hN))))))))
theorem ri_fnB (off n c q s k:Nat) (C:List V) (hf:∀ v:V,v∈C→v.isC=true)  (hn:n < 1125899906842624) (hq:q < n) (hc:n≤c) (hs2:s < 64) (hcut:FSpec Tryd.prog 82 [.sl 0 (off+q) (n - q) (c - q)] [some ⟨true,C⟩] (.sl 0 (off+q) k (c - q)) [some ⟨true,C⟩]) (hs:s=0):FSpec Tryd.prog 74 [.sl 0 off n c,.c (.int .i64 (64*q+s:Nat))] [some ⟨true,C⟩] (V.sl 0 (off+q) k (c - q)) [some ⟨true,C⟩] :=
 fspec_ok Tryd.func74 (sc:=[(1,2,.is (.c (.int .i64 (q:Nat)))),(1,3,.is (.sl 0 (off+q) (n - q) (c - q))),(2,1,.is (.c (.int .i64 (s:Nat)))),(3,1,.is (.c (.bool false))),(11,1,.call (.sl 0 (off+q) k (c - q)) [some ⟨true,C⟩])]) (sb:=[]) (keep:=[]) (obs:=[Ob.prop (Flat ([some ⟨true,C⟩]:List (Option Row))),Ob.prop (vI (IntKind.wrap .i64 (Int.tdiv (↑(64*q+s):Int) (64:Int)))=vI ↑q),Ob.prop (V.sl 0 (off+if c=Int.toNat (↑q:Int) then (0:Nat) else Int.toNat (↑q:Int)*1) (Int.toNat (↑n:Int) - Int.toNat (↑q:Int)) (c - Int.toNat (↑q:Int))=V.sl 0 (off+q) (n - q) (c - q)),Ob.prop ((0:Int)≤(↑q:Int)∧(↑q:Int)≤(↑n:Int)∧(↑n:Int)≤(↑c:Int)),Ob.prop (vI (Int.tmod (↑(64*q+s):Int) (64:Int))=vI ↑s),Ob.prop (V.c (Value.bool (decide ((↑s:Int) > (0:Int))))=vF),Ob.fcall 82 [V.sl 0 (off+q) (n - q) (c - q)] [some { own:=true,cells:=C }] (V.sl 0 (off+q) k (c - q)) [some { own:=true,cells:=C }] ]) (by kernel_rfl) (hP ⟨hf,trivial⟩ (hP (quo_q hs2 (by omega)) (hP (slice_q hq hc) (hP zV (hP (rem_q hs2) (hP zV (hF hcut hN)))))))
theorem lw_lt:∀ {W:List Nat},Wd W→lw W < 18446744073709551616^W.length
 | [],_=>by simp [lw]
 | x::r,h=>by
   have h1:=lw_lt (W:=r) fun y hy=>h y (List.mem_cons_of_mem _ hy)
   have h2:=h x List.mem_cons_self
   rw [lw,List.length_cons,Nat.pow_succ,Nat.mul_comm]
   omega
theorem lw_append:∀ (A B:List Nat),lw (A++B)=lw A+18446744073709551616^A.length*lw B
 | [],B=>by simp [lw]
 | x::r,B=>by
   have e:18446744073709551616*(18446744073709551616^r.length*lw B)=18446744073709551616^r.length*18446744073709551616*lw B:=by rw [← Nat.mul_assoc,Nat.mul_comm 18446744073709551616]
   rw [List.cons_append,lw,lw_append r B,lw,List.length_cons,Nat.pow_succ,Nat.mul_add,e,Nat.add_assoc]
theorem shift_step {x y R s:Nat} (hs:s≤64) (hy:R%2^s=y%2^s):x/2^s+y%2^s*2^(64 - s)+18446744073709551616*(R/2^s)=(x+18446744073709551616*R)/2^s:=by
 have hp:0 < 2^s:=Nat.pow_pos (by decide)
 have e:(18446744073709551616:Nat)=2^s*2^(64 - s):=by rw [← Nat.pow_add,show s+(64 - s)=64 by omega]
 have e2:x+18446744073709551616*R=x+2^s*(2^(64 - s)*R):=by rw [e,Nat.mul_assoc]
 rw [e2,Nat.add_mul_div_left _ _ hp]
 have e3:2^(64 - s)*R=R%2^s*2^(64 - s)+18446744073709551616*(R/2^s):=by
  conv=>lhs; rw [← Nat.mod_add_div R (2^s)]
  rw [Nat.mul_add,Nat.mul_comm (2^(64 - s)),← Nat.mul_assoc,Nat.mul_comm (2^(64 - s)) (2^s),← e]
 rw [e3,hy,Nat.add_assoc]
theorem word_lt {x y s:Nat} (hs:s≤64) (hx:x < 18446744073709551616):x/2^s+y%2^s*2^(64 - s) < 18446744073709551616:=by
 have h1:=shr_lt hs hx
 have hp:0 < 2^s:=Nat.pow_pos (by decide)
 have h2:y%2^s+1≤2^s:=Nat.mod_lt _ hp
 have h3:=Nat.mul_le_mul_right (2^(64 - s)) h2
 rw [← Nat.pow_add,show s+(64 - s)=64 by omega,Nat.add_mul] at h3
 have:(2:Nat)^64=18446744073709551616:=by decide
 omega
theorem at_mid {pre post:List Nat} {x:Nat} {k:Nat} (h:pre.length=k):((pre++x::post).map uu)[k]? = some (uu x):=by
 rw [List.getElem?_map,List.getElem?_append_right (by omega),← h]
 simp
theorem set_mid {pre post:List Nat} {x v:Nat} {k:Nat} (h:pre.length=k):((pre++x::post).map uu).set k (uu v)=(pre++v::post).map uu:=by
 subst h
 rw [← List.map_set,List.set_append_right _ _ (Nat.le_refl _)]
 simp
theorem uu_flat (L:List Nat):∀ v:V,v∈L.map uu→v.isC=true:=fun v hv=>by
 obtain ⟨x,_,rfl⟩:=List.mem_map.1 hv
 rfl
theorem ri_loop (o m c s:Nat) (post:List Nat) (hm:m < 1125899906842624) (hs:0 < s) (hs2:s < 64):∀ (W pre:List Nat) (i:Nat),pre.length=o+i→i+W.length=m→Wd W →
 ∃ W',W'.length=W.length∧lw W' = lw W/2^s∧Wd W' ∧ Rounds Tryd.prog (loopOf Tryd.f74 0) 0 (rS o m c s ((pre++(W++post)).map uu) i) .normal (rS o m c s ((pre++(W' ++ post)).map uu) m)
 | [],pre,i,hp,hl,hw=>by
   have:i=m:=by simpa using hl
   subst this
   exact ⟨[],rfl,by simp [lw],hw,.stop (ri_end o i c s _ (uu_flat _))⟩
 | [x],pre,i,hp,hl,hw=>by
   have hi:i+1=m:=by simpa using hl
   have hx:=at_mid (post:=post) (x:=x) hp
   refine ⟨[x/2^s],rfl,by simp [lw],fun y hy=>?_,.step (ri_last o m c s i x _ (uu_flat _) hm hs hs2 (by omega) hx (hw x (by simp)) (by omega)) ?_⟩
   ·rw [List.mem_singleton.1 hy]
    exact Nat.lt_of_le_of_lt (Nat.div_le_self _ _) (hw x (by simp))
   rw [List.singleton_append,set_mid hp,hi]
   exact .stop (ri_end o m c s _ (uu_flat _))
 | x::y::r,pre,i,hp,hl,hw=>by
   have hlen:i+(r.length+2)=m:=by simpa using hl
   have hx:=at_mid (post:=y::(r++post)) (x:=x) hp
   have hy:((pre++x::y::(r++post)).map uu)[o+(i+1)]? = some (uu y):=by
    have:=at_mid (pre:=pre++[x]) (post:=r++post) (x:=y) (k:=o+(i+1)) (by simp; omega)
    simpa using this
   have hx2:=hw x (by simp)
   have hy2:=hw y (by simp)
   obtain ⟨W',h1,h2,h3,h4⟩:=ri_loop o m c s post hm hs hs2 (y::r) (pre++[x/2^s+y%2^s*2^(64 - s)]) (i+1) (by simp; omega) (by simp; omega) (fun z hz=>hw z (List.mem_cons_of_mem _ hz))
   refine ⟨(x/2^s+y%2^s*2^(64 - s))::W',by simp at h1 ⊢; exact h1,?_,fun z hz=>?_,.step (ri_go o m c s i x y _ (uu_flat _) hm hs hs2 (by omega) hx hx2 (by omega) hy hy2) ?_⟩
   ·rw [lw,h2]
    refine shift_step (Nat.le_of_lt hs2) ?_
    rw [lw,show (18446744073709551616:Nat)=2^s*2^(64 - s) by rw [← Nat.pow_add,show s+(64 - s)=64 by omega],Nat.mul_assoc,Nat.add_mul_mod_self_left]
   ·rcases List.mem_cons.1 hz with rfl | hz
    ·exact word_lt (Nat.le_of_lt hs2) hx2
    exact h3 z hz
   rw [List.cons_append,List.cons_append,set_mid hp,set_mid hp]
   simpa using h4
def Nm (L:List Nat) (off n c v:Nat):Prop:=Wd L∧off+n≤L.length∧n≤c∧lw (win L off n)=v∧(n=0∨18446744073709551616^(n - 1)≤v)
theorem win_len {L:List Nat} {off n:Nat} (h:off+n≤L.length):(win L off n).length=n:=by simp [win]; omega
theorem win_wd {L:List Nat} {off n:Nat} (h:Wd L):Wd (win L off n):=fun x hx=>h x (List.mem_of_mem_drop (List.mem_of_mem_take hx))
theorem win_split (L:List Nat) (off n:Nat):L=L.take off++(win L off n++L.drop (off+n)):=by
 unfold win
 conv=>lhs; rw [← List.take_append_drop off L]
 congr 1
 rw [← List.drop_drop,List.take_append_drop]
theorem win_mid (pre W post:List Nat):win (pre++(W++post)) pre.length W.length=W:=by simp [win]
theorem win_succ {L:List Nat} {off n:Nat} (h:off+n < L.length):win L off (n+1)=win L off n++[L.getD (off+n) 0]:=by
 unfold win
 rw [List.take_add_one,List.getElem?_drop,List.getElem?_eq_getElem h,List.getD_eq_getElem?_getD,List.getElem?_eq_getElem h]
 rfl
theorem cut_win {L:List Nat} {off:Nat}:∀ {n:Nat},off+n≤L.length→cutN L off n≤n∧lw (win L off (cutN L off n))=lw (win L off n)∧(cutN L off n=0∨18446744073709551616^(cutN L off n - 1)≤lw (win L off n))
 | 0,_=>⟨Nat.le_refl _,rfl,.inl rfl⟩
 | n+1,h=>by
   rw [cutN]
   by_cases h0:L.getD (off+n) 0=0
   ·rw [if_pos h0]
    obtain ⟨h1,h2,h3⟩:=cut_win (L:=L) (off:=off) (n:=n) (by omega)
    have e:lw (win L off (n+1))=lw (win L off n):=by
     rw [win_succ (by omega),lw_append,h0]
     simp [lw]
    exact ⟨by omega,by rw [h2,e],by rw [e]; exact h3⟩
   rw [if_neg h0]
   refine ⟨Nat.le_refl _,rfl,.inr ?_⟩
   rw [win_succ (by omega),lw_append,win_len (by omega),Nat.add_sub_cancel]
   have:lw [L.getD (off+n) 0]≠0:=by simp only [lw]; omega
   have h2:=Nat.mul_le_mul_left (18446744073709551616^n) (show 1≤lw [L.getD (off+n) 0] by omega)
   omega
theorem cut_nm {L:List Nat} {off n c:Nat} (b:Bool) (hw:Wd L) (h:off+n≤L.length) (hc:n≤c) (hn:n < 1125899906842624) :
 ∃ k,k≤n∧Nm L off k c (lw (win L off n))∧FSpec Tryd.prog 82 [.sl 0 off n c] [some ⟨b,L.map uu⟩] (.sl 0 off k c) [some ⟨b,L.map uu⟩]:=by
 obtain ⟨h1,h2,h3⟩:=cut_win h
 exact ⟨_,h1,⟨hw,by omega,by omega,h2,h3⟩,cut_spec off c b L n h hc (by omega)⟩
theorem right_spec {L:List Nat} {off n c v t:Nat} (h:Nm L off n c v) (hn:n < 1125899906842624) (ht:t < 64*n) :
 ∃ L' off' n' c',n' ≤ n∧L'.length=L.length∧Nm L' off' n' c' (v/2^t)∧FSpec Tryd.prog 74 [.sl 0 off n c,.c (.int .i64 (t:Nat))] [some ⟨true,L.map uu⟩] (.sl 0 off' n' c') [some ⟨true,L'.map uu⟩]:=by
 obtain ⟨hw,hl,hc,hv,_⟩:=h
 have hq:t/64 < n:=by omega
 have hs2:t%64 < 64:=Nat.mod_lt _ (by decide)
 have et:t=64*(t/64)+t%64:=by omega
 have hsplit:win L off n=win L off (t/64)++win L (off+t/64) (n - t/64):=by
  unfold win
  rw [← List.drop_drop,← List.take_add,show t/64+(n - t/64)=n by omega]
 have hdrop:lw (win L (off+t/64) (n - t/64))=v/2^(64*(t/64)):=by
  rw [← hv,hsplit,lw_append,win_len (by omega),show (18446744073709551616:Nat)=2^64 by decide,← Nat.pow_mul]
  have hlt:=lw_lt (win_wd (L:=L) (off:=off) (n:=t/64) hw)
  rw [win_len (by omega),show (18446744073709551616:Nat)=2^64 by decide,← Nat.pow_mul] at hlt
  rw [Nat.add_mul_div_left _ _ (Nat.pow_pos (by decide)),Nat.div_eq_of_lt hlt,Nat.zero_add]
 have hdiv:v/2^t=v/2^(64*(t/64))/2^(t%64):=by
  rw [Nat.div_div_eq_div_mul,← Nat.pow_add,← et]
 by_cases h0:t%64=0
 ·obtain ⟨k,h1,h2,h3⟩:=cut_nm true hw (off:=off+t/64) (n:=n - t/64) (c:=c - t/64) (by omega) (by omega) (by omega)
  refine ⟨L,off+t/64,k,c - t/64,by omega,rfl,?_,?_⟩
  ·rw [hdiv,h0,Nat.pow_zero,Nat.div_one,← hdrop]
   exact h2
  have:=ri_fnB off n c (t/64) (t%64) k _ (uu_flat L) hn hq hc hs2 h3 h0
  rwa [← et] at this
 have hsp:=win_split L (off+t/64) (n - t/64)
 have htl:(L.take (off+t/64)).length=off+t/64:=by simp; omega
 obtain ⟨W',w1,w2,w3,w4⟩:=ri_loop (off+t/64) (n - t/64) (c - t/64) (t%64) (L.drop (off+t/64+(n - t/64))) (by omega) (by omega) hs2 (win L (off+t/64) (n - t/64)) (L.take (off+t/64)) 0 (by omega) (by rw [win_len (by omega)]; omega) (win_wd hw)
 rw [← hsp] at w4
 rw [win_len (by omega)] at w1
 have hwd:Wd (L.take (off+t/64)++(W' ++ L.drop (off+t/64+(n - t/64)))):=fun x hx=>by
  rcases List.mem_append.1 hx with hx | hx
  ·exact hw x (List.mem_of_mem_take hx)
  rcases List.mem_append.1 hx with hx | hx
  ·exact w3 x hx
  exact hw x (List.mem_of_mem_drop hx)
 have hlen:(L.take (off+t/64)++(W' ++ L.drop (off+t/64+(n - t/64)))).length=L.length:=by
  simp [w1]; omega
 obtain ⟨k,h1,h2,h3⟩:=cut_nm true hwd (off:=off+t/64) (n:=n - t/64) (c:=c - t/64) (by omega) (by omega) (by omega)
 have hwin:win (L.take (off+t/64)++(W' ++ L.drop (off+t/64+(n - t/64)))) (off+t/64) (n - t/64)=W':=by
  have:=win_mid (L.take (off+t/64)) W' (L.drop (off+t/64+(n - t/64)))
  rwa [htl,w1] at this
 refine ⟨_,off+t/64,k,c - t/64,by omega,hlen,?_,?_⟩
 ·rw [hwin] at h2
  rw [hdiv,← hdrop,← w2]
  exact h2
 have:=ri_fnA off n c (t/64) (t%64) k _ _ (uu_flat _) (uu_flat L) hn hq hc hs2 h3 (by omega) w4.spec
 rwa [← et] at this
end Go.Proofs.YtjefpjajkbldpaaDoor.G
end
section
namespace Go.Proofs.YtjefpjajkbldpaaDoor.G
open Go.Proofs.YtjefpjajkbldpaaDoor.U
theorem int_lt {x y:Nat}:V.c (.bool (decide ((x:Int) < (y:Int))))=V.c (.bool (decide (x < y))):=by
 congr 2
 exact decide_eq_decide.2 Int.ofNat_lt
theorem int_ne {x y:Nat} (h:x≠y):V.c (.bool ((x:Int) != (y:Int)))=V.c (.bool true):=by
 congr 2
 exact bne_iff_ne.2 (by omega)
theorem zero_w {y:Nat} (h:y=0):V.c (.int .u64 0)=V.c (.int .u64 (y:Int)):=by rw [h]; rfl
theorem int_eq {x:Nat}:V.c (.bool ((x:Int) != (x:Int)))=V.c (.bool false):=by
 congr 2
 simp
def bS (o1 n c1 o2 c2:Nat) (C1 C2:List V) (z:Int):St:=⟨[.sl 0 o1 n c1,.sl 1 o2 n c2,.any,.any,.any,.c (.int .i64 z)]++List.replicate 35 .any,[some ⟨true,C1⟩,some ⟨true,C2⟩]⟩
def bR (o1 n c1 o2 c2:Nat) (C1 C2:List V) (r:Bool):St:=⟨[.sl 0 o1 n c1,.sl 1 o2 n c2,.any,.any,.c (.bool r)]++List.replicate 36 .any,[some ⟨true,C1⟩,some ⟨true,C2⟩]⟩
def mS (o1 n c1 o2 m c2:Nat) (C1 C2:List V) (i bw:Nat):St:=⟨[.sl 0 o1 n c1,.sl 1 o2 m c2,.any,.any,.any,.c (.int .u64 (bw:Int)),.any,.any,.any,.c (.int .i64 (n:Nat)),.c (.int .i64 (i:Nat))]++List.replicate 26 .any,[some ⟨true,C1⟩,some ⟨true,C2⟩]⟩
theorem be_go (o1 n c1 o2 c2:Nat) (C1 C2:List V) (k x y:Nat) (f1:∀ v:V,v∈C1→v.isC=true) (f2:∀ v:V,v∈C2→v.isC=true) (hn:n < 1125899906842624) (hk:k < n) (hx:C1[o1+k]? = some (uu x)) (hy:C2[o2+k]? = some (uu y)) (h:x=y):TSpec Tryd.prog (loopOf Tryd.f75 0) (bS o1 n c1 o2 c2 C1 C2 (k:Int)) (Ex.normal) (bS o1 n c1 o2 c2 C1 C2 ((k:Int) - 1)) :=
 tspec_dim (sc:=[(4,1,.is (.c (.bool true))),(6,2,.is (.p 0 (o1+k))),(6,3,.fix (.int .u64 (x:Nat))),(6,6,.is (.p 1 (o2+k))),(6,7,.fix (.int .u64 (y:Nat))),(6,8,.is (.c (.bool false))),(5,1,.is (.c (.int .i64 ((k:Int) - 1))))]) (sb:=[]) (obs:=[Ob.prop (V.c (Value.bool (decide ((↑k:Int)≥(0:Int))))=vT),Ob.prop (V.p 0 (o1+Int.toNat (↑k:Int)*1)=V.p 0 (o1+k)),Ob.prop ((0:Int)≤(↑k:Int)∧(↑k:Int) < (↑n:Int)),Ob.prop (C1[o1+k]? = some (vU ↑x)),Ob.prop (V.p 1 (o2+Int.toNat (↑k:Int)*1)=V.p 1 (o2+k)),Ob.prop ((0:Int)≤(↑k:Int)∧(↑k:Int) < (↑n:Int)),Ob.prop (C2[o2+k]? = some (vU ↑y)),Ob.prop (V.c (Value.bool ((↑x:Int) != (↑y:Int)))=vF),Ob.prop (vI (IntKind.wrap .i64 ((↑k:Int) - (1:Int)))=vI ((↑k:Int) - (1:Int)))]) [true,true,false,false,false,true] 2 (by kernel_rfl) (hP zV (hP zV (hP zV (hP hx (hP zV (hP zV (hP hy (hP zV (hP zV hN))))))))) ⟨f1,f2,trivial⟩
theorem be_ret (o1 n c1 o2 c2:Nat) (C1 C2:List V) (k x y:Nat) (f1:∀ v:V,v∈C1→v.isC=true) (f2:∀ v:V,v∈C2→v.isC=true) (hn:n < 1125899906842624) (hk:k < n) (hx:C1[o1+k]? = some (uu x)) (hy:C2[o2+k]? = some (uu y)) (h:x≠y):TSpec Tryd.prog (loopOf Tryd.f75 0) (bS o1 n c1 o2 c2 C1 C2 (k:Int)) (Ex.ret) (bR o1 n c1 o2 c2 C1 C2 (decide (x < y))) :=
 tspec_dim (sc:=[(4,1,.is (.c (.bool true))),(6,2,.is (.p 0 (o1+k))),(6,3,.fix (.int .u64 (x:Nat))),(6,6,.is (.p 1 (o2+k))),(6,7,.fix (.int .u64 (y:Nat))),(6,8,.is (.c (.bool true))),(7,2,.is (.p 0 (o1+k))),(7,3,.fix (.int .u64 (x:Nat))),(7,6,.is (.p 1 (o2+k))),(7,7,.fix (.int .u64 (y:Nat))),(7,8,.is (.c (.bool (decide (x < y)))))]) (sb:=[]) (obs:=[Ob.prop (V.c (Value.bool (decide ((↑k:Int)≥(0:Int))))=vT),Ob.prop (V.p 0 (o1+Int.toNat (↑k:Int)*1)=V.p 0 (o1+k)),Ob.prop ((0:Int)≤(↑k:Int)∧(↑k:Int) < (↑n:Int)),Ob.prop (C1[o1+k]? = some (vU ↑x)),Ob.prop (V.p 1 (o2+Int.toNat (↑k:Int)*1)=V.p 1 (o2+k)),Ob.prop ((0:Int)≤(↑k:Int)∧(↑k:Int) < (↑n:Int)),Ob.prop (C2[o2+k]? = some (vU ↑y)),Ob.prop (V.c (Value.bool ((↑x:Int) != (↑y:Int)))=vT),Ob.prop (V.p 0 (o1+Int.toNat (↑k:Int)*1)=V.p 0 (o1+k)),Ob.prop ((0:Int)≤(↑k:Int)∧(↑k:Int) < (↑n:Int)),Ob.prop (C1[o1+k]? = some (vU ↑x)),Ob.prop (V.p 1 (o2+Int.toNat (↑k:Int)*1)=V.p 1 (o2+k)),Ob.prop ((0:Int)≤(↑k:Int)∧(↑k:Int) < (↑n:Int)),Ob.prop (C2[o2+k]? = some (vU ↑y)),Ob.prop (V.c (Value.bool (decide ((↑x:Int) < (↑y:Int))))=V.c (Value.bool (decide (x < y))))]) [true,true,false,false,true] 2 (by kernel_rfl) (hP zV (hP zV (hP zV (hP hx (hP zV (hP zV (hP hy (hP zV (hP zV (hP zV (hP hx (hP zV (hP zV (hP hy (hP int_lt hN))))))))))))))) ⟨f1,f2,trivial⟩
theorem be_end (o1 n c1 o2 c2:Nat) (C1 C2:List V) (f1:∀ v:V,v∈C1→v.isC=true) (f2:∀ v:V,v∈C2→v.isC=true):TSpec Tryd.prog (loopOf Tryd.f75 0) (bS o1 n c1 o2 c2 C1 C2 (-1)) (Ex.exit 0) (bS o1 n c1 o2 c2 C1 C2 (-1)) :=
 tspec_dim (sc:=[]) (sb:=[]) (obs:=[]) [true,true,false,false,false,true] 2 (by kernel_rfl) hN ⟨f1,f2,trivial⟩
theorem be_fnN (o1 n c1 o2 m c2:Nat) (C1 C2:List V) (f1:∀ v:V,v∈C1→v.isC=true) (f2:∀ v:V,v∈C2→v.isC=true) (h:n≠m):FSpec Tryd.prog 75 [.sl 0 o1 n c1,.sl 1 o2 m c2] [some ⟨true,C1⟩,some ⟨true,C2⟩] (V.c (Value.bool (decide (n < m)))) [some ⟨true,C1⟩,some ⟨true,C2⟩] :=
 fspec_ok Tryd.func75 (sc:=[(1,4,.is (.c (.bool true))),(2,4,.is (.c (.bool (decide (n < m)))))]) (sb:=[]) (keep:=[]) (obs:=[Ob.prop (Flat ([some ⟨true,C1⟩,some ⟨true,C2⟩]:List (Option Row))),Ob.prop (V.c (Value.bool ((↑n:Int) != (↑m:Int)))=vT),Ob.prop (V.c (Value.bool (decide ((↑n:Int) < (↑m:Int))))=V.c (Value.bool (decide (n < m))))]) (by kernel_rfl) (hP ⟨f1,f2,trivial⟩ (hP (int_ne h) (hP int_lt hN)))
theorem be_fnR (o1 n c1 o2 c2:Nat) (C1 C2:List V) (r:Bool) (f1:∀ v:V,v∈C1→v.isC=true) (f2:∀ v:V,v∈C2→v.isC=true) (hn:n < 1125899906842624) (h:TSpec Tryd.prog (.block 0 (.loop (loopOf Tryd.f75 0))) (bS o1 n c1 o2 c2 C1 C2 ((n:Int) - 1)) .ret (bR o1 n c1 o2 c2 C1 C2 r)):FSpec Tryd.prog 75 [.sl 0 o1 n c1,.sl 1 o2 n c2] [some ⟨true,C1⟩,some ⟨true,C2⟩] (V.c (Value.bool r)) [some ⟨true,C1⟩,some ⟨true,C2⟩] :=
 fspec_ok Tryd.func75 (sc:=[(1,4,.is (.c (.bool false))),(3,2,.is (.c (.int .i64 ((n:Int) - 1))))]) (sb:=[(0,.ret,bR o1 n c1 o2 c2 C1 C2 r)]) (keep:=[]) (obs:=[Ob.prop (Flat ([some ⟨true,C1⟩,some ⟨true,C2⟩]:List (Option Row))),Ob.prop (V.c (Value.bool ((↑n:Int) != (↑n:Int)))=vF),Ob.prop (vI (IntKind.wrap .i64 ((↑n:Int) - (1:Int)))=vI ((↑n:Int) - (1:Int))),Ob.prop (TSpec Tryd.prog (Code.block 0 (Code.loop (loopOf Tryd.f75 0))) ({ t:=[V.sl 0 o1 n c1,V.sl 1 o2 n c2,V.c (Value.tuple { toList:=[] }),V.c (Value.tuple { toList:=[] }),vF,vI ((↑n:Int) - (1:Int)),V.sl 0 o1 n c1,vI ↑n,V.sl 1 o2 n c2,vI ↑n,vF,V.c (Value.tuple { toList:=[] }),V.c (Value.tuple { toList:=[] }),V.c (Value.tuple { toList:=[] }),V.c (Value.tuple { toList:=[] }),V.c (Value.tuple { toList:=[] }),V.sl 0 o1 n c1,vI ↑n,vI ((↑n:Int) - (1:Int)),V.c (Value.tuple { toList:=[] }),V.c (Value.tuple { toList:=[] }),V.c (Value.tuple { toList:=[] }),V.c (Value.tuple { toList:=[] }),V.c (Value.tuple { toList:=[] }),V.c (Value.tuple { toList:=[] }),V.c (Value.tuple { toList:=[] }),V.c (Value.tuple { toList:=[] }),V.c (Value.tuple { toList:=[] }),V.c (Value.tuple { toList:=[] }),V.c (Value.tuple { toList:=[] }),V.c (Value.tuple { toList:=[] }),V.c (Value.tuple { toList:=[] }),V.c (Value.tuple { toList:=[] }),V.c (Value.tuple { toList:=[] }),V.c (Value.tuple { toList:=[] }),V.c (Value.tuple { toList:=[] }),V.c (Value.tuple { toList:=[] }),V.c (Value.tuple { toList:=[] }),V.c (Value.tuple { toList:=[] }),V.c (Value.tuple { toList:=[] }),V.c (Value.tuple { toList:=[] })],m:=[some { own:=true,cells:=C1 },some { own:=true,cells:=C2 }] }) (Ex.ret) (bR o1 n c1 o2 c2 C1 C2 r))]) (by kernel_rfl) (hP ⟨f1,f2,trivial⟩ (hP int_eq (hP zV (hP (TSpec.from [true,true,false,false,false,true] h (by kernel_rfl) (by kernel_rfl) ⟨f1,f2,trivial⟩) hN))))
theorem be_fnE (o1 n c1 o2 c2:Nat) (C1 C2:List V) (f1:∀ v:V,v∈C1→v.isC=true) (f2:∀ v:V,v∈C2→v.isC=true) (hn:n < 1125899906842624) (h:TSpec Tryd.prog (.block 0 (.loop (loopOf Tryd.f75 0))) (bS o1 n c1 o2 c2 C1 C2 ((n:Int) - 1)) .normal (bS o1 n c1 o2 c2 C1 C2 (-1))):FSpec Tryd.prog 75 [.sl 0 o1 n c1,.sl 1 o2 n c2] [some ⟨true,C1⟩,some ⟨true,C2⟩] (vF) [some ⟨true,C1⟩,some ⟨true,C2⟩] :=
 fspec_ok Tryd.func75 (sc:=[(1,4,.is (.c (.bool false))),(3,2,.is (.c (.int .i64 ((n:Int) - 1))))]) (sb:=[(0,.normal,bS o1 n c1 o2 c2 C1 C2 (-1))]) (keep:=[]) (obs:=[Ob.prop (Flat ([some ⟨true,C1⟩,some ⟨true,C2⟩]:List (Option Row))),Ob.prop (V.c (Value.bool ((↑n:Int) != (↑n:Int)))=vF),Ob.prop (vI (IntKind.wrap .i64 ((↑n:Int) - (1:Int)))=vI ((↑n:Int) - (1:Int))),Ob.prop (TSpec Tryd.prog (Code.block 0 (Code.loop (loopOf Tryd.f75 0))) ({ t:=[V.sl 0 o1 n c1,V.sl 1 o2 n c2,V.c (Value.tuple { toList:=[] }),V.c (Value.tuple { toList:=[] }),vF,vI ((↑n:Int) - (1:Int)),V.sl 0 o1 n c1,vI ↑n,V.sl 1 o2 n c2,vI ↑n,vF,V.c (Value.tuple { toList:=[] }),V.c (Value.tuple { toList:=[] }),V.c (Value.tuple { toList:=[] }),V.c (Value.tuple { toList:=[] }),V.c (Value.tuple { toList:=[] }),V.sl 0 o1 n c1,vI ↑n,vI ((↑n:Int) - (1:Int)),V.c (Value.tuple { toList:=[] }),V.c (Value.tuple { toList:=[] }),V.c (Value.tuple { toList:=[] }),V.c (Value.tuple { toList:=[] }),V.c (Value.tuple { toList:=[] }),V.c (Value.tuple { toList:=[] }),V.c (Value.tuple { toList:=[] }),V.c (Value.tuple { toList:=[] }),V.c (Value.tuple { toList:=[] }),V.c (Value.tuple { toList:=[] }),V.c (Value.tuple { toList:=[] }),V.c (Value.tuple { toList:=[] }),V.c (Value.tuple { toList:=[] }),V.c (Value.tuple { toList:=[] }),V.c (Value.tuple { toList:=[] }),V.c (Value.tuple { toList:=[] }),V.c (Value.tuple { toList:=[] }),V.c (Value.tuple { toList:=[] }),V.c (Value.tuple { toList:=[] }),V.c (Value.tuple { toList:=[] }),V.c (Value.tuple { toList:=[] }),V.c (Value.tuple { toList:=[] })],m:=[some { own:=true,cells:=C1 },some { own:=true,cells:=C2 }] }) (Ex.normal) (bS o1 n c1 o2 c2 C1 C2 (-1:Int)))]) (by kernel_rfl) (hP ⟨f1,f2,trivial⟩ (hP int_eq (hP zV (hP (TSpec.from [true,true,false,false,false,true] h (by kernel_rfl) (by kernel_rfl) ⟨f1,f2,trivial⟩) hN))))
theorem mi_y0 (o1 n c1 o2 m c2 i x y:Nat) (C1 C2:List V) (f1:∀ v:V,v∈C1→v.isC=true) (f2:∀ v:V,v∈C2→v.isC=true) (hn:n < 1125899906842624) (hi:i < n) (hx:C1[o1+i]? = some (uu x)) (hm:i < m) (hy:C2[o2+i]? = some (uu y)):TSpec Tryd.prog (loopOf Tryd.f76 0) (mS o1 n c1 o2 m c2 C1 C2 i 0) (Ex.normal) (mS o1 n c1 o2 m c2 (C1.set (o1+i) (uu ((x+18446744073709551616 - y - 0)%18446744073709551616))) C2 (i+1) (if x < y+0 then 1 else 0)) :=
 tspec_dim (sc:=[(3,0,.is (.c (.bool true))),(6,3,.is (.c (.bool true))),(7,2,.is (.p 1 (o2+i))),(7,3,.fix (.int .u64 (y:Nat))),(8,4,.is (.p 0 (o1+i))),(8,5,.fix (.int .u64 (x:Nat))),(8,10,.is (.c (.int .u64 ((x+18446744073709551616 - y - 0)%18446744073709551616:Nat)))),(8,11,.is (.c (.int .u64 ((if x < y+0 then 1 else 0:Nat):Int)))),(8,12,.is (.p 0 (o1+i))),(8,13,.fix undef),(9,0,.is (.c (.int .i64 (i+1:Nat))))]) (sb:=[]) (obs:=[Ob.prop (V.c (Value.bool (decide ((↑i:Int) < (↑n:Int))))=vT),Ob.prop (V.c (Value.bool (decide ((↑i:Int) < (↑m:Int))))=vT),Ob.prop (V.p 1 (o2+Int.toNat (↑i:Int)*1)=V.p 1 (o2+i)),Ob.prop ((0:Int)≤(↑i:Int)∧(↑i:Int) < (↑m:Int)),Ob.prop (C2[o2+i]? = some (vU ↑y)),Ob.prop (V.p 0 (o1+Int.toNat (↑i:Int)*1)=V.p 0 (o1+i)),Ob.prop ((0:Int)≤(↑i:Int)∧(↑i:Int) < (↑n:Int)),Ob.prop (C1[o1+i]? = some (vU ↑x)),Ob.prop (V.c #[Value.int IntKind.u64 (Int.ofNat ((Int.toNat (Prod.snd (IntKind.u64,(↑x:Int)))+18446744073709551616 - Int.toNat (Prod.snd (IntKind.u64,(↑y:Int))) - 0)%18446744073709551616)),Value.int IntKind.u64 (Int.ofNat (if Int.toNat (Prod.snd (IntKind.u64,(↑x:Int))) < Int.toNat (Prod.snd (IntKind.u64,(↑y:Int)))+0 then (1:Nat) else (0:Nat)))][0]=vU (↑((x+18446744073709551616 - y - 0)%18446744073709551616):Int)),Ob.prop (V.c #[Value.int IntKind.u64 (Int.ofNat ((Int.toNat (Prod.snd (IntKind.u64,(↑x:Int)))+18446744073709551616 - Int.toNat (Prod.snd (IntKind.u64,(↑y:Int))) - 0)%18446744073709551616)),Value.int IntKind.u64 (Int.ofNat (if Int.toNat (Prod.snd (IntKind.u64,(↑x:Int))) < Int.toNat (Prod.snd (IntKind.u64,(↑y:Int)))+0 then (1:Nat) else (0:Nat)))][1]=vU (↑(if x < y+0 then (1:Nat) else (0:Nat)):Int)),Ob.prop (V.p 0 (o1+Int.toNat (↑i:Int)*1)=V.p 0 (o1+i)),Ob.prop ((0:Int)≤(↑i:Int)∧(↑i:Int) < (↑n:Int)),Ob.prop (o1+i+List.length [vU (↑((x+18446744073709551616 - y - 0)%18446744073709551616):Int)]≤List.length C1),Ob.prop (vI (IntKind.wrap .i64 ((↑i:Int)+(1:Int)))=vI (↑(i+1):Int))]) ([true,true,false,false,false,true,false,false,false,true,true]) 2 (by kernel_rfl) (hP zV (hP zV (hP zV (hP zV (hP hy (hP zV (hP zV (hP hx (hP rfl (hP rfl (hP zV (hP zV (hP (len_of hx) (hP zV hN)))))))))))))) ⟨flat_set rfl f1,f2,trivial⟩
theorem mi_y1 (o1 n c1 o2 m c2 i x y:Nat) (C1 C2:List V) (f1:∀ v:V,v∈C1→v.isC=true) (f2:∀ v:V,v∈C2→v.isC=true) (hn:n < 1125899906842624) (hi:i < n) (hx:C1[o1+i]? = some (uu x)) (hm:i < m) (hy:C2[o2+i]? = some (uu y)):TSpec Tryd.prog (loopOf Tryd.f76 0) (mS o1 n c1 o2 m c2 C1 C2 i 1) (Ex.normal) (mS o1 n c1 o2 m c2 (C1.set (o1+i) (uu ((x+18446744073709551616 - y - 1)%18446744073709551616))) C2 (i+1) (if x < y+1 then 1 else 0)) :=
 tspec_dim (sc:=[(3,0,.is (.c (.bool true))),(6,3,.is (.c (.bool true))),(7,2,.is (.p 1 (o2+i))),(7,3,.fix (.int .u64 (y:Nat))),(8,4,.is (.p 0 (o1+i))),(8,5,.fix (.int .u64 (x:Nat))),(8,10,.is (.c (.int .u64 ((x+18446744073709551616 - y - 1)%18446744073709551616:Nat)))),(8,11,.is (.c (.int .u64 ((if x < y+1 then 1 else 0:Nat):Int)))),(8,12,.is (.p 0 (o1+i))),(8,13,.fix undef),(9,0,.is (.c (.int .i64 (i+1:Nat))))]) (sb:=[]) (obs:=[Ob.prop (V.c (Value.bool (decide ((↑i:Int) < (↑n:Int))))=vT),Ob.prop (V.c (Value.bool (decide ((↑i:Int) < (↑m:Int))))=vT),Ob.prop (V.p 1 (o2+Int.toNat (↑i:Int)*1)=V.p 1 (o2+i)),Ob.prop ((0:Int)≤(↑i:Int)∧(↑i:Int) < (↑m:Int)),Ob.prop (C2[o2+i]? = some (vU ↑y)),Ob.prop (V.p 0 (o1+Int.toNat (↑i:Int)*1)=V.p 0 (o1+i)),Ob.prop ((0:Int)≤(↑i:Int)∧(↑i:Int) < (↑n:Int)),Ob.prop (C1[o1+i]? = some (vU ↑x)),Ob.prop (V.c #[Value.int IntKind.u64 (Int.ofNat ((Int.toNat (Prod.snd (IntKind.u64,(↑x:Int)))+18446744073709551616 - Int.toNat (Prod.snd (IntKind.u64,(↑y:Int))) - 1)%18446744073709551616)),Value.int IntKind.u64 (Int.ofNat (if Int.toNat (Prod.snd (IntKind.u64,(↑x:Int))) < Int.toNat (Prod.snd (IntKind.u64,(↑y:Int)))+1 then (1:Nat) else (0:Nat)))][0]=vU (↑((x+18446744073709551616 - y - 1)%18446744073709551616):Int)),Ob.prop (V.c #[Value.int IntKind.u64 (Int.ofNat ((Int.toNat (Prod.snd (IntKind.u64,(↑x:Int)))+18446744073709551616 - Int.toNat (Prod.snd (IntKind.u64,(↑y:Int))) - 1)%18446744073709551616)),Value.int IntKind.u64 (Int.ofNat (if Int.toNat (Prod.snd (IntKind.u64,(↑x:Int))) < Int.toNat (Prod.snd (IntKind.u64,(↑y:Int)))+1 then (1:Nat) else (0:Nat)))][1]=vU (↑(if x < y+1 then (1:Nat) else (0:Nat)):Int)),Ob.prop (V.p 0 (o1+Int.toNat (↑i:Int)*1)=V.p 0 (o1+i)),Ob.prop ((0:Int)≤(↑i:Int)∧(↑i:Int) < (↑n:Int)),Ob.prop (o1+i+List.length [vU (↑((x+18446744073709551616 - y - 1)%18446744073709551616):Int)]≤List.length C1),Ob.prop (vI (IntKind.wrap .i64 ((↑i:Int)+(1:Int)))=vI (↑(i+1):Int))]) ([true,true,false,false,false,true,false,false,false,true,true]) 2 (by kernel_rfl) (hP zV (hP zV (hP zV (hP zV (hP hy (hP zV (hP zV (hP hx (hP rfl (hP rfl (hP zV (hP zV (hP (len_of hx) (hP zV hN)))))))))))))) ⟨flat_set rfl f1,f2,trivial⟩
theorem mi_n0 (o1 n c1 o2 m c2 i x y:Nat) (C1 C2:List V) (f1:∀ v:V,v∈C1→v.isC=true) (f2:∀ v:V,v∈C2→v.isC=true) (hn:n < 1125899906842624) (hi:i < n) (hx:C1[o1+i]? = some (uu x)) (hm:¬ i < m) (hy:y=0):TSpec Tryd.prog (loopOf Tryd.f76 0) (mS o1 n c1 o2 m c2 C1 C2 i 0) (Ex.normal) (mS o1 n c1 o2 m c2 (C1.set (o1+i) (uu ((x+18446744073709551616 - y - 0)%18446744073709551616))) C2 (i+1) (if x < y+0 then 1 else 0)) :=
 tspec_dim (sc:=[(3,0,.is (.c (.bool true))),(5,0,.is (.c (.int .u64 (y:Nat)))),(6,3,.is (.c (.bool false))),(8,4,.is (.p 0 (o1+i))),(8,5,.fix (.int .u64 (x:Nat))),(8,10,.is (.c (.int .u64 ((x+18446744073709551616 - y - 0)%18446744073709551616:Nat)))),(8,11,.is (.c (.int .u64 ((if x < y+0 then 1 else 0:Nat):Int)))),(8,12,.is (.p 0 (o1+i))),(8,13,.fix undef),(9,0,.is (.c (.int .i64 (i+1:Nat))))]) (sb:=[]) (obs:=[Ob.prop (V.c (Value.bool (decide ((↑i:Int) < (↑n:Int))))=vT),Ob.prop (St.at (stepSt (stepSt (stepSt (mS o1 n c1 o2 m c2 C1 C2 i 0) (Oper.dst { dst:=some 11,op:=Op.binOp BinOp.lss 3 (Operand.tmp 10) (Operand.tmp 9) 3,type:=0,pos := "gcd.go:61",after:=#[],guard:=none }) (Eff.val (vT))) (Oper.dst { dst:=some 12,op:=Op.move (Operand.tmp 10),type:=3,pos := "gcd.go:61",after:=#[],guard:=none }) (Eff.val (St.at (stepSt (mS o1 n c1 o2 m c2 C1 C2 i 0) (Oper.dst { dst:=some 11,op:=Op.binOp BinOp.lss 3 (Operand.tmp 10) (Operand.tmp 9) 3,type:=0,pos := "gcd.go:61",after:=#[],guard:=none }) (Eff.val (vT))) (Operand.tmp 10)))) (Oper.dst { dst:=some 6,op:=Op.assign (Operand.tmp 12),type:=3,pos := "gcd.go:61",after:=#[{ on:=0,ground:=Ground.data },{ on:=0,ground:=Ground.phase }],guard:=none }) (Eff.val (St.at (stepSt (stepSt (mS o1 n c1 o2 m c2 C1 C2 i 0) (Oper.dst { dst:=some 11,op:=Op.binOp BinOp.lss 3 (Operand.tmp 10) (Operand.tmp 9) 3,type:=0,pos := "gcd.go:61",after:=#[],guard:=none }) (Eff.val (vT))) (Oper.dst { dst:=some 12,op:=Op.move (Operand.tmp 10),type:=3,pos := "gcd.go:61",after:=#[],guard:=none }) (Eff.val (St.at (stepSt (mS o1 n c1 o2 m c2 C1 C2 i 0) (Oper.dst { dst:=some 11,op:=Op.binOp BinOp.lss 3 (Operand.tmp 10) (Operand.tmp 9) 3,type:=0,pos := "gcd.go:61",after:=#[],guard:=none }) (Eff.val (vT))) (Operand.tmp 10)))) (Operand.tmp 12)))) (Operand.const (Value.int IntKind.u64 (0:Int)))=vU ↑y),Ob.prop (V.c (Value.bool (decide ((↑i:Int) < (↑m:Int))))=vF),Ob.prop (V.p 0 (o1+Int.toNat (↑i:Int)*1)=V.p 0 (o1+i)),Ob.prop ((0:Int)≤(↑i:Int)∧(↑i:Int) < (↑n:Int)),Ob.prop (C1[o1+i]? = some (vU ↑x)),Ob.prop (V.c #[Value.int IntKind.u64 (Int.ofNat ((Int.toNat (Prod.snd (IntKind.u64,(↑x:Int)))+18446744073709551616 - Int.toNat (Prod.snd (IntKind.u64,(↑y:Int))) - 0)%18446744073709551616)),Value.int IntKind.u64 (Int.ofNat (if Int.toNat (Prod.snd (IntKind.u64,(↑x:Int))) < Int.toNat (Prod.snd (IntKind.u64,(↑y:Int)))+0 then (1:Nat) else (0:Nat)))][0]=vU (↑((x+18446744073709551616 - y - 0)%18446744073709551616):Int)),Ob.prop (V.c #[Value.int IntKind.u64 (Int.ofNat ((Int.toNat (Prod.snd (IntKind.u64,(↑x:Int)))+18446744073709551616 - Int.toNat (Prod.snd (IntKind.u64,(↑y:Int))) - 0)%18446744073709551616)),Value.int IntKind.u64 (Int.ofNat (if Int.toNat (Prod.snd (IntKind.u64,(↑x:Int))) < Int.toNat (Prod.snd (IntKind.u64,(↑y:Int)))+0 then (1:Nat) else (0:Nat)))][1]=vU (↑(if x < y+0 then (1:Nat) else (0:Nat)):Int)),Ob.prop (V.p 0 (o1+Int.toNat (↑i:Int)*1)=V.p 0 (o1+i)),Ob.prop ((0:Int)≤(↑i:Int)∧(↑i:Int) < (↑n:Int)),Ob.prop (o1+i+List.length [vU (↑((x+18446744073709551616 - y - 0)%18446744073709551616):Int)]≤List.length C1),Ob.prop (vI (IntKind.wrap .i64 ((↑i:Int)+(1:Int)))=vI (↑(i+1):Int))]) ([true,true,false,false,false,true,false,false,false,true,true]) 2 (by kernel_rfl) (hP zV (hP (zero_w hy) (hP zV (hP zV (hP zV (hP hx (hP rfl (hP rfl (hP zV (hP zV (hP (len_of hx) (hP zV hN)))))))))))) ⟨flat_set rfl f1,f2,trivial⟩
theorem mi_n1 (o1 n c1 o2 m c2 i x y:Nat) (C1 C2:List V) (f1:∀ v:V,v∈C1→v.isC=true) (f2:∀ v:V,v∈C2→v.isC=true) (hn:n < 1125899906842624) (hi:i < n) (hx:C1[o1+i]? = some (uu x)) (hm:¬ i < m) (hy:y=0):TSpec Tryd.prog (loopOf Tryd.f76 0) (mS o1 n c1 o2 m c2 C1 C2 i 1) (Ex.normal) (mS o1 n c1 o2 m c2 (C1.set (o1+i) (uu ((x+18446744073709551616 - y - 1)%18446744073709551616))) C2 (i+1) (if x < y+1 then 1 else 0)) :=
 tspec_dim (sc:=[(3,0,.is (.c (.bool true))),(5,0,.is (.c (.int .u64 (y:Nat)))),(6,3,.is (.c (.bool false))),(8,4,.is (.p 0 (o1+i))),(8,5,.fix (.int .u64 (x:Nat))),(8,10,.is (.c (.int .u64 ((x+18446744073709551616 - y - 1)%18446744073709551616:Nat)))),(8,11,.is (.c (.int .u64 ((if x < y+1 then 1 else 0:Nat):Int)))),(8,12,.is (.p 0 (o1+i))),(8,13,.fix undef),(9,0,.is (.c (.int .i64 (i+1:Nat))))]) (sb:=[]) (obs:=[Ob.prop (V.c (Value.bool (decide ((↑i:Int) < (↑n:Int))))=vT),Ob.prop (St.at (stepSt (stepSt (stepSt (mS o1 n c1 o2 m c2 C1 C2 i 1) (Oper.dst { dst:=some 11,op:=Op.binOp BinOp.lss 3 (Operand.tmp 10) (Operand.tmp 9) 3,type:=0,pos := "gcd.go:61",after:=#[],guard:=none }) (Eff.val (vT))) (Oper.dst { dst:=some 12,op:=Op.move (Operand.tmp 10),type:=3,pos := "gcd.go:61",after:=#[],guard:=none }) (Eff.val (St.at (stepSt (mS o1 n c1 o2 m c2 C1 C2 i 1) (Oper.dst { dst:=some 11,op:=Op.binOp BinOp.lss 3 (Operand.tmp 10) (Operand.tmp 9) 3,type:=0,pos := "gcd.go:61",after:=#[],guard:=none }) (Eff.val (vT))) (Operand.tmp 10)))) (Oper.dst { dst:=some 6,op:=Op.assign (Operand.tmp 12),type:=3,pos := "gcd.go:61",after:=#[{ on:=0,ground:=Ground.data },{ on:=0,ground:=Ground.phase }],guard:=none }) (Eff.val (St.at (stepSt (stepSt (mS o1 n c1 o2 m c2 C1 C2 i 1) (Oper.dst { dst:=some 11,op:=Op.binOp BinOp.lss 3 (Operand.tmp 10) (Operand.tmp 9) 3,type:=0,pos := "gcd.go:61",after:=#[],guard:=none }) (Eff.val (vT))) (Oper.dst { dst:=some 12,op:=Op.move (Operand.tmp 10),type:=3,pos := "gcd.go:61",after:=#[],guard:=none }) (Eff.val (St.at (stepSt (mS o1 n c1 o2 m c2 C1 C2 i 1) (Oper.dst { dst:=some 11,op:=Op.binOp BinOp.lss 3 (Operand.tmp 10) (Operand.tmp 9) 3,type:=0,pos := "gcd.go:61",after:=#[],guard:=none }) (Eff.val (vT))) (Operand.tmp 10)))) (Operand.tmp 12)))) (Operand.const (Value.int IntKind.u64 (0:Int)))=vU ↑y),Ob.prop (V.c (Value.bool (decide ((↑i:Int) < (↑m:Int))))=vF),Ob.prop (V.p 0 (o1+Int.toNat (↑i:Int)*1)=V.p 0 (o1+i)),Ob.prop ((0:Int)≤(↑i:Int)∧(↑i:Int) < (↑n:Int)),Ob.prop (C1[o1+i]? = some (vU ↑x)),Ob.prop (V.c #[Value.int IntKind.u64 (Int.ofNat ((Int.toNat (Prod.snd (IntKind.u64,(↑x:Int)))+18446744073709551616 - Int.toNat (Prod.snd (IntKind.u64,(↑y:Int))) - 1)%18446744073709551616)),Value.int IntKind.u64 (Int.ofNat (if Int.toNat (Prod.snd (IntKind.u64,(↑x:Int))) < Int.toNat (Prod.snd (IntKind.u64,(↑y:Int)))+1 then (1:Nat) else (0:Nat)))][0]=vU (↑((x+18446744073709551616 - y - 1)%18446744073709551616):Int)),Ob.prop (V.c #[Value.int IntKind.u64 (Int.ofNat ((Int.toNat (Prod.snd (IntKind.u64,(↑x:Int)))+18446744073709551616 - Int.toNat (Prod.snd (IntKind.u64,(↑y:Int))) - 1)%18446744073709551616)),Value.int IntKind.u64 (Int.ofNat (if Int.toNat (Prod.snd (IntKind.u64,(↑x:Int))) < Int.toNat (Prod.snd (IntKind.u64,(↑y:Int)))+1 then (1:Nat) else (0:Nat)))][1]=vU (↑(if x < y+1 then (1:Nat) else (0:Nat)):Int)),Ob.prop (V.p 0 (o1+Int.toNat (↑i:Int)*1)=V.p 0 (o1+i)),Ob.prop ((0:Int)≤(↑i:Int)∧(↑i:Int) < (↑n:Int)),Ob.prop (o1+i+List.length [vU (↑((x+18446744073709551616 - y - 1)%18446744073709551616):Int)]≤List.length C1),Ob.prop (vI (IntKind.wrap .i64 ((↑i:Int)+(1:Int)))=vI (↑(i+1):Int))]) ([true,true,false,false,false,true,false,false,false,true,true]) 2 (by kernel_rfl) (hP zV (hP (zero_w hy) (hP zV (hP zV (hP zV (hP hx (hP rfl (hP rfl (hP zV (hP zV (hP (len_of hx) (hP zV hN)))))))))))) ⟨flat_set rfl f1,f2,trivial⟩
theorem mi_end (o1 n c1 o2 m c2 bw:Nat) (C1 C2:List V) (f1:∀ v:V,v∈C1→v.isC=true) (f2:∀ v:V,v∈C2→v.isC=true):TSpec Tryd.prog (loopOf Tryd.f76 0) (mS o1 n c1 o2 m c2 C1 C2 n bw) (Ex.exit 0) (mS o1 n c1 o2 m c2 C1 C2 n bw) :=
 tspec_dim (sc:=[(3,0,.is (.c (.bool false)))]) (sb:=[]) (obs:=[Ob.prop (V.c (Value.bool (decide ((↑n:Int) < (↑n:Int))))=vF)]) ([true,true,false,false,false,true,false,false,false,true,true]) 2 (by kernel_rfl) (hP zV hN) ⟨f1,f2,trivial⟩
theorem mi_fn (o1 n c1 o2 m c2 k bw:Nat) (C1 C2 C':List V) (f1:∀ v:V,v∈C1→v.isC=true) (f2:∀ v:V,v∈C2→v.isC=true) (f3:∀ v:V,v∈C' → v.isC=true) (hcut:FSpec Tryd.prog 82 [.sl 0 o1 n c1] [some ⟨true,C'⟩,some ⟨true,C2⟩] (.sl 0 o1 k c1) [some ⟨true,C'⟩,some ⟨true,C2⟩]) (h:TSpec Tryd.prog (.block 0 (.loop (loopOf Tryd.f76 0))) (mS o1 n c1 o2 m c2 C1 C2 0 0) .normal (mS o1 n c1 o2 m c2 C' C2 n bw)):FSpec Tryd.prog 76 [.sl 0 o1 n c1,.sl 1 o2 m c2] [some ⟨true,C1⟩,some ⟨true,C2⟩] (V.sl 0 o1 k c1) [some ⟨true,C'⟩,some ⟨true,C2⟩] :=
 fspec_ok Tryd.func76 (sc:=[(10,1,.call (.sl 0 o1 k c1) [some ⟨true,C'⟩,some ⟨true,C2⟩])]) (sb:=[(0,.normal,mS o1 n c1 o2 m c2 C' C2 n bw)]) (keep:=[]) (obs:=[Ob.prop (Flat ([some ⟨true,C'⟩,some ⟨true,C2⟩]:List (Option Row))),Ob.prop (TSpec Tryd.prog (Code.block 0 (Code.loop (loopOf Tryd.f76 0))) ({ t:=[V.sl 0 o1 n c1,V.sl 1 o2 m c2,V.c (Value.tuple { toList:=[] }),V.c (Value.tuple { toList:=[] }),V.c (Value.slice none 0 0),vU (0:Int),V.c (Value.tuple { toList:=[] }),V.c (Value.tuple { toList:=[] }),V.sl 0 o1 n c1,vI ↑n,vI (0:Int),V.c (Value.tuple { toList:=[] }),V.c (Value.tuple { toList:=[] }),V.c (Value.tuple { toList:=[] }),V.c (Value.tuple { toList:=[] }),V.c (Value.tuple { toList:=[] }),V.c (Value.tuple { toList:=[] }),V.c (Value.tuple { toList:=[] }),V.c (Value.tuple { toList:=[] }),V.c (Value.tuple { toList:=[] }),V.c (Value.tuple { toList:=[] }),V.c (Value.tuple { toList:=[] }),V.c (Value.tuple { toList:=[] }),V.c (Value.tuple { toList:=[] }),V.c (Value.tuple { toList:=[] }),V.c (Value.tuple { toList:=[] }),V.c (Value.tuple { toList:=[] }),V.c (Value.tuple { toList:=[] }),V.c (Value.tuple { toList:=[] }),V.c (Value.tuple { toList:=[] }),V.c (Value.tuple { toList:=[] }),V.c (Value.tuple { toList:=[] }),V.c (Value.tuple { toList:=[] }),V.c (Value.tuple { toList:=[] }),V.c (Value.tuple { toList:=[] }),V.c (Value.tuple { toList:=[] }),V.c (Value.tuple { toList:=[] })],m:=[some { own:=true,cells:=C1 },some { own:=true,cells:=C2 }] }) (Ex.normal) (mS o1 n c1 o2 m c2 C' C2 n bw)),Ob.fcall 82 [V.sl 0 o1 n c1] [some { own:=true,cells:=C' },some { own:=true,cells:=C2 }] (V.sl 0 o1 k c1) [some { own:=true,cells:=C' },some { own:=true,cells:=C2 }] ]) (by kernel_rfl) (hP ⟨f3,f2,trivial⟩ (hP (TSpec.from ([true,true,false,false,false,true,false,false,false,true,true]) h (by kernel_rfl) (by kernel_rfl) ⟨f1,f2,trivial⟩) (hF hcut hN)))
theorem win_cons {L:List Nat} {off n:Nat} (h:0 < n) (hl:off < L.length):win L off n=L.getD off 0::win L (off+1) (n - 1):=by
 obtain ⟨m,rfl⟩:∃ m,n=m+1:=⟨n - 1,by omega⟩
 unfold win
 rw [List.drop_eq_getElem_cons hl,List.take_succ_cons,List.getD_eq_getElem?_getD,List.getElem?_eq_getElem hl]
 rfl
theorem getD_lt {L:List Nat} {k:Nat} (h:Wd L) (hk:k < L.length):L.getD k 0 < 18446744073709551616:=by
 rw [List.getD_eq_getElem?_getD,List.getElem?_eq_getElem hk]
 exact h _ (List.getElem_mem hk)
theorem top_lt {a b x y P:Nat} (ha:a < P) (h:x < y):a+P*x < b+P*y:=by
 have:=Nat.mul_le_mul_left P (show x+1≤y from h)
 rw [Nat.mul_add] at this
 omega
theorem be_loop (o1 n c1 o2 c2:Nat) (L1 L2:List Nat) (w1:Wd L1) (w2:Wd L2) (h1:o1+n≤L1.length) (h2:o2+n≤L2.length) (hn:n < 1125899906842624):∀ k,k≤n →
 Rounds Tryd.prog (loopOf Tryd.f75 0) 0 (bS o1 n c1 o2 c2 (L1.map uu) (L2.map uu) ((k:Int) - 1)) .ret (bR o1 n c1 o2 c2 (L1.map uu) (L2.map uu) (decide (lw (win L1 o1 k) < lw (win L2 o2 k)))) ∨
 (lw (win L1 o1 k)=lw (win L2 o2 k)∧Rounds Tryd.prog (loopOf Tryd.f75 0) 0 (bS o1 n c1 o2 c2 (L1.map uu) (L2.map uu) ((k:Int) - 1)) .normal (bS o1 n c1 o2 c2 (L1.map uu) (L2.map uu) (-1)))
 | 0,_=>.inr ⟨rfl,.stop (be_end o1 n c1 o2 c2 _ _ (uu_flat _) (uu_flat _))⟩
 | k+1,hk=>by
   have hx:=uget (X:=L1) (i:=o1+k) (by omega)
   have hy:=uget (X:=L2) (i:=o2+k) (by omega)
   have e:((k+1:Nat):Int) - 1=(k:Int):=by omega
   rw [e,win_succ (by omega),win_succ (by omega),lw_append,lw_append,win_len (by omega),win_len (by omega)]
   have q1:=lw_lt (win_wd (L:=L1) (off:=o1) (n:=k) w1)
   have q2:=lw_lt (win_wd (L:=L2) (off:=o2) (n:=k) w2)
   rw [win_len (by omega)] at q1 q2
   have s1:∀ x,lw [x]=x:=fun x=>by simp [lw]
   rw [s1,s1]
   by_cases h:L1.getD (o1+k) 0=L2.getD (o2+k) 0
   ·have hr:=be_go o1 n c1 o2 c2 _ _ k _ _ (uu_flat L1) (uu_flat L2) hn (by omega) hx hy h
    rw [h]
    rcases be_loop o1 n c1 o2 c2 L1 L2 w1 w2 h1 h2 hn k (by omega) with ih | ⟨ih1,ih2⟩
    ·refine .inl ?_
     have ed:(decide (lw (win L1 o1 k)+18446744073709551616^k*L2.getD (o2+k) 0 < lw (win L2 o2 k)+18446744073709551616^k*L2.getD (o2+k) 0))=decide (lw (win L1 o1 k) < lw (win L2 o2 k)):=decide_eq_decide.2 (by omega)
     rw [ed]
     exact .step hr ih
    exact .inr ⟨by rw [ih1],.step hr ih2⟩
   refine .inl (.ret ?_)
   have hr:=be_ret o1 n c1 o2 c2 _ _ k _ _ (uu_flat L1) (uu_flat L2) hn (by omega) hx hy h
   have ed:(decide (lw (win L1 o1 k)+18446744073709551616^k*L1.getD (o1+k) 0 < lw (win L2 o2 k)+18446744073709551616^k*L2.getD (o2+k) 0))=decide (L1.getD (o1+k) 0 < L2.getD (o2+k) 0):=by
    refine decide_eq_decide.2 ⟨fun hh=>?_,fun hh=>top_lt q1 hh⟩
    rcases Nat.lt_or_gt_of_ne h with h' | h'
    ·exact h'
    have:=top_lt (a:=lw (win L2 o2 k)) (b:=lw (win L1 o1 k)) q2 h'
    omega
   rw [ed]
   exact hr
theorem nm_lt {L:List Nat} {off n c v:Nat} (h:Nm L off n c v):v < 18446744073709551616^n:=by
 obtain ⟨hw,hl,_,hv,_⟩:=h
 have:=lw_lt (win_wd (L:=L) (off:=off) (n:=n) hw)
 rwa [win_len hl,hv] at this
theorem nm_len_lt {L L':List Nat} {off n c v off' n' c' v':Nat} (h:Nm L off n c v) (h':Nm L' off' n' c' v') (hn:n < n'):v < v':=by
 have h1:=nm_lt h
 rcases h'.2.2.2.2 with h2 | h2
 ·omega
 have:=Nat.pow_le_pow_right (n:=18446744073709551616) (by decide) (show n≤n' - 1 by omega)
 omega
theorem below_spec {L1 L2:List Nat} {o1 n c1 v o2 m c2 u:Nat} (h1:Nm L1 o1 n c1 v) (h2:Nm L2 o2 m c2 u) (hn:n < 1125899906842624) :
 FSpec Tryd.prog 75 [.sl 0 o1 n c1,.sl 1 o2 m c2] [some ⟨true,L1.map uu⟩,some ⟨true,L2.map uu⟩] (.c (.bool (decide (v < u)))) [some ⟨true,L1.map uu⟩,some ⟨true,L2.map uu⟩]:=by
 by_cases h:n=m
 ·subst h
  have hv:=h1.2.2.2.1
  have hu:=h2.2.2.2.1
  rcases be_loop o1 n c1 o2 c2 L1 L2 h1.1 h2.1 h1.2.1 h2.2.1 hn n (Nat.le_refl _) with hl | ⟨he,hl⟩
  ·rw [hv,hu] at hl
   exact be_fnR o1 n c1 o2 c2 _ _ _ (uu_flat L1) (uu_flat L2) hn hl.spec
  have:decide (v < u)=false:=by rw [← hv,← hu,he]; simp
  rw [this]
  exact be_fnE o1 n c1 o2 c2 _ _ (uu_flat L1) (uu_flat L2) hn hl.spec
 have e:decide (v < u)=decide (n < m):=by
  refine decide_eq_decide.2 ⟨fun hh=>?_,fun hh=>nm_len_lt h1 h2 hh⟩
  rcases Nat.lt_or_gt_of_ne h with h' | h'
  ·exact h'
  have:=nm_len_lt h2 h1 h'
  omega
 rw [e]
 exact be_fnN o1 n c1 o2 m c2 _ _ (uu_flat L1) (uu_flat L2) h
theorem sub_word {x y b:Nat} (hx:x < 18446744073709551616) (hy:y < 18446744073709551616) (hb:b≤1):(x+18446744073709551616 - y - b)%18446744073709551616+y+b=x+18446744073709551616*(if x < y+b then 1 else 0):=by
 split<;>omega
theorem mi_loop (o1 n c1 o2 m c2:Nat) (L2 post:List Nat) (w2:Wd L2) (hl2:o2+m≤L2.length) (hmn:m≤n) (hn:n < 1125899906842624):∀ (W pre:List Nat) (i bw:Nat),pre.length=o1+i→i+W.length=n→Wd W→bw≤1 →
 ∃ W' bo,W'.length=W.length∧Wd W' ∧ lw W' + lw (win L2 (o2+i) (m - i))+bw=lw W+18446744073709551616^W.length*bo ∧
   Rounds Tryd.prog (loopOf Tryd.f76 0) 0 (mS o1 n c1 o2 m c2 ((pre++(W++post)).map uu) (L2.map uu) i bw) .normal (mS o1 n c1 o2 m c2 ((pre++(W' ++ post)).map uu) (L2.map uu) n bo)
 | [],pre,i,bw,hp,hl,hw,hb=>by
   have hi:i=n:=by simpa using hl
   subst hi
   refine ⟨[],bw,rfl,hw,?_,.stop (mi_end o1 i c1 o2 m c2 bw _ _ (uu_flat _) (uu_flat _))⟩
   rw [show m - i=0 by omega]
   simp [win,lw]
 | x::r,pre,i,bw,hp,hl,hw,hb=>by
   have hlen:i+(r.length+1)=n:=by simpa using hl
   have hx:=at_mid (post:=r++post) (x:=x) hp
   have hx2:=hw x (by simp)
   obtain ⟨y, hy2, hyw, hstep⟩ : ∃ y, y < 18446744073709551616 ∧ lw (win L2 (o2 + i) (m - i)) = y + 18446744073709551616 * lw (win L2 (o2 + (i + 1)) (m - (i + 1))) ∧
    TSpec Tryd.prog (loopOf Tryd.f76 0) (mS o1 n c1 o2 m c2 ((pre++x::(r++post)).map uu) (L2.map uu) i bw) .normal (mS o1 n c1 o2 m c2 (((pre++x::(r++post)).map uu).set (o1+i) (uu ((x+18446744073709551616 - y - bw)%18446744073709551616))) (L2.map uu) (i+1) (if x < y+bw then 1 else 0)):=by
    have hbw:bw=0∨bw=1:=by omega
    by_cases him:i < m
    ·refine ⟨L2.getD (o2+i) 0,getD_lt w2 (by omega),?_,?_⟩
     ·rw [win_cons (by omega) (by omega),lw]
      rfl
     have hy:=uget (X:=L2) (i:=o2+i) (by omega)
     rcases hbw with rfl | rfl
     ·exact mi_y0 o1 n c1 o2 m c2 i x _ _ _ (uu_flat _) (uu_flat _) hn (by omega) hx him hy
     exact mi_y1 o1 n c1 o2 m c2 i x _ _ _ (uu_flat _) (uu_flat _) hn (by omega) hx him hy
    refine ⟨0,by omega,?_,?_⟩
    ·rw [show m - i=0 by omega,show m - (i+1)=0 by omega]
     simp [win,lw]
    rcases hbw with rfl | rfl
    ·exact mi_n0 o1 n c1 o2 m c2 i x _ _ _ (uu_flat _) (uu_flat _) hn (by omega) hx him rfl
    exact mi_n1 o1 n c1 o2 m c2 i x _ _ _ (uu_flat _) (uu_flat _) hn (by omega) hx him rfl
   have hD:=sub_word hx2 hy2 hb
   generalize hb':(if x < y+bw then 1 else 0)=b' at hD hstep
   have hb1:b' ≤ 1:=by rw [← hb']; split<;>omega
   generalize hd:(x+18446744073709551616 - y - bw)%18446744073709551616=D at hD hstep
   have hD2:D < 18446744073709551616:=by rw [← hd]; exact Nat.mod_lt _ (by decide)
   rw [set_mid hp] at hstep
   obtain ⟨W',bo,h1,h2,h3,h4⟩:=mi_loop o1 n c1 o2 m c2 L2 post w2 hl2 hmn hn r (pre++[D]) (i+1) b' (by simp; omega) (by omega) (fun z hz=>hw z (List.mem_cons_of_mem _ hz)) hb1
   refine ⟨D::W',bo,by simp [h1],fun z hz=>?_,?_,.step hstep (by simpa using h4)⟩
   ·rcases List.mem_cons.1 hz with rfl | hz
    ·exact hD2
    exact h2 z hz
   rw [hyw,lw,lw,List.length_cons,Nat.pow_succ,Nat.mul_comm (18446744073709551616^r.length),Nat.mul_assoc]
   generalize 18446744073709551616^r.length*bo=P at h3 ⊢
   omega
theorem minus_spec {L1 L2:List Nat} {o1 n c1 v o2 m c2 u:Nat} (h1:Nm L1 o1 n c1 v) (h2:Nm L2 o2 m c2 u) (hn:n < 1125899906842624) (huv:u≤v) :
 ∃ L' k,k≤n∧L'.length=L1.length∧Nm L' o1 k c1 (v - u)∧FSpec Tryd.prog 76 [.sl 0 o1 n c1,.sl 1 o2 m c2] [some ⟨true,L1.map uu⟩,some ⟨true,L2.map uu⟩] (.sl 0 o1 k c1) [some ⟨true,L'.map uu⟩,some ⟨true,L2.map uu⟩]:=by
 have hmn:m≤n:=by
  rcases Nat.lt_or_ge n m with h | h
  ·have:=nm_len_lt h1 h2 h
   omega
  exact h
 have hw:=h1.1
 have hl:=h1.2.1
 have hv:=h1.2.2.2.1
 have hu:=h2.2.2.2.1
 have hsp:=win_split L1 o1 n
 have htl:(L1.take o1).length=o1:=by simp; omega
 obtain ⟨W',bo,w1,w2,w3,w4⟩:=mi_loop o1 n c1 o2 m c2 L2 (L1.drop (o1+n)) h2.1 h2.2.1 hmn hn (win L1 o1 n) (L1.take o1) 0 0 (by omega) (by rw [win_len hl]; omega) (win_wd hw) (by omega)
 rw [← hsp] at w4
 rw [win_len hl] at w1 w3
 simp only [Nat.add_zero,Nat.sub_zero] at w3
 rw [hu,hv] at w3
 have hlt:=lw_lt w2
 rw [w1] at hlt
 have hbo:bo=0:=by
  rcases Nat.eq_zero_or_pos bo with h | h
  ·exact h
  have:=Nat.mul_le_mul_left (18446744073709551616^n) h
  omega
 rw [hbo,Nat.mul_zero] at w3
 have hwd:Wd (L1.take o1++(W' ++ L1.drop (o1+n))):=fun x hx=>by
  rcases List.mem_append.1 hx with hx | hx
  ·exact hw x (List.mem_of_mem_take hx)
  rcases List.mem_append.1 hx with hx | hx
  ·exact w2 x hx
  exact hw x (List.mem_of_mem_drop hx)
 have hlen:(L1.take o1++(W' ++ L1.drop (o1+n))).length=L1.length:=by
  simp [w1]; omega
 obtain ⟨k,k1,k2,k3⟩:=cut_nm true hwd (off:=o1) (n:=n) (c:=c1) (by omega) h1.2.2.1 hn
 have hwin:win (L1.take o1++(W' ++ L1.drop (o1+n))) o1 n=W':=by
  have:=win_mid (L1.take o1) W' (L1.drop (o1+n))
  rwa [htl,w1] at this
 rw [hwin] at k2
 have hval:lw W' = v - u:=by omega
 rw [hval] at k2
 refine ⟨_,k,k1,hlen,k2,?_⟩
 exact mi_fn o1 n c1 o2 m c2 k bo _ _ _ (uu_flat L1) (uu_flat L2) (uu_flat _) (FSpec.embed [0] k3 (by kernel_rfl) (by kernel_rfl) (uflat _ _) (uflat _ _)) w4.spec
end Go.Proofs.YtjefpjajkbldpaaDoor.G
end
section
namespace Go.Proofs.YtjefpjajkbldpaaDoor.G
open Go.Proofs.YtjefpjajkbldpaaDoor.U Go.RowKit Go.Proofs.YtjefpjajkbldpaaDoorW.PrintWords Go.Proofs.YtjefpjajkbldpaaDoorW.PrintLast Go.Proofs.YtjefpjajkbldpaaDoorW.PrintMore
theorem sval_bind' {α β:Type} {P:Program} {s:Sem α} {k:α→Sem β} {a:α} {r:Option β} (h:sval P s=some a) (h2:sval P (k a)=r):sval P (s >>= k)=r:=by rw [sval_bind h,h2]
theorem sv_index {P:Program} {t:List V} {m:List (Option U.Row)} {i j:Nat} {a:ByteArray} {k d:Nat} {dd:Option Tmp} {ty ty3:TypeId} {ps:String} {af:Array Edge} {g:Option (Nat × Bool)}
 (hi:t[i]? = some (.c (.string a))) (hj:t[j]? = some (.c (.int .i64 (k:Int)))) (hu:P.underlying ty=some .string) (hk:k < a.size) (hd:bt a (k:Int)=(d:Int)) :
 sval P (execOp (St.rho ⟨t,m⟩) { dst:=dd,op:=.index ty (.tmp i) (.tmp j),type:=ty3,pos:=ps,after:=af,guard:=g })=some (.value (.int .u8 (d:Int))):=by
 have h1:=rho_at (m:=m) hi
 have h2:=rho_at (m:=m) hj
 have hb:bt a (k:Int)=((a[k]'hk).toNat:Int):=by
  unfold bt
  simp [hk]
 rw [hb] at hd
 simp only [execOp,h1,h2,V.val,Instr.index]
 have hund:sval P (underlying ty)=some .string:=by
  unfold underlying
  refine sval_bind' (a:=P) rfl ?_
  rw [hu]
  rfl
 refine sval_bind' (a:=.int .u8 (d:Int)) ?_ rfl
 refine sval_bind' (a:=(IntKind.i64,(k:Int))) rfl ?_
 refine sval_bind' hund ?_
 have hg:(if 0≤(k:Int) then a[(k:Int).toNat]? else none)=some (a[k]'hk):=by
  rw [if_pos (by omega),Int.toNat_natCast]
  exact getElem?_pos a k hk
 simp only [hg]
 rw [hd]
 rfl
theorem p_0 {q:Nat}:V.p 0 (0+Int.toNat (q:Int)*1)=V.p 0 q:=by simp
theorem quo_8 {i q r:Nat} (he:i=8*q+r) (hr:r < 8) (hi:i < 1125899906842624):V.c (Value.int IntKind.i64 (IntKind.wrap IntKind.i64 (Int.tdiv (i:Int) 8)))=V.c (Value.int IntKind.i64 (q:Int)):=by
 congr 2
 rw [Int.tdiv_eq_ediv_of_nonneg (by omega),show ((i:Int)/8)=q by omega]
 simp [IntKind.wrap,IntKind.signed,IntKind.bits]; omega
theorem quo_n {n N:Nat} (he:N=(n+7)/8) (hi:n < 1125899906842624):V.c (Value.int IntKind.i64 (IntKind.wrap IntKind.i64 (Int.tdiv ((n+7:Nat):Int) 8)))=V.c (Value.int IntKind.i64 (N:Int)):=by
 congr 2
 rw [Int.tdiv_eq_ediv_of_nonneg (by omega),show (((n+7:Nat):Int)/8)=N by omega]
 simp [IntKind.wrap,IntKind.signed,IntKind.bits]; omega
theorem rem_8 {i q r:Nat} (he:i=8*q+r) (hr:r < 8):V.c (Value.int IntKind.i64 (Int.tmod (i:Int) 8))=V.c (Value.int IntKind.i64 (r:Int)):=by
 congr 2
 rw [Int.tmod_eq_emod_of_nonneg (by omega)]
 omega
theorem mul_8 {r:Nat} (hr:r < 8):V.c (Value.int IntKind.i64 (IntKind.wrap IntKind.i64 ((r:Int)*8)))=V.c (Value.int IntKind.i64 ((8*r:Nat):Int)):=by
 congr 2
 rw [show ((r:Int)*8)=((8*r:Nat):Int) by omega]
 simp [IntKind.wrap,IntKind.signed,IntKind.bits]; omega
theorem u8_u64 {d:Nat} (h:d < 256):V.c (Value.int IntKind.u64 (IntKind.wrap IntKind.u64 (d:Int)))=V.c (Value.int IntKind.u64 (d:Int)):=by
 congr 2
 rw [IntKind.wrap_u64]
 omega
theorem size_n {a:ByteArray} {n:Nat} (h:a.size=n):V.c (Value.int IntKind.i64 (a.size:Int))=V.c (Value.int IntKind.i64 (n:Int)):=by rw [h]
theorem byte_lt {x d r:Nat} (hr:r < 8) (hx:x < 2^(8*r)) (hd:d < 256):x+d*2^(8*r) < 2^(8*(r+1))∧2^(8*(r+1))≤18446744073709551616:=by
 constructor
 ·rw [Nat.mul_add,Nat.pow_add]
  have:=Nat.mul_le_mul_right (2^(8*r)) (show d+1≤256 by omega)
  rw [Nat.add_mul] at this
  omega
 exact Nat.pow_le_pow_right (n:=2) (by decide) (show 8*(r+1)≤64 by omega)
theorem or_byte {x d r:Nat} (hr:r < 8) (hx:x < 2^(8*r)) (hd:d < 256) :
 V.c (Value.int IntKind.u64 (IntKind.wrap IntKind.u64 ((BitVec.toNat (BitVec.ofInt (64:Nat) (x:Int) ||| BitVec.ofInt (64:Nat) ((d*2^(8*r)%18446744073709551616:Nat):Int)):Nat):Int)))=V.c (.int .u64 ((x+d*2^(8*r):Nat):Int)):=by
 obtain ⟨h1,h2⟩:=byte_lt hr hx hd
 rw [or_words (by omega) (Nat.mod_lt _ (by decide)),Nat.mod_eq_of_lt (by omega),or_apart hx]
def lS (a:ByteArray) (n N:Nat) (C:List V) (i:Nat):St:=⟨[.c (.string a),.any,.any,.sl 0 0 N N,.any,.any,.any,.any,.any,.any,.any,.c (.int .i64 (n:Nat)),.c (.int .i64 (i:Nat))]++List.replicate 23 .any,[some ⟨true,C⟩]⟩
theorem li_go (a:ByteArray) (n N i q r x d:Nat) (C:List V) (f1:∀ v:V,v∈C→v.isC=true) (hn:n < 1125899906842624) (hi:i < n) (ea:a.size=n) (hNq:q < N) (hr:r < 8) (he:i=8*q+r) (hx:C[q]? = some (uu x)) (hx2:x < 2^(8*r)) (hd:bt a ((n - 1 - i:Nat):Int)=(d:Int)) (hd2:d < 256):TSpec Tryd.prog (loopOf Tryd.f72 0) (lS a n N C i) (Ex.normal) (lS a n N (C.set q (uu (x+d*2^(8*r)))) (i+1)) :=
 tspec_dim (sc:=[(3,0,.is (.c (.bool true))),(5,2,.is (.c (.int .i64 (q:Nat)))),(5,3,.is (.p 0 q)),(5,4,.fix (.int .u64 (x:Nat))),(5,7,.is (.c (.int .i64 (n:Nat)))),(5,8,.is (.c (.int .i64 (n-1:Nat)))),(5,10,.is (.c (.int .i64 (n-1-i:Nat)))),(5,11,.fix (.int .u8 (d:Nat))),(5,12,.is (.c (.int .u64 (d:Nat)))),(5,14,.is (.c (.int .i64 (r:Nat)))),(5,15,.is (.c (.int .i64 (8*r:Nat)))),(5,16,.fix (.int .u64 (d*2^(8*r)%18446744073709551616:Nat))),(5,17,.is (.c (.int .u64 (x+d*2^(8*r):Nat)))),(5,18,.is (.p 0 q)),(5,19,.fix undef),(6,0,.is (.c (.int .i64 (i+1:Nat))))]) (sb:=[]) (obs:=[Ob.prop (V.c (Value.bool (decide ((↑i:Int) < (↑n:Int))))=vT),Ob.prop (vI (IntKind.wrap .i64 (Int.tdiv (↑i:Int) (8:Int)))=vI ↑q),Ob.prop (V.p 0 (0+Int.toNat (↑q:Int)*1)=V.p 0 q),Ob.prop ((0:Int)≤(↑q:Int)∧(↑q:Int) < (↑N:Int)),Ob.prop (C[q]? = some (vU ↑x)),Ob.prop (V.c (goInt (↑(ByteArray.size a):Int))=vI ↑n),Ob.prop (vI (IntKind.wrap .i64 ((↑n:Int) - (1:Int)))=vI (↑(n - 1):Int)),Ob.prop (vI (IntKind.wrap .i64 ((↑(n - 1):Int) - (↑i:Int)))=vI (↑(n - 1 - i):Int)),Ob.val (execOp (St.rho ⟨(slots 26 0 [(20,V.c (Value.string a)),(25,vI (↑(n - 1 - i):Int))]),[]⟩) { dst:=some 26,op:=Op.index 9 (Operand.tmp 20) (Operand.tmp 25),type:=5,pos := "gcd.go:9",after:={ toList:=[{ on:=5,ground:=Ground.data },{ on:=10,ground:=Ground.data }] },guard:=none }) (Value.int IntKind.u8 (↑d:Int)),Ob.prop (vU (IntKind.wrap .u64 (↑d:Int))=vU ↑d),Ob.prop (vI (Int.tmod (↑i:Int) (8:Int))=vI ↑r),Ob.prop (vI (IntKind.wrap .i64 ((↑r:Int)*(8:Int)))=vI (↑(8*r):Int)),Ob.val (execOp (St.rho ⟨(slots 31 0 [(27,vU ↑d),(30,vI (↑(8*r):Int))]),[]⟩) { dst:=some 31,op:=Op.binOp BinOp.shl 70 (Operand.tmp 27) (Operand.tmp 30) 3,type:=70,pos := "gcd.go:9",after:={ toList:=[{ on:=12,ground:=Ground.data },{ on:=15,ground:=Ground.data }] },guard:=none }) (Value.int IntKind.u64 (↑(d*(2:Nat)^(8*r)%18446744073709551616):Int)),Ob.prop (vU (IntKind.wrap .u64 (↑(BitVec.toNat (BitVec.ofInt 64 (↑x:Int) ||| BitVec.ofInt 64 (↑(d*(2:Nat)^(8*r)%18446744073709551616):Int))):Int))=vU (↑(x+d*(2:Nat)^(8*r)):Int)),Ob.prop (V.p 0 (0+Int.toNat (↑q:Int)*1)=V.p 0 q),Ob.prop ((0:Int)≤(↑q:Int)∧(↑q:Int) < (↑N:Int)),Ob.prop (q+List.length [vU (↑(x+d*(2:Nat)^(8*r)):Int)]≤List.length C),Ob.prop (vI (IntKind.wrap .i64 ((↑i:Int)+(1:Int)))=vI (↑(i+1):Int))]) ([true,false,false,true]++List.replicate 7 false++[true,true]) 1 (by kernel_rfl) (hP zV (hP (quo_8 he hr (by omega)) (hP p_0 (hP zV (hP hx (hP (size_n ea) (hP zV (hP zV (hV (sv_index rfl rfl (by kernel_rfl) (by omega) hd) (hP (u8_u64 hd2) (hP (rem_8 he hr) (hP (mul_8 hr) (hV (sv_shl (by omega) rfl rfl) (hP (or_byte hr hx2 hd2) (hP p_0 (hP zV (hP (len_of hx) (hP zV hN)))))))))))))))))) ⟨flat_set rfl f1,trivial⟩
theorem li_end (a:ByteArray) (n N:Nat) (C:List V) (f1:∀ v:V,v∈C→v.isC=true):TSpec Tryd.prog (loopOf Tryd.f72 0) (lS a n N C n) (Ex.exit 0) (lS a n N C n) :=
 tspec_dim (sc:=[(3,0,.is (.c (.bool false)))]) (sb:=[]) (obs:=[Ob.prop (V.c (Value.bool (decide ((↑n:Int) < (↑n:Int))))=vF)]) ([true,false,false,true]++List.replicate 7 false++[true,true]) 1 (by kernel_rfl) (hP zV hN) ⟨f1,trivial⟩
theorem li_fn (a:ByteArray) (n N:Nat) (C:List V) (f1:∀ v:V,v∈C→v.isC=true) (hn:n < 17592186044416) (ea:a.size=n) (hNn:N=(n+7)/8) (h:TSpec Tryd.prog (.block 0 (.loop (loopOf Tryd.f72 0))) (lS a n N (List.replicate N (.c (.int .u64 0))) 0) .normal (lS a n N C n)):FSpec Tryd.prog 72 [.c (.string a)] [] (V.sl 0 0 N N) [some ⟨true,C⟩] :=
 fspec_ok Tryd.func72 (sc:=[(1,1,.is (.c (.int .i64 (n:Nat)))),(1,2,.is (.c (.int .i64 (n+7:Nat)))),(1,3,.is (.c (.int .i64 (N:Nat)))),(2,1,.is (.c (.int .i64 (n:Nat))))]) (sb:=[(0,.normal,lS a n N C n)]) (keep:=[0]) (obs:=[Ob.prop (Flat ([some ⟨true,C⟩]:List (Option Row))),Ob.prop (V.c (goInt (↑(ByteArray.size a):Int))=vI ↑n),Ob.prop (vI (IntKind.wrap .i64 ((↑n:Int)+(7:Int)))=vI (↑(n+7):Int)),Ob.prop (vI (IntKind.wrap .i64 (Int.tdiv (↑(n+7):Int) (8:Int)))=vI ↑N),Ob.prop ((0:Int)≤(↑N:Int)∧(↑N:Int)≤(↑N:Int)∧(↑8:Int)*(↑N:Int)≤(281474976710656:Int)∧(↑N:Int) < (9223372036854775808:Int)),Ob.prop (V.c (goInt (↑(ByteArray.size a):Int))=vI ↑n),Ob.prop (TSpec Tryd.prog (Code.block 0 (Code.loop (loopOf Tryd.f72 0))) ({ t:=[V.c (Value.string a),V.c (Value.tuple { toList:=[] }),V.c (Value.slice none 0 0),V.sl 0 0 (Int.toNat (↑N:Int)) (Int.toNat (↑N:Int)),V.c (Value.tuple { toList:=[] }),V.c (Value.string a),vI ↑n,vI (↑(n+7):Int),vI ↑N,V.sl 0 0 (Int.toNat (↑N:Int)) (Int.toNat (↑N:Int)),V.c (Value.string a),vI ↑n,vI (0:Int),V.c (Value.tuple { toList:=[] }),V.c (Value.tuple { toList:=[] }),V.c (Value.tuple { toList:=[] }),V.c (Value.tuple { toList:=[] }),V.c (Value.tuple { toList:=[] }),V.c (Value.tuple { toList:=[] }),V.c (Value.tuple { toList:=[] }),V.c (Value.tuple { toList:=[] }),V.c (Value.tuple { toList:=[] }),V.c (Value.tuple { toList:=[] }),V.c (Value.tuple { toList:=[] }),V.c (Value.tuple { toList:=[] }),V.c (Value.tuple { toList:=[] }),V.c (Value.tuple { toList:=[] }),V.c (Value.tuple { toList:=[] }),V.c (Value.tuple { toList:=[] }),V.c (Value.tuple { toList:=[] }),V.c (Value.tuple { toList:=[] }),V.c (Value.tuple { toList:=[] }),V.c (Value.tuple { toList:=[] }),V.c (Value.tuple { toList:=[] }),V.c (Value.tuple { toList:=[] }),V.c (Value.tuple { toList:=[] })],m:=[some { own:=true,cells:=List.replicate (Int.toNat (↑N:Int)) (vU (0:Int)) }] }) (Ex.normal) (lS a n N C n)) ]) (by kernel_rfl) (hP ⟨f1,trivial⟩ (hP (size_n ea) (hP zV (hP (quo_n hNn (by omega)) (hP zV (hP (size_n ea) (hP (TSpec.from ([true,false,false,true]++List.replicate 7 false++[true,true]) h (by kernel_rfl) (by kernel_rfl) ⟨fun v hv=>by rw [List.eq_of_mem_replicate hv]; rfl,trivial⟩) hN)))))))
theorem getD_lw:∀ {L:List Nat} {q:Nat},Wd L→q < L.length→L.getD q 0=lw L/18446744073709551616^q%18446744073709551616
 | [],q,_,h=>by simp at h
 | x::r,0,hw,_=>by
   have:=hw x (by simp)
   simp only [List.getD_cons_zero,lw,Nat.pow_zero,Nat.div_one]
   omega
 | x::r,q+1,hw,h=>by
   have hx:=hw x (by simp)
   have ih:=getD_lw (L:=r) (q:=q) (fun y hy=>hw y (List.mem_cons_of_mem _ hy)) (by simpa using h)
   simp only [List.getD_cons_succ,lw]
   rw [ih,Nat.pow_succ,Nat.mul_comm (18446744073709551616^q),← Nat.div_div_eq_div_mul,show (x+18446744073709551616*lw r)/18446744073709551616=lw r by omega]
theorem lw_set:∀ {L:List Nat} {q y:Nat},q < L.length→lw (L.set q y)+18446744073709551616^q*L.getD q 0=lw L+18446744073709551616^q*y
 | [],q,y,h=>by simp at h
 | x::r,0,y,_=>by simp [lw]; omega
 | x::r,q+1,y,h=>by
   have ih:=lw_set (L:=r) (q:=q) (y:=y) (by simpa using h)
   simp only [List.set_cons_succ,List.getD_cons_succ,lw,Nat.pow_succ,Nat.mul_comm (18446744073709551616^q) 18446744073709551616,Nat.mul_assoc]
   omega
theorem wd_set {L:List Nat} {q y:Nat} (h:Wd L) (hy:y < 18446744073709551616):Wd (L.set q y):=fun x hx=>by
 rcases List.mem_or_eq_of_mem_set hx with h1 | rfl
 ·exact h x h1
 exact hy
theorem bt_nat (a:ByteArray) (k:Int):∃ d:Nat,bt a k=(d:Int)∧d < 256:=by
 unfold bt
 split
 ·rename_i h
  exact ⟨_,rfl,UInt8.toNat_lt _⟩
 exact ⟨0,rfl,by omega⟩
theorem bt_natN (a:ByteArray) (k:Nat):∃ d:Nat,bt a (k:Int)=(d:Int)∧d < 256:=by
 rcases Nat.lt_or_ge k a.size with h | h
 ·exact ⟨(a[k]'h).toNat,by unfold bt; simp [h],UInt8.toNat_lt _⟩
 exact ⟨0,by unfold bt; simp; omega,by omega⟩
theorem li_loop (a:ByteArray) (n N:Nat) (ea:a.size=n) (hn:n < 1125899906842624) (hN:N=(n+7)/8):∀ (rem i:Nat) (L:List Nat),rem=n - i→i≤n→L.length=N→Wd L→lw L=M.be (a.data.toList.drop (n - i)) →
 ∃ L',L'.length=N∧Wd L' ∧ lw L' = M.V a∧Rounds Tryd.prog (loopOf Tryd.f72 0) 0 (lS a n N (L.map uu) i) .normal (lS a n N (L'.map uu) n)
 | 0,i,L,hr,hi,hl,hw,hv=>by
   have:i=n:=by omega
   subst this
   refine ⟨L,hl,hw,?_,.stop (li_end a i N _ (uu_flat _))⟩
   rw [hv,Nat.sub_self,List.drop_zero]
   rfl
 | rem+1,i,L,hr,hi,hl,hw,hv=>by
   have hq:i/8 < N:=by omega
   have hr8:i%8 < 8:=Nat.mod_lt _ (by decide)
   have he:i=8*(i/8)+i%8:=by omega
   have hlow:lw L < 18446744073709551616^(i/8)*2^(8*(i%8)):=by
    rw [hv,show (18446744073709551616:Nat)=2^64 by decide,← Nat.pow_mul,← Nat.pow_add,show 64*(i/8)+8*(i%8)=8*i by omega,Nat.pow_mul]
    have:=M.be_lt (a.data.toList.drop (n - i))
    rwa [List.length_drop,M.size_toList,ea,show n - (n - i)=i by omega] at this
   have hx2:L.getD (i/8) 0 < 2^(8*(i%8)):=by
    rw [getD_lw hw (by omega)]
    exact Nat.lt_of_le_of_lt (Nat.mod_le _ _) (Nat.div_lt_of_lt_mul hlow)
   obtain ⟨d,hd,hd2⟩:=bt_natN a (n - 1 - i)
   obtain ⟨hb1,hb2⟩:=byte_lt hr8 hx2 hd2
   have hstep:=li_go a n N i (i/8) (i%8) _ d _ (uu_flat L) hn (by omega) ea hq hr8 he (uget (by omega)) hx2 hd hd2
   have hset:(L.map uu).set (i/8) (uu (L.getD (i/8) 0+d*2^(8*(i%8))))=(L.set (i/8) (L.getD (i/8) 0+d*2^(8*(i%8)))).map uu:=by rw [List.map_set]
   rw [hset] at hstep
   have hlen:(L.set (i/8) (L.getD (i/8) 0+d*2^(8*(i%8)))).length=N:=by simp [hl]
   have hval:lw (L.set (i/8) (L.getD (i/8) 0+d*2^(8*(i%8))))=M.be (a.data.toList.drop (n - (i+1))):=by
    have h1:=lw_set (L:=L) (q:=i/8) (y:=L.getD (i/8) 0+d*2^(8*(i%8))) (by omega)
    have h2:=SA.be_drop_pred a i (by omega)
    rw [ea,hd,← hv] at h2
    have h3:M.be (a.data.toList.drop (n - (i+1)))=d*256^i+lw L:=by exact_mod_cast h2
    have h4:256^i=18446744073709551616^(i/8)*2^(8*(i%8)):=by
     rw [show (18446744073709551616:Nat)=2^64 by decide,← Nat.pow_mul,← Nat.pow_add,show 64*(i/8)+8*(i%8)=8*i by omega,Nat.pow_mul]
    rw [h3,h4]
    rw [Nat.mul_add] at h1
    have h5:d*(18446744073709551616^(i/8)*2^(8*(i%8)))=18446744073709551616^(i/8)*(d*2^(8*(i%8))):=by rw [Nat.mul_left_comm]
    rw [h5]
    omega
   obtain ⟨L',h1,h2,h3,h4⟩:=li_loop a n N ea hn hN rem (i+1) _ (by omega) (by omega) hlen (wd_set hw (by omega)) hval
   exact ⟨L',h1,h2,h3,.step hstep h4⟩
theorem limbs_spec (a:ByteArray) (hn:a.size < 17592186044416) (hc:M.B (M.V a)=a) :
 ∃ L,L.length=(a.size+7)/8∧Nm L 0 ((a.size+7)/8) ((a.size+7)/8) (M.V a)∧FSpec Tryd.prog 72 [.c (.string a)] [] (.sl 0 0 ((a.size+7)/8) ((a.size+7)/8)) [some ⟨true,L.map uu⟩]:=by
 obtain ⟨L,h1,h2,h3,h4⟩:=li_loop a a.size ((a.size+7)/8) rfl (by omega) rfl a.size 0 (List.replicate ((a.size+7)/8) 0) (by omega) (by omega) (by simp) (fun x hx=>by rw [List.eq_of_mem_replicate hx]; decide) (by
  rw [Nat.sub_zero,List.drop_of_length_le (by rw [M.size_toList]; exact Nat.le_refl _)]
  have:∀ k,lw (List.replicate k 0)=0:=fun k=>by
   induction k with
   | zero=>rfl
   | succ k ih=>rw [List.replicate_succ,lw,ih]
  rw [this]
  rfl)
 have hrep:(List.replicate ((a.size+7)/8) 0).map uu=List.replicate ((a.size+7)/8) (V.c (.int .u64 0)):=by
  rw [List.map_replicate]
  rfl
 rw [hrep] at h4
 refine ⟨L,h1,⟨h2,by omega,Nat.le_refl _,?_,?_⟩,li_fn a a.size _ _ (uu_flat L) hn rfl rfl h4.spec⟩
 ·rw [← h3]
  unfold win
  rw [List.drop_zero,← h1,List.take_length]
 rcases Nat.eq_zero_or_pos a.size with h | h
 ·exact .inl (by omega)
 refine .inr ?_
 have hv:¬ M.V a < 256^(a.size - 1):=fun hh=>by
  have:=M.size_B_le hh
  rw [hc] at this
  omega
 have hp:=Nat.pow_le_pow_right (n:=256) (by decide) (show 8*((a.size+7)/8 - 1)≤a.size - 1 by omega)
 rw [show (18446744073709551616:Nat)=256^8 by decide,← Nat.pow_mul]
 omega
end Go.Proofs.YtjefpjajkbldpaaDoor.G
end
section
namespace Go.Proofs.YtjefpjajkbldpaaDoor.G
open Go.Proofs.YtjefpjajkbldpaaDoor.U
def ii (n:Nat):V:=.c (.int .i64 (n:Int))
def hSf (o1 n1 c1 o2 n2 c2 tn tm:Nat) (X Y:List V):St:=⟨slots 117 0 [(5,.sl 0 o1 n1 c1),(6,.sl 1 o2 n2 c2),(7,ii tn),(8,ii tm)],[some ⟨true,X⟩,some ⟨true,Y⟩]⟩
def hSt (o1 n1 c1 o2 n2 c2 tn tm:Nat) (X Y:List V):St:=⟨slots 117 0 [(5,.sl 1 o1 n1 c1),(6,.sl 0 o2 n2 c2),(7,ii tn),(8,ii tm)],[some ⟨true,Y⟩,some ⟨true,X⟩]⟩
theorem ha_zf (o1 n1 c1 o2 n2 c2 tn tm:Nat) (X Y:List V) (Z:List V) (h1:1 < n1) (f0:∀ v:V,v∈X→v.isC=true) (f1:∀ v:V,v∈Y→v.isC=true) (f2:∀ v:V,v∈Z→v.isC=true) (hb:FSpec Tryd.prog 75 [.sl 0 o1 n1 c1,.sl 1 o2 n2 c2] [some ⟨true,X⟩,some ⟨true,Y⟩] (.c (.bool false)) [some ⟨true,X⟩,some ⟨true,Y⟩]) (hm:FSpec Tryd.prog 76 [.sl 0 o1 n1 c1,.sl 1 o2 n2 c2] [some ⟨true,X⟩,some ⟨true,Y⟩] (.sl 0 o1 0 c1) [some ⟨true,Z⟩,some ⟨true,Y⟩]):TSpec Tryd.prog (loopOf Tryd.f68 0) (hSf o1 n1 c1 o2 n2 c2 tn tm X Y) (Ex.exit 0) (hSf o1 0 c1 o2 n2 c2 tn tm Z Y) :=
 tspec_dim (sc:=[(4,2,.is (.c (.bool true))),(5,2,.call (.c (.bool false)) [some ⟨true,X⟩,some ⟨true,Y⟩]),(7,2,.call (.sl 0 o1 0 c1) [some ⟨true,Z⟩,some ⟨true,Y⟩])]) (sb:=[]) (obs:=[Ob.prop (V.c (Value.bool (decide ((↑n1:Int) > (1:Int))))=vT),Ob.fcall 75 [V.sl 0 o1 n1 c1,V.sl 1 o2 n2 c2] [some { own:=true,cells:=X },some { own:=true,cells:=Y }] (vF) [some { own:=true,cells:=X },some { own:=true,cells:=Y }],Ob.fcall 76 [V.sl 0 o1 n1 c1,V.sl 1 o2 n2 c2] [some { own:=true,cells:=X },some { own:=true,cells:=Y }] (V.sl 0 o1 0 c1) [some { own:=true,cells:=Z },some { own:=true,cells:=Y }]]) (mask 117 0 [5,6,7,8]) 2 (by kernel_rfl) (hP zV (hF hb (hF hm hN))) ⟨f2,f1,trivial⟩
theorem ha_nf (o1 n1 c1 o2 n2 c2 tn tm:Nat) (X Y:List V) (Z W:List V) (k t o' n' c':Nat) (h1:1 < n1) (hk:0 < k) (f0:∀ v:V,v∈X→v.isC=true) (f1:∀ v:V,v∈Y→v.isC=true) (f2:∀ v:V,v∈Z→v.isC=true) (f3:∀ v:V,v∈W→v.isC=true) (hb:FSpec Tryd.prog 75 [.sl 0 o1 n1 c1,.sl 1 o2 n2 c2] [some ⟨true,X⟩,some ⟨true,Y⟩] (.c (.bool false)) [some ⟨true,X⟩,some ⟨true,Y⟩]) (hm:FSpec Tryd.prog 76 [.sl 0 o1 n1 c1,.sl 1 o2 n2 c2] [some ⟨true,X⟩,some ⟨true,Y⟩] (.sl 0 o1 k c1) [some ⟨true,Z⟩,some ⟨true,Y⟩]) (he:FSpec Tryd.prog 73 [.sl 0 o1 k c1] [some ⟨true,Z⟩,some ⟨true,Y⟩] (ii t) [some ⟨true,Z⟩,some ⟨true,Y⟩]) (hr:FSpec Tryd.prog 74 [.sl 0 o1 k c1,ii t] [some ⟨true,Z⟩,some ⟨true,Y⟩] (.sl 0 o' n' c') [some ⟨true,W⟩,some ⟨true,Y⟩]):TSpec Tryd.prog (loopOf Tryd.f68 0) (hSf o1 n1 c1 o2 n2 c2 tn tm X Y) (Ex.normal) (hSf o' n' c' o2 n2 c2 tn tm W Y) :=
 tspec_dim (sc:=[(4,2,.is (.c (.bool true))),(5,2,.call (.c (.bool false)) [some ⟨true,X⟩,some ⟨true,Y⟩]),(7,2,.call (.sl 0 o1 k c1) [some ⟨true,Z⟩,some ⟨true,Y⟩]),(8,2,.is (.c (.bool false))),(9,2,.call (ii t) [some ⟨true,Z⟩,some ⟨true,Y⟩]),(9,3,.call (.sl 0 o' n' c') [some ⟨true,W⟩,some ⟨true,Y⟩])]) (sb:=[]) (obs:=[Ob.prop (V.c (Value.bool (decide ((↑n1:Int) > (1:Int))))=vT),Ob.fcall 75 [V.sl 0 o1 n1 c1,V.sl 1 o2 n2 c2] [some { own:=true,cells:=X },some { own:=true,cells:=Y }] (vF) [some { own:=true,cells:=X },some { own:=true,cells:=Y }],Ob.fcall 76 [V.sl 0 o1 n1 c1,V.sl 1 o2 n2 c2] [some { own:=true,cells:=X },some { own:=true,cells:=Y }] (V.sl 0 o1 k c1) [some { own:=true,cells:=Z },some { own:=true,cells:=Y }],Ob.prop (V.c (Value.bool ((↑k:Int)==(0:Int)))=vF),Ob.fcall 73 [V.sl 0 o1 k c1] [some { own:=true,cells:=Z },some { own:=true,cells:=Y }] (vI ↑t) [some { own:=true,cells:=Z },some { own:=true,cells:=Y }],Ob.fcall 74 [V.sl 0 o1 k c1,vI ↑t] [some { own:=true,cells:=Z },some { own:=true,cells:=Y }] (V.sl 0 o' n' c') [some { own:=true,cells:=W },some { own:=true,cells:=Y }]]) (mask 117 0 [5,6,7,8]) 2 (by kernel_rfl) (hP zV (hF hb (hF hm (hP zV (hF he (hF hr hN)))))) ⟨f3,f1,trivial⟩
theorem ha_sAf (o1 n1 c1 o2 n2 c2 tn tm:Nat) (X Y:List V) (Z W:List V) (k t o' n' c':Nat) (h1:1 < n1) (hk:0 < k) (f0:∀ v:V,v∈X→v.isC=true) (f1:∀ v:V,v∈Y→v.isC=true) (f2:∀ v:V,v∈Z→v.isC=true) (f3:∀ v:V,v∈W→v.isC=true) (hb:FSpec Tryd.prog 75 [.sl 0 o1 n1 c1,.sl 1 o2 n2 c2] [some ⟨true,X⟩,some ⟨true,Y⟩] (.c (.bool true)) [some ⟨true,X⟩,some ⟨true,Y⟩]) (hm:FSpec Tryd.prog 76 [.sl 1 o2 n2 c2,.sl 0 o1 n1 c1] [some ⟨true,X⟩,some ⟨true,Y⟩] (.sl 1 o2 k c2) [some ⟨true,X⟩,some ⟨true,Z⟩]) (he:FSpec Tryd.prog 73 [.sl 1 o2 k c2] [some ⟨true,X⟩,some ⟨true,Z⟩] (ii t) [some ⟨true,X⟩,some ⟨true,Z⟩]) (hr:FSpec Tryd.prog 74 [.sl 1 o2 k c2,ii t] [some ⟨true,X⟩,some ⟨true,Z⟩] (.sl 1 o' n' c') [some ⟨true,X⟩,some ⟨true,W⟩]):TSpec Tryd.prog (loopOf Tryd.f68 0) (hSf o1 n1 c1 o2 n2 c2 tn tm X Y) (Ex.normal) (hSt o' n' c' o1 n1 c1 tn tm W X) :=
 tspec_dim (sc:=[(4,2,.is (.c (.bool true))),(5,2,.call (.c (.bool true)) [some ⟨true,X⟩,some ⟨true,Y⟩]),(7,2,.call (.sl 1 o2 k c2) [some ⟨true,X⟩,some ⟨true,Z⟩]),(8,2,.is (.c (.bool false))),(9,2,.call (ii t) [some ⟨true,X⟩,some ⟨true,Z⟩]),(9,3,.call (.sl 1 o' n' c') [some ⟨true,X⟩,some ⟨true,W⟩])]) (sb:=[]) (obs:=[Ob.prop (V.c (Value.bool (decide ((↑n1:Int) > (1:Int))))=vT),Ob.fcall 75 [V.sl 0 o1 n1 c1,V.sl 1 o2 n2 c2] [some { own:=true,cells:=X },some { own:=true,cells:=Y }] (vT) [some { own:=true,cells:=X },some { own:=true,cells:=Y }],Ob.fcall 76 [V.sl 1 o2 n2 c2,V.sl 0 o1 n1 c1] [some { own:=true,cells:=X },some { own:=true,cells:=Y }] (V.sl 1 o2 k c2) [some { own:=true,cells:=X },some { own:=true,cells:=Z }],Ob.prop (V.c (Value.bool ((↑k:Int)==(0:Int)))=vF),Ob.fcall 73 [V.sl 1 o2 k c2] [some { own:=true,cells:=X },some { own:=true,cells:=Z }] (vI ↑t) [some { own:=true,cells:=X },some { own:=true,cells:=Z }],Ob.fcall 74 [V.sl 1 o2 k c2,vI ↑t] [some { own:=true,cells:=X },some { own:=true,cells:=Z }] (V.sl 1 o' n' c') [some { own:=true,cells:=X },some { own:=true,cells:=W }]]) (mask 117 0 [5,6,7,8]) 2 (by kernel_rfl) (hP zV (hF hb (hF hm (hP zV (hF he (hF hr hN)))))) ⟨f0,f3,trivial⟩
theorem ha_sBf (o1 n1 c1 o2 n2 c2 tn tm:Nat) (X Y:List V) (Z W:List V) (k t o' n' c':Nat) (h1:n1=1) (h2:1 < n2) (hk:0 < k) (f0:∀ v:V,v∈X→v.isC=true) (f1:∀ v:V,v∈Y→v.isC=true) (f2:∀ v:V,v∈Z→v.isC=true) (f3:∀ v:V,v∈W→v.isC=true) (hb:FSpec Tryd.prog 75 [.sl 0 o1 n1 c1,.sl 1 o2 n2 c2] [some ⟨true,X⟩,some ⟨true,Y⟩] (.c (.bool true)) [some ⟨true,X⟩,some ⟨true,Y⟩]) (hm:FSpec Tryd.prog 76 [.sl 1 o2 n2 c2,.sl 0 o1 n1 c1] [some ⟨true,X⟩,some ⟨true,Y⟩] (.sl 1 o2 k c2) [some ⟨true,X⟩,some ⟨true,Z⟩]) (he:FSpec Tryd.prog 73 [.sl 1 o2 k c2] [some ⟨true,X⟩,some ⟨true,Z⟩] (ii t) [some ⟨true,X⟩,some ⟨true,Z⟩]) (hr:FSpec Tryd.prog 74 [.sl 1 o2 k c2,ii t] [some ⟨true,X⟩,some ⟨true,Z⟩] (.sl 1 o' n' c') [some ⟨true,X⟩,some ⟨true,W⟩]):TSpec Tryd.prog (loopOf Tryd.f68 0) (hSf o1 n1 c1 o2 n2 c2 tn tm X Y) (Ex.normal) (hSt o' n' c' o1 n1 c1 tn tm W X) :=
 tspec_dim (sc:=[(4,2,.is (.c (.bool false))),(4,6,.is (.c (.bool true))),(5,2,.call (.c (.bool true)) [some ⟨true,X⟩,some ⟨true,Y⟩]),(7,2,.call (.sl 1 o2 k c2) [some ⟨true,X⟩,some ⟨true,Z⟩]),(8,2,.is (.c (.bool false))),(9,2,.call (ii t) [some ⟨true,X⟩,some ⟨true,Z⟩]),(9,3,.call (.sl 1 o' n' c') [some ⟨true,X⟩,some ⟨true,W⟩])]) (sb:=[]) (obs:=[Ob.prop (V.c (Value.bool (decide ((↑n1:Int) > (1:Int))))=vF),Ob.prop (V.c (Value.bool (decide ((↑n2:Int) > (1:Int))))=vT),Ob.fcall 75 [V.sl 0 o1 n1 c1,V.sl 1 o2 n2 c2] [some { own:=true,cells:=X },some { own:=true,cells:=Y }] (vT) [some { own:=true,cells:=X },some { own:=true,cells:=Y }],Ob.fcall 76 [V.sl 1 o2 n2 c2,V.sl 0 o1 n1 c1] [some { own:=true,cells:=X },some { own:=true,cells:=Y }] (V.sl 1 o2 k c2) [some { own:=true,cells:=X },some { own:=true,cells:=Z }],Ob.prop (V.c (Value.bool ((↑k:Int)==(0:Int)))=vF),Ob.fcall 73 [V.sl 1 o2 k c2] [some { own:=true,cells:=X },some { own:=true,cells:=Z }] (vI ↑t) [some { own:=true,cells:=X },some { own:=true,cells:=Z }],Ob.fcall 74 [V.sl 1 o2 k c2,vI ↑t] [some { own:=true,cells:=X },some { own:=true,cells:=Z }] (V.sl 1 o' n' c') [some { own:=true,cells:=X },some { own:=true,cells:=W }]]) (mask 117 0 [5,6,7,8]) 2 (by kernel_rfl) (hP zV (hP zV (hF hb (hF hm (hP zV (hF he (hF hr hN))))))) ⟨f0,f3,trivial⟩
theorem ha_ef (o1 n1 c1 o2 n2 c2 tn tm:Nat) (X Y:List V) (h1:n1=1) (h2:n2=1) (f0:∀ v:V,v∈X→v.isC=true) (f1:∀ v:V,v∈Y→v.isC=true):TSpec Tryd.prog (loopOf Tryd.f68 0) (hSf o1 n1 c1 o2 n2 c2 tn tm X Y) (Ex.exit 0) (hSf o1 n1 c1 o2 n2 c2 tn tm X Y) :=
 tspec_dim (sc:=[(4,2,.is (.c (.bool false))),(4,6,.is (.c (.bool false)))]) (sb:=[]) (obs:=[Ob.prop (V.c (Value.bool (decide ((↑n1:Int) > (1:Int))))=vF),Ob.prop (V.c (Value.bool (decide ((↑n2:Int) > (1:Int))))=vF)]) (mask 117 0 [5,6,7,8]) 2 (by kernel_rfl) (hP zV (hP zV hN)) ⟨f0,f1,trivial⟩
theorem ha_zt (o1 n1 c1 o2 n2 c2 tn tm:Nat) (X Y:List V) (Z:List V) (h1:1 < n1) (f0:∀ v:V,v∈X→v.isC=true) (f1:∀ v:V,v∈Y→v.isC=true) (f2:∀ v:V,v∈Z→v.isC=true) (hb:FSpec Tryd.prog 75 [.sl 1 o1 n1 c1,.sl 0 o2 n2 c2] [some ⟨true,Y⟩,some ⟨true,X⟩] (.c (.bool false)) [some ⟨true,Y⟩,some ⟨true,X⟩]) (hm:FSpec Tryd.prog 76 [.sl 1 o1 n1 c1,.sl 0 o2 n2 c2] [some ⟨true,Y⟩,some ⟨true,X⟩] (.sl 1 o1 0 c1) [some ⟨true,Y⟩,some ⟨true,Z⟩]):TSpec Tryd.prog (loopOf Tryd.f68 0) (hSt o1 n1 c1 o2 n2 c2 tn tm X Y) (Ex.exit 0) (hSt o1 0 c1 o2 n2 c2 tn tm Z Y) :=
 tspec_dim (sc:=[(4,2,.is (.c (.bool true))),(5,2,.call (.c (.bool false)) [some ⟨true,Y⟩,some ⟨true,X⟩]),(7,2,.call (.sl 1 o1 0 c1) [some ⟨true,Y⟩,some ⟨true,Z⟩])]) (sb:=[]) (obs:=[Ob.prop (V.c (Value.bool (decide ((↑n1:Int) > (1:Int))))=vT),Ob.fcall 75 [V.sl 1 o1 n1 c1,V.sl 0 o2 n2 c2] [some { own:=true,cells:=Y },some { own:=true,cells:=X }] (vF) [some { own:=true,cells:=Y },some { own:=true,cells:=X }],Ob.fcall 76 [V.sl 1 o1 n1 c1,V.sl 0 o2 n2 c2] [some { own:=true,cells:=Y },some { own:=true,cells:=X }] (V.sl 1 o1 0 c1) [some { own:=true,cells:=Y },some { own:=true,cells:=Z }]]) (mask 117 0 [5,6,7,8]) 2 (by kernel_rfl) (hP zV (hF hb (hF hm hN))) ⟨f1,f2,trivial⟩
theorem ha_nt (o1 n1 c1 o2 n2 c2 tn tm:Nat) (X Y:List V) (Z W:List V) (k t o' n' c':Nat) (h1:1 < n1) (hk:0 < k) (f0:∀ v:V,v∈X→v.isC=true) (f1:∀ v:V,v∈Y→v.isC=true) (f2:∀ v:V,v∈Z→v.isC=true) (f3:∀ v:V,v∈W→v.isC=true) (hb:FSpec Tryd.prog 75 [.sl 1 o1 n1 c1,.sl 0 o2 n2 c2] [some ⟨true,Y⟩,some ⟨true,X⟩] (.c (.bool false)) [some ⟨true,Y⟩,some ⟨true,X⟩]) (hm:FSpec Tryd.prog 76 [.sl 1 o1 n1 c1,.sl 0 o2 n2 c2] [some ⟨true,Y⟩,some ⟨true,X⟩] (.sl 1 o1 k c1) [some ⟨true,Y⟩,some ⟨true,Z⟩]) (he:FSpec Tryd.prog 73 [.sl 1 o1 k c1] [some ⟨true,Y⟩,some ⟨true,Z⟩] (ii t) [some ⟨true,Y⟩,some ⟨true,Z⟩]) (hr:FSpec Tryd.prog 74 [.sl 1 o1 k c1,ii t] [some ⟨true,Y⟩,some ⟨true,Z⟩] (.sl 1 o' n' c') [some ⟨true,Y⟩,some ⟨true,W⟩]):TSpec Tryd.prog (loopOf Tryd.f68 0) (hSt o1 n1 c1 o2 n2 c2 tn tm X Y) (Ex.normal) (hSt o' n' c' o2 n2 c2 tn tm W Y) :=
 tspec_dim (sc:=[(4,2,.is (.c (.bool true))),(5,2,.call (.c (.bool false)) [some ⟨true,Y⟩,some ⟨true,X⟩]),(7,2,.call (.sl 1 o1 k c1) [some ⟨true,Y⟩,some ⟨true,Z⟩]),(8,2,.is (.c (.bool false))),(9,2,.call (ii t) [some ⟨true,Y⟩,some ⟨true,Z⟩]),(9,3,.call (.sl 1 o' n' c') [some ⟨true,Y⟩,some ⟨true,W⟩])]) (sb:=[]) (obs:=[Ob.prop (V.c (Value.bool (decide ((↑n1:Int) > (1:Int))))=vT),Ob.fcall 75 [V.sl 1 o1 n1 c1,V.sl 0 o2 n2 c2] [some { own:=true,cells:=Y },some { own:=true,cells:=X }] (vF) [some { own:=true,cells:=Y },some { own:=true,cells:=X }],Ob.fcall 76 [V.sl 1 o1 n1 c1,V.sl 0 o2 n2 c2] [some { own:=true,cells:=Y },some { own:=true,cells:=X }] (V.sl 1 o1 k c1) [some { own:=true,cells:=Y },some { own:=true,cells:=Z }],Ob.prop (V.c (Value.bool ((↑k:Int)==(0:Int)))=vF),Ob.fcall 73 [V.sl 1 o1 k c1] [some { own:=true,cells:=Y },some { own:=true,cells:=Z }] (vI ↑t) [some { own:=true,cells:=Y },some { own:=true,cells:=Z }],Ob.fcall 74 [V.sl 1 o1 k c1,vI ↑t] [some { own:=true,cells:=Y },some { own:=true,cells:=Z }] (V.sl 1 o' n' c') [some { own:=true,cells:=Y },some { own:=true,cells:=W }]]) (mask 117 0 [5,6,7,8]) 2 (by kernel_rfl) (hP zV (hF hb (hF hm (hP zV (hF he (hF hr hN)))))) ⟨f1,f3,trivial⟩
theorem ha_sAt (o1 n1 c1 o2 n2 c2 tn tm:Nat) (X Y:List V) (Z W:List V) (k t o' n' c':Nat) (h1:1 < n1) (hk:0 < k) (f0:∀ v:V,v∈X→v.isC=true) (f1:∀ v:V,v∈Y→v.isC=true) (f2:∀ v:V,v∈Z→v.isC=true) (f3:∀ v:V,v∈W→v.isC=true) (hb:FSpec Tryd.prog 75 [.sl 1 o1 n1 c1,.sl 0 o2 n2 c2] [some ⟨true,Y⟩,some ⟨true,X⟩] (.c (.bool true)) [some ⟨true,Y⟩,some ⟨true,X⟩]) (hm:FSpec Tryd.prog 76 [.sl 0 o2 n2 c2,.sl 1 o1 n1 c1] [some ⟨true,Y⟩,some ⟨true,X⟩] (.sl 0 o2 k c2) [some ⟨true,Z⟩,some ⟨true,X⟩]) (he:FSpec Tryd.prog 73 [.sl 0 o2 k c2] [some ⟨true,Z⟩,some ⟨true,X⟩] (ii t) [some ⟨true,Z⟩,some ⟨true,X⟩]) (hr:FSpec Tryd.prog 74 [.sl 0 o2 k c2,ii t] [some ⟨true,Z⟩,some ⟨true,X⟩] (.sl 0 o' n' c') [some ⟨true,W⟩,some ⟨true,X⟩]):TSpec Tryd.prog (loopOf Tryd.f68 0) (hSt o1 n1 c1 o2 n2 c2 tn tm X Y) (Ex.normal) (hSf o' n' c' o1 n1 c1 tn tm W X) :=
 tspec_dim (sc:=[(4,2,.is (.c (.bool true))),(5,2,.call (.c (.bool true)) [some ⟨true,Y⟩,some ⟨true,X⟩]),(7,2,.call (.sl 0 o2 k c2) [some ⟨true,Z⟩,some ⟨true,X⟩]),(8,2,.is (.c (.bool false))),(9,2,.call (ii t) [some ⟨true,Z⟩,some ⟨true,X⟩]),(9,3,.call (.sl 0 o' n' c') [some ⟨true,W⟩,some ⟨true,X⟩])]) (sb:=[]) (obs:=[Ob.prop (V.c (Value.bool (decide ((↑n1:Int) > (1:Int))))=vT),Ob.fcall 75 [V.sl 1 o1 n1 c1,V.sl 0 o2 n2 c2] [some { own:=true,cells:=Y },some { own:=true,cells:=X }] (vT) [some { own:=true,cells:=Y },some { own:=true,cells:=X }],Ob.fcall 76 [V.sl 0 o2 n2 c2,V.sl 1 o1 n1 c1] [some { own:=true,cells:=Y },some { own:=true,cells:=X }] (V.sl 0 o2 k c2) [some { own:=true,cells:=Z },some { own:=true,cells:=X }],Ob.prop (V.c (Value.bool ((↑k:Int)==(0:Int)))=vF),Ob.fcall 73 [V.sl 0 o2 k c2] [some { own:=true,cells:=Z },some { own:=true,cells:=X }] (vI ↑t) [some { own:=true,cells:=Z },some { own:=true,cells:=X }],Ob.fcall 74 [V.sl 0 o2 k c2,vI ↑t] [some { own:=true,cells:=Z },some { own:=true,cells:=X }] (V.sl 0 o' n' c') [some { own:=true,cells:=W },some { own:=true,cells:=X }]]) (mask 117 0 [5,6,7,8]) 2 (by kernel_rfl) (hP zV (hF hb (hF hm (hP zV (hF he (hF hr hN)))))) ⟨f3,f0,trivial⟩
theorem ha_sBt (o1 n1 c1 o2 n2 c2 tn tm:Nat) (X Y:List V) (Z W:List V) (k t o' n' c':Nat) (h1:n1=1) (h2:1 < n2) (hk:0 < k) (f0:∀ v:V,v∈X→v.isC=true) (f1:∀ v:V,v∈Y→v.isC=true) (f2:∀ v:V,v∈Z→v.isC=true) (f3:∀ v:V,v∈W→v.isC=true) (hb:FSpec Tryd.prog 75 [.sl 1 o1 n1 c1,.sl 0 o2 n2 c2] [some ⟨true,Y⟩,some ⟨true,X⟩] (.c (.bool true)) [some ⟨true,Y⟩,some ⟨true,X⟩]) (hm:FSpec Tryd.prog 76 [.sl 0 o2 n2 c2,.sl 1 o1 n1 c1] [some ⟨true,Y⟩,some ⟨true,X⟩] (.sl 0 o2 k c2) [some ⟨true,Z⟩,some ⟨true,X⟩]) (he:FSpec Tryd.prog 73 [.sl 0 o2 k c2] [some ⟨true,Z⟩,some ⟨true,X⟩] (ii t) [some ⟨true,Z⟩,some ⟨true,X⟩]) (hr:FSpec Tryd.prog 74 [.sl 0 o2 k c2,ii t] [some ⟨true,Z⟩,some ⟨true,X⟩] (.sl 0 o' n' c') [some ⟨true,W⟩,some ⟨true,X⟩]):TSpec Tryd.prog (loopOf Tryd.f68 0) (hSt o1 n1 c1 o2 n2 c2 tn tm X Y) (Ex.normal) (hSf o' n' c' o1 n1 c1 tn tm W X) :=
 tspec_dim (sc:=[(4,2,.is (.c (.bool false))),(4,6,.is (.c (.bool true))),(5,2,.call (.c (.bool true)) [some ⟨true,Y⟩,some ⟨true,X⟩]),(7,2,.call (.sl 0 o2 k c2) [some ⟨true,Z⟩,some ⟨true,X⟩]),(8,2,.is (.c (.bool false))),(9,2,.call (ii t) [some ⟨true,Z⟩,some ⟨true,X⟩]),(9,3,.call (.sl 0 o' n' c') [some ⟨true,W⟩,some ⟨true,X⟩])]) (sb:=[]) (obs:=[Ob.prop (V.c (Value.bool (decide ((↑n1:Int) > (1:Int))))=vF),Ob.prop (V.c (Value.bool (decide ((↑n2:Int) > (1:Int))))=vT),Ob.fcall 75 [V.sl 1 o1 n1 c1,V.sl 0 o2 n2 c2] [some { own:=true,cells:=Y },some { own:=true,cells:=X }] (vT) [some { own:=true,cells:=Y },some { own:=true,cells:=X }],Ob.fcall 76 [V.sl 0 o2 n2 c2,V.sl 1 o1 n1 c1] [some { own:=true,cells:=Y },some { own:=true,cells:=X }] (V.sl 0 o2 k c2) [some { own:=true,cells:=Z },some { own:=true,cells:=X }],Ob.prop (V.c (Value.bool ((↑k:Int)==(0:Int)))=vF),Ob.fcall 73 [V.sl 0 o2 k c2] [some { own:=true,cells:=Z },some { own:=true,cells:=X }] (vI ↑t) [some { own:=true,cells:=Z },some { own:=true,cells:=X }],Ob.fcall 74 [V.sl 0 o2 k c2,vI ↑t] [some { own:=true,cells:=Z },some { own:=true,cells:=X }] (V.sl 0 o' n' c') [some { own:=true,cells:=W },some { own:=true,cells:=X }]]) (mask 117 0 [5,6,7,8]) 2 (by kernel_rfl) (hP zV (hP zV (hF hb (hF hm (hP zV (hF he (hF hr hN))))))) ⟨f3,f0,trivial⟩
theorem ha_et (o1 n1 c1 o2 n2 c2 tn tm:Nat) (X Y:List V) (h1:n1=1) (h2:n2=1) (f0:∀ v:V,v∈X→v.isC=true) (f1:∀ v:V,v∈Y→v.isC=true):TSpec Tryd.prog (loopOf Tryd.f68 0) (hSt o1 n1 c1 o2 n2 c2 tn tm X Y) (Ex.exit 0) (hSt o1 n1 c1 o2 n2 c2 tn tm X Y) :=
 tspec_dim (sc:=[(4,2,.is (.c (.bool false))),(4,6,.is (.c (.bool false)))]) (sb:=[]) (obs:=[Ob.prop (V.c (Value.bool (decide ((↑n1:Int) > (1:Int))))=vF),Ob.prop (V.c (Value.bool (decide ((↑n2:Int) > (1:Int))))=vF) ]) (mask 117 0 [5,6,7,8]) 2 (by kernel_rfl) (hP zV (hP zV hN)) ⟨f1,f0,trivial⟩
end Go.Proofs.YtjefpjajkbldpaaDoor.G
end
section
namespace Go.Proofs.YtjefpjajkbldpaaDoor.G
open Go.Proofs.YtjefpjajkbldpaaDoor.U Go.RowKit
def ub (x:Nat):V:=.c (.int .u8 (x:Int))
def g2f (o n c tn tm:Nat) (X Y D:List V) (i:Nat):St:=⟨slots 117 0 [(6,.sl 1 o n c),(7,ii tn),(8,ii tm),(9,.sl 2 0 (8*n) (8*n)),(72,.sl 1 o n c),(73,ii n),(74,ii i)],[some ⟨true,X⟩,some ⟨true,Y⟩,some ⟨true,D⟩]⟩
def g2t (o n c tn tm:Nat) (X Y D:List V) (i:Nat):St:=⟨slots 117 0 [(6,.sl 0 o n c),(7,ii tn),(8,ii tm),(9,.sl 2 0 (8*n) (8*n)),(72,.sl 0 o n c),(73,ii n),(74,ii i)],[some ⟨true,Y⟩,some ⟨true,X⟩,some ⟨true,D⟩]⟩
def g4f (o n c tn tm:Nat) (X Y D:List V) (i w k:Nat):St:=⟨slots 117 0 [(6,.sl 1 o n c),(7,ii tn),(8,ii tm),(9,.sl 2 0 (8*n) (8*n)),(10,ii i),(11,uu w),(72,.sl 1 o n c),(73,ii n),(74,ii i),(79,ii k)],[some ⟨true,X⟩,some ⟨true,Y⟩,some ⟨true,D⟩]⟩
def g4t (o n c tn tm:Nat) (X Y D:List V) (i w k:Nat):St:=⟨slots 117 0 [(6,.sl 0 o n c),(7,ii tn),(8,ii tm),(9,.sl 2 0 (8*n) (8*n)),(10,ii i),(11,uu w),(72,.sl 0 o n c),(73,ii n),(74,ii i),(79,ii k)],[some ⟨true,Y⟩,some ⟨true,X⟩,some ⟨true,D⟩]⟩
theorem mul_v {x:Nat} (h:x < 1125899906842624):V.c (Value.int IntKind.i64 (IntKind.wrap IntKind.i64 ((8:Int)*(x:Int))))=V.c (Value.int IntKind.i64 ((8*x:Nat):Int)):=by
 congr 2
 rw [show ((8:Int)*(x:Int))=((8*x:Nat):Int) by omega]
 simp [IntKind.wrap,IntKind.signed,IntKind.bits]; omega
theorem u64_u8 {x:Nat}:V.c (Value.int IntKind.u8 (IntKind.wrap IntKind.u8 (x:Int)))=ub (x%256):=by
 unfold ub
 congr 2
theorem p_2 {q:Nat}:V.p 2 (0+Int.toNat (q:Int)*1)=V.p 2 q:=by simp
theorem p_1 {r o:Nat}:V.p r (o+0)=V.p r o:=rfl
theorem len_le {C:List V} {k:Nat} {u:V} (h:k < C.length):k+List.length [u]≤C.length:=by simp; omega
theorem len_rep {Q:Nat} {u z:V} (h:0 < Q):0+0+List.length [u]≤List.length (List.replicate Q z):=by simp; omega
theorem min_v {a b c:Nat} (h:min a b=c):V.c (Value.int IntKind.i64 (if (b:Int) < (a:Int) then (b:Int) else (a:Int)))=V.c (Value.int IntKind.i64 (c:Int)):=by
 congr 2
 split<;>omega
theorem h4_gof (o n c tn tm:Nat) (X Y D:List V) (i w k:Nat) (f0:∀ v:V,v∈X→v.isC=true) (f1:∀ v:V,v∈Y→v.isC=true) (f2:∀ v:V,v∈D→v.isC=true) (hn:n < 1125899906842624) (hi:i < n) (hk:k < 8) (hD:D.length=8*n):TSpec Tryd.prog (loopOf Tryd.f68 4) (g4f o n c tn tm X Y D i w k) (Ex.normal) (g4f o n c tn tm X Y (D.set (8*(n - 1 - i)+k) (ub (w/2^(56 - 8*k)%256))) i w (k+1)) :=
 tspec_dim (sc:=[(17,0,.is (.c (.bool true))),(19,3,.is (.c (.int .i64 ((n - 1):Nat)))),(19,5,.is (.c (.int .i64 ((n - 1 - i):Nat)))),(19,6,.is (.c (.int .i64 ((8*(n - 1 - i)):Nat)))),(19,8,.is (.c (.int .i64 ((8*(n - 1 - i)+k):Nat)))),(19,11,.is (.c (.int .i64 ((8*k):Nat)))),(19,12,.is (.c (.int .i64 ((56 - 8*k):Nat)))),(19,13,.fix (.int .u64 (w/2^(56 - 8*k):Nat))),(19,14,.is (ub (w/2^(56 - 8*k)%256))),(19,15,.is (.p 2 (8*(n - 1 - i)+k))),(19,16,.fix undef),(20,0,.is (.c (.int .i64 ((k+1):Nat))))]) (sb:=[]) (obs:=[Ob.prop (V.c (Value.bool (decide ((↑k:Int) < (8:Int))))=vT),Ob.prop (vI (IntKind.wrap .i64 ((↑n:Int) - (1:Int)))=vI (↑(n - 1):Int)),Ob.prop (vI (IntKind.wrap .i64 ((↑(n - 1):Int) - (↑i:Int)))=vI (↑(n - 1 - i):Int)),Ob.prop (vI (IntKind.wrap .i64 ((8:Int)*(↑(n - 1 - i):Int)))=vI (↑(8*(n - 1 - i)):Int)),Ob.prop (vI (IntKind.wrap .i64 ((↑(8*(n - 1 - i)):Int)+(↑k:Int)))=vI (↑(8*(n - 1 - i)+k):Int)),Ob.prop (vI (IntKind.wrap .i64 ((8:Int)*(↑k:Int)))=vI (↑(8*k):Int)),Ob.prop (vI (IntKind.wrap .i64 ((56:Int) - (↑(8*k):Int)))=vI (↑(56 - 8*k):Int)),Ob.val (execOp (St.rho ⟨(slots 95 0 [(91,vU ↑w),(94,vI (↑(56 - 8*k):Int))]),[]⟩) { dst:=some 95,op:=Op.binOp BinOp.shr 70 (Operand.tmp 91) (Operand.tmp 94) 3,type:=70,pos := "gcd.go:92",after:={ toList:=[{ on:=9,ground:=Ground.data },{ on:=12,ground:=Ground.data }] },guard:=none }) (Value.int IntKind.u64 (↑(w/(2:Nat)^(56 - 8*k)):Int)),Ob.prop (V.c (Value.int IntKind.u8 (IntKind.wrap .u8 (↑(w/(2:Nat)^(56 - 8*k)):Int)))=ub (w/(2:Nat)^(56 - 8*k)%256)),Ob.prop (V.p 2 (0+Int.toNat (↑(8*(n - 1 - i)+k):Int)*1)=V.p 2 (8*(n - 1 - i)+k)),Ob.prop ((0:Int)≤(↑(8*(n - 1 - i)+k):Int)∧(↑(8*(n - 1 - i)+k):Int) < (↑(8*n):Int)),Ob.prop (8*(n - 1 - i)+k+List.length [V.c (Value.int IntKind.u8 (↑(w/(2:Nat)^(56 - 8*k)%256):Int))]≤List.length D),Ob.prop (vI (IntKind.wrap .i64 ((↑k:Int)+(1:Int)))=vI (↑(k+1):Int))]) (mask 117 0 [6,7,8,9,10,11,72,73,74,79]) 3 (by kernel_rfl) (hP zV (hP zV (hP zV (hP (mul_v (by omega)) (hP zV (hP (mul_v (by omega)) (hP zV (hV (sv_shr (by omega) rfl rfl) (hP u64_u8 (hP p_2 (hP zV (hP (len_le (by omega)) (hP zV hN))))))))))))) ⟨f0,f1,flat_set rfl f2,trivial⟩
theorem h4_endf (o n c tn tm:Nat) (X Y D:List V) (i w:Nat) (f0:∀ v:V,v∈X→v.isC=true) (f1:∀ v:V,v∈Y→v.isC=true) (f2:∀ v:V,v∈D→v.isC=true):TSpec Tryd.prog (loopOf Tryd.f68 4) (g4f o n c tn tm X Y D i w 8) (Ex.exit 4) (g4f o n c tn tm X Y D i w 8) :=
 tspec_dim (sc:=[]) (sb:=[]) (obs:=[]) (mask 117 0 [6,7,8,9,10,11,72,73,74,79]) 3 (by kernel_rfl) hN ⟨f0,f1,f2,trivial⟩
theorem h2_gof (o n c tn tm:Nat) (X Y D:List V) (D':List V) (i w:Nat) (f0:∀ v:V,v∈X→v.isC=true) (f1:∀ v:V,v∈Y→v.isC=true) (f2:∀ v:V,v∈D→v.isC=true) (f3:∀ v:V,v∈D' → v.isC=true) (hn:n < 1125899906842624) (hi:i < n) (hy:Y[o+i]? = some (uu w)) (h4:TSpec Tryd.prog (.block 4 (.loop (loopOf Tryd.f68 4))) (g4f o n c tn tm X Y D i w 0) .normal (g4f o n c tn tm X Y D' i w 8)):TSpec Tryd.prog (loopOf Tryd.f68 2) (g2f o n c tn tm X Y D i) (Ex.normal) (g2f o n c tn tm X Y D' (i+1)) :=
 tspec_dim (sc:=[(14,0,.is (.c (.bool true))),(15,1,.is (.p 1 (o+i))),(15,2,.fix (.int .u64 (w:Nat))),(21,0,.is (.c (.int .i64 ((i+1):Nat))))]) (sb:=[(4,.normal,g4f o n c tn tm X Y D' i w 8)]) (obs:=[Ob.prop (V.c (Value.bool (decide ((↑i:Int) < (↑n:Int))))=vT),Ob.prop (V.p 1 (o+Int.toNat (↑i:Int)*1)=V.p 1 (o+i)),Ob.prop ((0:Int)≤(↑i:Int)∧(↑i:Int) < (↑n:Int)),Ob.prop (Y[o+i]? = some (vU ↑w)),Ob.prop (TSpec Tryd.prog (Code.block 4 (Code.loop (loopOf Tryd.f68 4))) ({ t:=(slots 117 0 [(6,V.sl 1 o n c),(7,vI ↑tn),(8,vI ↑tm),(9,V.sl 2 0 (8*n) (8*n)),(10,vI ↑i),(11,vU ↑w),(72,V.sl 1 o n c),(73,vI ↑n),(74,vI ↑i),(75,vT),(76,vI ↑i),(77,V.p 1 (o+i)),(78,vU ↑w),(79,vI (0:Int))]),m:=[some { own:=true,cells:=X },some { own:=true,cells:=Y },some { own:=true,cells:=D }] }) (Ex.normal) (g4f o n c tn tm X Y D' i w 8)),Ob.prop (vI (IntKind.wrap .i64 ((↑i:Int)+(1:Int)))=vI (↑(i+1):Int))]) (mask 117 0 [6,7,8,9,72,73,74]) 3 (by kernel_rfl) (hP zV (hP zV (hP zV (hP hy (hP (TSpec.from (mask 117 0 [6,7,8,9,10,11,72,73,74,79]) h4 (by kernel_rfl) (by kernel_rfl) ⟨f0,f1,f2,trivial⟩) (hP zV hN)))))) ⟨f0,f1,f3,trivial⟩
theorem h2_endf (o n c tn tm:Nat) (X Y D:List V) (f0:∀ v:V,v∈X→v.isC=true) (f1:∀ v:V,v∈Y→v.isC=true) (f2:∀ v:V,v∈D→v.isC=true):TSpec Tryd.prog (loopOf Tryd.f68 2) (g2f o n c tn tm X Y D n) (Ex.exit 2) (g2f o n c tn tm X Y D n) :=
 tspec_dim (sc:=[(14,0,.is (.c (.bool false)))]) (sb:=[]) (obs:=[Ob.prop (V.c (Value.bool (decide ((↑n:Int) < (↑n:Int))))=vF)]) (mask 117 0 [6,7,8,9,72,73,74]) 3 (by kernel_rfl) (hP zV hN) ⟨f0,f1,f2,trivial⟩
theorem ha_fnof (a b s1 s2 res:ByteArray) (N1 N2 tn tm p1 q1 r1 p2 q2 r2 o1 n1 c1 o2 n2 c2 q r Q x y g:Nat) (A Bq A' B' X Y D:List V) (fA:∀ v:V,v∈A→v.isC=true) (fB:∀ v:V,v∈Bq→v.isC=true) (fA':∀ v:V,v∈A' → v.isC=true) (fB':∀ v:V,v∈B' → v.isC=true) (f0:∀ v:V,v∈X→v.isC=true) (f1:∀ v:V,v∈Y→v.isC=true) (f2:∀ v:V,v∈D→v.isC=true) (hl1:FSpec Tryd.prog 72 [.c (.string a)] [] (.sl 0 0 N1 N1) [some ⟨true,A⟩]) (hl2:FSpec Tryd.prog 72 [.c (.string b)] [some ⟨true,A⟩] (.sl 1 0 N2 N2) [some ⟨true,A⟩,some ⟨true,Bq⟩]) (he1:FSpec Tryd.prog 73 [.sl 0 0 N1 N1] [some ⟨true,A⟩,some ⟨true,Bq⟩] (ii tn) [some ⟨true,A⟩,some ⟨true,Bq⟩]) (he2:FSpec Tryd.prog 73 [.sl 1 0 N2 N2] [some ⟨true,A⟩,some ⟨true,Bq⟩] (ii tm) [some ⟨true,A⟩,some ⟨true,Bq⟩]) (hr1:FSpec Tryd.prog 74 [.sl 0 0 N1 N1,ii tn] [some ⟨true,A⟩,some ⟨true,Bq⟩] (.sl 0 p1 q1 r1) [some ⟨true,A'⟩,some ⟨true,Bq⟩]) (hr2:FSpec Tryd.prog 74 [.sl 1 0 N2 N2,ii tm] [some ⟨true,A'⟩,some ⟨true,Bq⟩] (.sl 1 p2 q2 r2) [some ⟨true,A'⟩,some ⟨true,B'⟩]) (h0:TSpec Tryd.prog (.block 0 (.loop (loopOf Tryd.f68 0))) (hSf p1 q1 r1 p2 q2 r2 tn tm A' B') .normal (hSf o1 n1 c1 o2 n2 c2 tn tm X Y)) (hn2:n2 < 17592186044416) (hq:q < 17592186044416) (hr:r < 8) (hQ:Q=q+1) (hmn:min tn tm=8*q+r) (e1:n1=1) (e2:n2=1) (hx:X[o1]? = some (uu x)) (hy:Y[o2]? = some (uu y)) (hg:CSpec Tryd.prog 67 #[.int .u64 (x:Int),.int .u64 (y:Int)] (.int .u64 (g:Nat))) (h2:TSpec Tryd.prog (.block 2 (.loop (loopOf Tryd.f68 2))) (g2f o2 n2 c2 tn tm X (Y.set o2 (uu g)) (List.replicate (8*n2) (.c (.int .u8 0))) 0) .normal (g2f o2 n2 c2 tn tm X (Y.set o2 (uu g)) D n2)) (hs1:∃ xs:List Int,s1=strOfNums xs∧xs.length=8*n2∧(D.drop 0).take (8*n2)=xs.map fun n=>.c (.int .u8 n)) (hs2:∃ xs:List Int,s2=strOfNums xs∧xs.length=Q∧(((List.replicate Q (V.c (.int .u8 0))).set 0 (ub (2^r))).drop 0).take Q=xs.map fun n=>.c (.int .u8 n)) (hmul:CSpec Tryd.prog 27 #[.string s1,.string s2] (.string res)):FSpec Tryd.prog 68 [.c (.string a),.c (.string b)] [] (V.c (Value.string res)) [] :=
 fspec_ok Tryd.func68 (sc:=[(1,1,.call (.sl 0 0 N1 N1) [some ⟨true,A⟩]),(1,3,.call (.sl 1 0 N2 N2) [some ⟨true,A⟩,some ⟨true,Bq⟩]),(2,1,.call (ii tn) [some ⟨true,A⟩,some ⟨true,Bq⟩]),(2,3,.call (ii tm) [some ⟨true,A⟩,some ⟨true,Bq⟩]),(3,2,.call (.sl 0 p1 q1 r1) [some ⟨true,A'⟩,some ⟨true,Bq⟩]),(3,5,.call (.sl 1 p2 q2 r2) [some ⟨true,A'⟩,some ⟨true,B'⟩]),(10,2,.is (.c (.bool true))),(10,6,.is (.c (.bool true))),(11,2,.is (.p 0 o1)),(11,3,.fix (.int .u64 (x:Nat))),(11,5,.is (.p 1 o2)),(11,6,.fix (.int .u64 (y:Nat))),(11,7,.fix (.int .u64 (g:Nat))),(11,8,.is (.p 1 o2)),(11,9,.fix undef),(12,2,.is (.c (.int .i64 ((8*n2):Nat)))),(22,2,.is (.c (.int .i64 ((8*q+r):Nat)))),(23,1,.is (.c (.int .i64 (q:Nat)))),(23,2,.is (.c (.int .i64 (Q:Nat)))),(24,2,.is (.c (.int .i64 (r:Nat)))),(24,3,.fix (.int .u8 (2^r:Nat))),(24,5,.fix undef),(25,1,.fix (.string s1)),(25,3,.fix (.string s2)),(25,4,.fix (.string res))]) (sb:=[(0,.normal,hSf o1 n1 c1 o2 n2 c2 tn tm X Y),(2,.normal,g2f o2 n2 c2 tn tm X (Y.set o2 (uu g)) D n2)]) (keep:=[]) (obs:=[Ob.prop (Flat ([]:List (Option Row))),Ob.fcall 72 [V.c (Value.string a)] [] (V.sl 0 0 N1 N1) [some { own:=true,cells:=A }],Ob.fcall 72 [V.c (Value.string b)] [some { own:=true,cells:=A }] (V.sl 1 0 N2 N2) [some { own:=true,cells:=A },some { own:=true,cells:=Bq }],Ob.fcall 73 [V.sl 0 0 N1 N1] [some { own:=true,cells:=A },some { own:=true,cells:=Bq }] (vI ↑tn) [some { own:=true,cells:=A },some { own:=true,cells:=Bq }],Ob.fcall 73 [V.sl 1 0 N2 N2] [some { own:=true,cells:=A },some { own:=true,cells:=Bq }] (vI ↑tm) [some { own:=true,cells:=A },some { own:=true,cells:=Bq }],Ob.fcall 74 [V.sl 0 0 N1 N1,vI ↑tn] [some { own:=true,cells:=A },some { own:=true,cells:=Bq }] (V.sl 0 p1 q1 r1) [some { own:=true,cells:=A' },some { own:=true,cells:=Bq }],Ob.fcall 74 [V.sl 1 0 N2 N2,vI ↑tm] [some { own:=true,cells:=A' },some { own:=true,cells:=Bq }] (V.sl 1 p2 q2 r2) [some { own:=true,cells:=A' },some { own:=true,cells:=B' }],Ob.prop (TSpec Tryd.prog (Code.block 0 (Code.loop (loopOf Tryd.f68 0))) ({ t:=[V.c (Value.string a),V.c (Value.string b),V.c (Value.tuple { toList:=[] }),V.c (Value.tuple { toList:=[] }),V.c (Value.string { data:=#[] }),V.sl 0 p1 q1 r1,V.sl 1 p2 q2 r2,vI ↑tn,vI ↑tm,V.c (Value.tuple { toList:=[] }),V.c (Value.tuple { toList:=[] }),V.c (Value.tuple { toList:=[] }),V.c (Value.tuple { toList:=[] }),V.c (Value.tuple { toList:=[] }),V.c (Value.string a),V.sl 0 0 N1 N1,V.c (Value.string b),V.sl 1 0 N2 N2,V.sl 0 0 N1 N1,vI ↑tn,V.sl 1 0 N2 N2,vI ↑tm,V.sl 0 0 N1 N1,vI ↑tn,V.sl 0 p1 q1 r1,V.sl 1 0 N2 N2,vI ↑tm,V.sl 1 p2 q2 r2,V.c (Value.tuple { toList:=[] }),V.c (Value.tuple { toList:=[] }),V.c (Value.tuple { toList:=[] }),V.c (Value.tuple { toList:=[] }),V.c (Value.tuple { toList:=[] }),V.c (Value.tuple { toList:=[] }),V.c (Value.tuple { toList:=[] }),V.c (Value.tuple { toList:=[] }),V.c (Value.tuple { toList:=[] }),V.c (Value.tuple { toList:=[] }),V.c (Value.tuple { toList:=[] }),V.c (Value.tuple { toList:=[] }),V.c (Value.tuple { toList:=[] }),V.c (Value.tuple { toList:=[] }),V.c (Value.tuple { toList:=[] }),V.c (Value.tuple { toList:=[] }),V.c (Value.tuple { toList:=[] }),V.c (Value.tuple { toList:=[] }),V.c (Value.tuple { toList:=[] }),V.c (Value.tuple { toList:=[] }),V.c (Value.tuple { toList:=[] }),V.c (Value.tuple { toList:=[] }),V.c (Value.tuple { toList:=[] }),V.c (Value.tuple { toList:=[] }),V.c (Value.tuple { toList:=[] }),V.c (Value.tuple { toList:=[] }),V.c (Value.tuple { toList:=[] }),V.c (Value.tuple { toList:=[] }),V.c (Value.tuple { toList:=[] }),V.c (Value.tuple { toList:=[] }),V.c (Value.tuple { toList:=[] }),V.c (Value.tuple { toList:=[] }),V.c (Value.tuple { toList:=[] }),V.c (Value.tuple { toList:=[] }),V.c (Value.tuple { toList:=[] }),V.c (Value.tuple { toList:=[] }),V.c (Value.tuple { toList:=[] }),V.c (Value.tuple { toList:=[] }),V.c (Value.tuple { toList:=[] }),V.c (Value.tuple { toList:=[] }),V.c (Value.tuple { toList:=[] }),V.c (Value.tuple { toList:=[] }),V.c (Value.tuple { toList:=[] }),V.c (Value.tuple { toList:=[] }),V.c (Value.tuple { toList:=[] }),V.c (Value.tuple { toList:=[] }),V.c (Value.tuple { toList:=[] }),V.c (Value.tuple { toList:=[] }),V.c (Value.tuple { toList:=[] }),V.c (Value.tuple { toList:=[] }),V.c (Value.tuple { toList:=[] }),V.c (Value.tuple { toList:=[] }),V.c (Value.tuple { toList:=[] }),V.c (Value.tuple { toList:=[] }),V.c (Value.tuple { toList:=[] }),V.c (Value.tuple { toList:=[] }),V.c (Value.tuple { toList:=[] }),V.c (Value.tuple { toList:=[] }),V.c (Value.tuple { toList:=[] }),V.c (Value.tuple { toList:=[] }),V.c (Value.tuple { toList:=[] }),V.c (Value.tuple { toList:=[] }),V.c (Value.tuple { toList:=[] }),V.c (Value.tuple { toList:=[] }),V.c (Value.tuple { toList:=[] }),V.c (Value.tuple { toList:=[] }),V.c (Value.tuple { toList:=[] }),V.c (Value.tuple { toList:=[] }),V.c (Value.tuple { toList:=[] }),V.c (Value.tuple { toList:=[] }),V.c (Value.tuple { toList:=[] }),V.c (Value.tuple { toList:=[] }),V.c (Value.tuple { toList:=[] }),V.c (Value.tuple { toList:=[] }),V.c (Value.tuple { toList:=[] }),V.c (Value.tuple { toList:=[] }),V.c (Value.tuple { toList:=[] }),V.c (Value.tuple { toList:=[] }),V.c (Value.tuple { toList:=[] }),V.c (Value.tuple { toList:=[] }),V.c (Value.tuple { toList:=[] }),V.c (Value.tuple { toList:=[] }),V.c (Value.tuple { toList:=[] }),V.c (Value.tuple { toList:=[] }),V.c (Value.tuple { toList:=[] }),V.c (Value.tuple { toList:=[] }),V.c (Value.tuple { toList:=[] }),V.c (Value.tuple { toList:=[] }),V.c (Value.tuple { toList:=[] })],m:=[some { own:=true,cells:=A' },some { own:=true,cells:=B' }] }) (Ex.normal) (hSf o1 n1 c1 o2 n2 c2 tn tm X Y)),Ob.prop (V.c (Value.bool ((↑n1:Int)==(1:Int)))=vT),Ob.prop (V.c (Value.bool ((↑n2:Int)==(1:Int)))=vT),Ob.prop (V.p 0 (o1+0)=V.p 0 o1),Ob.prop ((0:Int)≤(0:Int)∧(0:Int) < (↑n1:Int)),Ob.prop (X[o1]? = some (vU ↑x)),Ob.prop (V.p 1 (o2+0)=V.p 1 o2),Ob.prop ((0:Int)≤(0:Int)∧(0:Int) < (↑n2:Int)),Ob.prop (Y[o2]? = some (vU ↑y)),Ob.call 67 { toList:=[Value.int IntKind.u64 (↑x:Int),Value.int IntKind.u64 (↑y:Int)] } (Value.int IntKind.u64 (↑g:Int)),Ob.prop (V.p 1 (o2+0)=V.p 1 o2),Ob.prop ((0:Int)≤(0:Int)∧(0:Int) < (↑n2:Int)),Ob.prop (o2+List.length [vU ↑g]≤List.length Y),Ob.prop (vI (IntKind.wrap .i64 ((8:Int)*(↑n2:Int)))=vI (↑(8*n2):Int)),Ob.prop ((0:Int)≤(↑(8*n2):Int)∧(↑(8*n2):Int)≤(↑(8*n2):Int)∧(↑1:Int)*(↑(8*n2):Int)≤(281474976710656:Int)∧(↑(8*n2):Int) < (9223372036854775808:Int)),Ob.prop (TSpec Tryd.prog (Code.block 2 (Code.loop (loopOf Tryd.f68 2))) ({ t:=(slots 117 0 [(5,V.sl 0 o1 n1 c1),(6,V.sl 1 o2 n2 c2),(7,vI ↑tn),(8,vI ↑tm),(9,V.sl 2 0 (Int.toNat (↑(8*n2):Int)) (Int.toNat (↑(8*n2):Int))),(51,V.sl 0 o1 n1 c1),(52,vI ↑n1),(53,vT),(54,vT),(55,V.sl 1 o2 n2 c2),(56,vI ↑n2),(57,vT),(58,vT),(59,V.sl 1 o2 n2 c2),(60,V.sl 0 o1 n1 c1),(61,V.p 0 o1),(62,vU ↑x),(63,V.sl 1 o2 n2 c2),(64,V.p 1 o2),(65,vU ↑y),(66,vU ↑g),(67,V.p 1 o2),(68,V.sl 1 o2 n2 c2),(69,vI ↑n2),(70,vI (↑(8*n2):Int)),(71,V.sl 2 0 (Int.toNat (↑(8*n2):Int)) (Int.toNat (↑(8*n2):Int))),(72,V.sl 1 o2 n2 c2),(73,vI ↑n2),(74,vI (0:Int))]),m:=[some { own:=true,cells:=X },some { own:=Row.own { own:=true,cells:=Y },cells:=List.set Y o2 (vU ↑g) },some { own:=true,cells:=List.replicate (Int.toNat (↑(8*n2):Int)) (V.c (Value.int IntKind.u8 (0:Int))) }] }) (Ex.normal) (g2f o2 n2 c2 tn tm X (List.set Y o2 (uu g)) D n2)),Ob.prop (vI (if (↑tm:Int) < (↑tn:Int) then (↑tm:Int) else (↑tn:Int))=vI (↑(8*q+r):Int)),Ob.prop (vI (IntKind.wrap .i64 (Int.tdiv (↑(8*q+r):Int) (8:Int)))=vI ↑q),Ob.prop (vI (IntKind.wrap .i64 ((↑q:Int)+(1:Int)))=vI ↑Q),Ob.prop ((0:Int)≤(↑Q:Int)∧(↑Q:Int)≤(↑Q:Int)∧(↑1:Int)*(↑Q:Int)≤(281474976710656:Int)∧(↑Q:Int) < (9223372036854775808:Int)),Ob.prop (vI (Int.tmod (↑(8*q+r):Int) (8:Int))=vI ↑r),Ob.val (execOp (St.rho ⟨(slots 110 0 [(109,vI ↑r)]),[]⟩) { dst:=some 110,op:=Op.binOp BinOp.shl 5 (Operand.const (Value.int IntKind.u8 (1:Int))) (Operand.tmp 109) 3,type:=5,pos := "gcd.go:97",after:={ toList:=[{ on:=2,ground:=Ground.data }] },guard:=none }) (Value.int IntKind.u8 (↑((2:Nat)^r):Int)),Ob.prop ((0:Int)≤(0:Int)∧(0:Int) < (↑(Int.toNat (↑Q:Int)):Int)),Ob.prop (0+0+List.length [V.c (Value.int IntKind.u8 (↑((2:Nat)^r):Int))]≤List.length (List.replicate (Int.toNat (↑Q:Int)) (V.c (Value.int IntKind.u8 (0:Int))))),Ob.prop (∃ xs,s1=strOfNums xs∧List.length xs=8*n2∧List.take (8*n2) (List.drop 0 D)=List.map (fun n=>V.c (Value.int IntKind.u8 n)) xs),Ob.prop (∃ xs,s2=strOfNums xs∧List.length xs=Int.toNat (↑Q:Int)∧List.take (Int.toNat (↑Q:Int)) (List.drop 0 (List.set (List.replicate (Int.toNat (↑Q:Int)) (V.c (Value.int IntKind.u8 (0:Int)))) 0 (V.c (Value.int IntKind.u8 (↑((2:Nat)^r):Int)))))=List.map (fun n=>V.c (Value.int IntKind.u8 n)) xs),Ob.call 27 { toList:=[Value.string s1,Value.string s2] } (Value.string res)]) (by kernel_rfl) (hP trivial (hF hl1 (hF hl2 (hF he1 (hF he2 (hF hr1 (hF hr2 (hP (TSpec.from (mask 117 0 [5,6,7,8]) h0 (by kernel_rfl) (by kernel_rfl) ⟨fA',fB',trivial⟩) (hP zV (hP zV (hP p_1 (hP zV (hP hx (hP p_1 (hP zV (hP hy (hC hg (hP p_1 (hP zV (hP (len_of hy) (hP (mul_v (by omega)) (hP zV (hP (TSpec.from (mask 117 0 [6,7,8,9,72,73,74]) h2 (by kernel_rfl) (by kernel_rfl) ⟨f0,flat_set rfl f1,fun v hv=>by rw [List.eq_of_mem_replicate hv]; rfl,trivial⟩) (hP (min_v hmn) (hP (quo_8 rfl hr (by omega)) (hP zV (hP zV (hP (rem_8 rfl hr) (hV (sv_shl8 hr rfl rfl) (hP zV (hP (len_rep (by omega)) (hP hs1 (hP hs2 (hC hmul hN))))))))))))))))))))))))))))))))))
theorem ha_fnbf (a b s1 s2 res:ByteArray) (N1 N2 tn tm p1 q1 r1 p2 q2 r2 o1 n1 c1 o2 n2 c2 q r Q:Nat) (A Bq A' B' X Y D:List V) (fA:∀ v:V,v∈A→v.isC=true) (fB:∀ v:V,v∈Bq→v.isC=true) (fA':∀ v:V,v∈A' → v.isC=true) (fB':∀ v:V,v∈B' → v.isC=true) (f0:∀ v:V,v∈X→v.isC=true) (f1:∀ v:V,v∈Y→v.isC=true) (f2:∀ v:V,v∈D→v.isC=true) (hl1:FSpec Tryd.prog 72 [.c (.string a)] [] (.sl 0 0 N1 N1) [some ⟨true,A⟩]) (hl2:FSpec Tryd.prog 72 [.c (.string b)] [some ⟨true,A⟩] (.sl 1 0 N2 N2) [some ⟨true,A⟩,some ⟨true,Bq⟩]) (he1:FSpec Tryd.prog 73 [.sl 0 0 N1 N1] [some ⟨true,A⟩,some ⟨true,Bq⟩] (ii tn) [some ⟨true,A⟩,some ⟨true,Bq⟩]) (he2:FSpec Tryd.prog 73 [.sl 1 0 N2 N2] [some ⟨true,A⟩,some ⟨true,Bq⟩] (ii tm) [some ⟨true,A⟩,some ⟨true,Bq⟩]) (hr1:FSpec Tryd.prog 74 [.sl 0 0 N1 N1,ii tn] [some ⟨true,A⟩,some ⟨true,Bq⟩] (.sl 0 p1 q1 r1) [some ⟨true,A'⟩,some ⟨true,Bq⟩]) (hr2:FSpec Tryd.prog 74 [.sl 1 0 N2 N2,ii tm] [some ⟨true,A'⟩,some ⟨true,Bq⟩] (.sl 1 p2 q2 r2) [some ⟨true,A'⟩,some ⟨true,B'⟩]) (h0:TSpec Tryd.prog (.block 0 (.loop (loopOf Tryd.f68 0))) (hSf p1 q1 r1 p2 q2 r2 tn tm A' B') .normal (hSf o1 n1 c1 o2 n2 c2 tn tm X Y)) (hn2:n2 < 17592186044416) (hq:q < 17592186044416) (hr:r < 8) (hQ:Q=q+1) (hmn:min tn tm=8*q+r) (e1:n1=0) (h2:TSpec Tryd.prog (.block 2 (.loop (loopOf Tryd.f68 2))) (g2f o2 n2 c2 tn tm X Y (List.replicate (8*n2) (.c (.int .u8 0))) 0) .normal (g2f o2 n2 c2 tn tm X Y D n2)) (hs1:∃ xs:List Int,s1=strOfNums xs∧xs.length=8*n2∧(D.drop 0).take (8*n2)=xs.map fun n=>.c (.int .u8 n)) (hs2:∃ xs:List Int,s2=strOfNums xs∧xs.length=Q∧(((List.replicate Q (V.c (.int .u8 0))).set 0 (ub (2^r))).drop 0).take Q=xs.map fun n=>.c (.int .u8 n)) (hmul:CSpec Tryd.prog 27 #[.string s1,.string s2] (.string res)):FSpec Tryd.prog 68 [.c (.string a),.c (.string b)] [] (V.c (Value.string res)) [] :=
 fspec_ok Tryd.func68 (sc:=[(1,1,.call (.sl 0 0 N1 N1) [some ⟨true,A⟩]),(1,3,.call (.sl 1 0 N2 N2) [some ⟨true,A⟩,some ⟨true,Bq⟩]),(2,1,.call (ii tn) [some ⟨true,A⟩,some ⟨true,Bq⟩]),(2,3,.call (ii tm) [some ⟨true,A⟩,some ⟨true,Bq⟩]),(3,2,.call (.sl 0 p1 q1 r1) [some ⟨true,A'⟩,some ⟨true,Bq⟩]),(3,5,.call (.sl 1 p2 q2 r2) [some ⟨true,A'⟩,some ⟨true,B'⟩]),(10,2,.is (.c (.bool false))),(12,2,.is (.c (.int .i64 ((8*n2):Nat)))),(22,2,.is (.c (.int .i64 ((8*q+r):Nat)))),(23,1,.is (.c (.int .i64 (q:Nat)))),(23,2,.is (.c (.int .i64 (Q:Nat)))),(24,2,.is (.c (.int .i64 (r:Nat)))),(24,3,.fix (.int .u8 (2^r:Nat))),(24,5,.fix undef),(25,1,.fix (.string s1)),(25,3,.fix (.string s2)),(25,4,.fix (.string res))]) (sb:=[(0,.normal,hSf o1 n1 c1 o2 n2 c2 tn tm X Y),(2,.normal,g2f o2 n2 c2 tn tm X Y D n2)]) (keep:=[]) (obs:=[Ob.prop (Flat ([]:List (Option Row))),Ob.fcall 72 [V.c (Value.string a)] [] (V.sl 0 0 N1 N1) [some { own:=true,cells:=A }],Ob.fcall 72 [V.c (Value.string b)] [some { own:=true,cells:=A }] (V.sl 1 0 N2 N2) [some { own:=true,cells:=A },some { own:=true,cells:=Bq }],Ob.fcall 73 [V.sl 0 0 N1 N1] [some { own:=true,cells:=A },some { own:=true,cells:=Bq }] (vI ↑tn) [some { own:=true,cells:=A },some { own:=true,cells:=Bq }],Ob.fcall 73 [V.sl 1 0 N2 N2] [some { own:=true,cells:=A },some { own:=true,cells:=Bq }] (vI ↑tm) [some { own:=true,cells:=A },some { own:=true,cells:=Bq }],Ob.fcall 74 [V.sl 0 0 N1 N1,vI ↑tn] [some { own:=true,cells:=A },some { own:=true,cells:=Bq }] (V.sl 0 p1 q1 r1) [some { own:=true,cells:=A' },some { own:=true,cells:=Bq }],Ob.fcall 74 [V.sl 1 0 N2 N2,vI ↑tm] [some { own:=true,cells:=A' },some { own:=true,cells:=Bq }] (V.sl 1 p2 q2 r2) [some { own:=true,cells:=A' },some { own:=true,cells:=B' }],Ob.prop (TSpec Tryd.prog (Code.block 0 (Code.loop (loopOf Tryd.f68 0))) ({ t:=[V.c (Value.string a),V.c (Value.string b),V.c (Value.tuple { toList:=[] }),V.c (Value.tuple { toList:=[] }),V.c (Value.string { data:=#[] }),V.sl 0 p1 q1 r1,V.sl 1 p2 q2 r2,vI ↑tn,vI ↑tm,V.c (Value.tuple { toList:=[] }),V.c (Value.tuple { toList:=[] }),V.c (Value.tuple { toList:=[] }),V.c (Value.tuple { toList:=[] }),V.c (Value.tuple { toList:=[] }),V.c (Value.string a),V.sl 0 0 N1 N1,V.c (Value.string b),V.sl 1 0 N2 N2,V.sl 0 0 N1 N1,vI ↑tn,V.sl 1 0 N2 N2,vI ↑tm,V.sl 0 0 N1 N1,vI ↑tn,V.sl 0 p1 q1 r1,V.sl 1 0 N2 N2,vI ↑tm,V.sl 1 p2 q2 r2,V.c (Value.tuple { toList:=[] }),V.c (Value.tuple { toList:=[] }),V.c (Value.tuple { toList:=[] }),V.c (Value.tuple { toList:=[] }),V.c (Value.tuple { toList:=[] }),V.c (Value.tuple { toList:=[] }),V.c (Value.tuple { toList:=[] }),V.c (Value.tuple { toList:=[] }),V.c (Value.tuple { toList:=[] }),V.c (Value.tuple { toList:=[] }),V.c (Value.tuple { toList:=[] }),V.c (Value.tuple { toList:=[] }),V.c (Value.tuple { toList:=[] }),V.c (Value.tuple { toList:=[] }),V.c (Value.tuple { toList:=[] }),V.c (Value.tuple { toList:=[] }),V.c (Value.tuple { toList:=[] }),V.c (Value.tuple { toList:=[] }),V.c (Value.tuple { toList:=[] }),V.c (Value.tuple { toList:=[] }),V.c (Value.tuple { toList:=[] }),V.c (Value.tuple { toList:=[] }),V.c (Value.tuple { toList:=[] }),V.c (Value.tuple { toList:=[] }),V.c (Value.tuple { toList:=[] }),V.c (Value.tuple { toList:=[] }),V.c (Value.tuple { toList:=[] }),V.c (Value.tuple { toList:=[] }),V.c (Value.tuple { toList:=[] }),V.c (Value.tuple { toList:=[] }),V.c (Value.tuple { toList:=[] }),V.c (Value.tuple { toList:=[] }),V.c (Value.tuple { toList:=[] }),V.c (Value.tuple { toList:=[] }),V.c (Value.tuple { toList:=[] }),V.c (Value.tuple { toList:=[] }),V.c (Value.tuple { toList:=[] }),V.c (Value.tuple { toList:=[] }),V.c (Value.tuple { toList:=[] }),V.c (Value.tuple { toList:=[] }),V.c (Value.tuple { toList:=[] }),V.c (Value.tuple { toList:=[] }),V.c (Value.tuple { toList:=[] }),V.c (Value.tuple { toList:=[] }),V.c (Value.tuple { toList:=[] }),V.c (Value.tuple { toList:=[] }),V.c (Value.tuple { toList:=[] }),V.c (Value.tuple { toList:=[] }),V.c (Value.tuple { toList:=[] }),V.c (Value.tuple { toList:=[] }),V.c (Value.tuple { toList:=[] }),V.c (Value.tuple { toList:=[] }),V.c (Value.tuple { toList:=[] }),V.c (Value.tuple { toList:=[] }),V.c (Value.tuple { toList:=[] }),V.c (Value.tuple { toList:=[] }),V.c (Value.tuple { toList:=[] }),V.c (Value.tuple { toList:=[] }),V.c (Value.tuple { toList:=[] }),V.c (Value.tuple { toList:=[] }),V.c (Value.tuple { toList:=[] }),V.c (Value.tuple { toList:=[] }),V.c (Value.tuple { toList:=[] }),V.c (Value.tuple { toList:=[] }),V.c (Value.tuple { toList:=[] }),V.c (Value.tuple { toList:=[] }),V.c (Value.tuple { toList:=[] }),V.c (Value.tuple { toList:=[] }),V.c (Value.tuple { toList:=[] }),V.c (Value.tuple { toList:=[] }),V.c (Value.tuple { toList:=[] }),V.c (Value.tuple { toList:=[] }),V.c (Value.tuple { toList:=[] }),V.c (Value.tuple { toList:=[] }),V.c (Value.tuple { toList:=[] }),V.c (Value.tuple { toList:=[] }),V.c (Value.tuple { toList:=[] }),V.c (Value.tuple { toList:=[] }),V.c (Value.tuple { toList:=[] }),V.c (Value.tuple { toList:=[] }),V.c (Value.tuple { toList:=[] }),V.c (Value.tuple { toList:=[] }),V.c (Value.tuple { toList:=[] }),V.c (Value.tuple { toList:=[] }),V.c (Value.tuple { toList:=[] }),V.c (Value.tuple { toList:=[] }),V.c (Value.tuple { toList:=[] }),V.c (Value.tuple { toList:=[] }),V.c (Value.tuple { toList:=[] })],m:=[some { own:=true,cells:=A' },some { own:=true,cells:=B' }] }) (Ex.normal) (hSf o1 n1 c1 o2 n2 c2 tn tm X Y)),Ob.prop (V.c (Value.bool ((↑n1:Int)==(1:Int)))=vF),Ob.prop (vI (IntKind.wrap .i64 ((8:Int)*(↑n2:Int)))=vI (↑(8*n2):Int)),Ob.prop ((0:Int)≤(↑(8*n2):Int)∧(↑(8*n2):Int)≤(↑(8*n2):Int)∧(↑1:Int)*(↑(8*n2):Int)≤(281474976710656:Int)∧(↑(8*n2):Int) < (9223372036854775808:Int)),Ob.prop (TSpec Tryd.prog (Code.block 2 (Code.loop (loopOf Tryd.f68 2))) ({ t:=(slots 117 0 [(5,V.sl 0 o1 n1 c1),(6,V.sl 1 o2 n2 c2),(7,vI ↑tn),(8,vI ↑tm),(9,V.sl 2 0 (Int.toNat (↑(8*n2):Int)) (Int.toNat (↑(8*n2):Int))),(51,V.sl 0 o1 n1 c1),(52,vI ↑n1),(53,vF),(54,vF),(55,V.c (Value.tuple { toList:=[] })),(56,V.c (Value.tuple { toList:=[] })),(57,V.c (Value.tuple { toList:=[] })),(58,vF),(68,V.sl 1 o2 n2 c2),(69,vI ↑n2),(70,vI (↑(8*n2):Int)),(71,V.sl 2 0 (Int.toNat (↑(8*n2):Int)) (Int.toNat (↑(8*n2):Int))),(72,V.sl 1 o2 n2 c2),(73,vI ↑n2),(74,vI (0:Int))]),m:=[some { own:=true,cells:=X },some { own:=true,cells:=Y },some { own:=true,cells:=List.replicate (Int.toNat (↑(8*n2):Int)) (V.c (Value.int IntKind.u8 (0:Int))) }] }) (Ex.normal) (g2f o2 n2 c2 tn tm X Y D n2)),Ob.prop (vI (if (↑tm:Int) < (↑tn:Int) then (↑tm:Int) else (↑tn:Int))=vI (↑(8*q+r):Int)),Ob.prop (vI (IntKind.wrap .i64 (Int.tdiv (↑(8*q+r):Int) (8:Int)))=vI ↑q),Ob.prop (vI (IntKind.wrap .i64 ((↑q:Int)+(1:Int)))=vI ↑Q),Ob.prop ((0:Int)≤(↑Q:Int)∧(↑Q:Int)≤(↑Q:Int)∧(↑1:Int)*(↑Q:Int)≤(281474976710656:Int)∧(↑Q:Int) < (9223372036854775808:Int)),Ob.prop (vI (Int.tmod (↑(8*q+r):Int) (8:Int))=vI ↑r),Ob.val (execOp (St.rho ⟨(slots 110 0 [(109,vI ↑r)]),[]⟩) { dst:=some 110,op:=Op.binOp BinOp.shl 5 (Operand.const (Value.int IntKind.u8 (1:Int))) (Operand.tmp 109) 3,type:=5,pos := "gcd.go:97",after:={ toList:=[{ on:=2,ground:=Ground.data }] },guard:=none }) (Value.int IntKind.u8 (↑((2:Nat)^r):Int)),Ob.prop ((0:Int)≤(0:Int)∧(0:Int) < (↑(Int.toNat (↑Q:Int)):Int)),Ob.prop (0+0+List.length [V.c (Value.int IntKind.u8 (↑((2:Nat)^r):Int))]≤List.length (List.replicate (Int.toNat (↑Q:Int)) (V.c (Value.int IntKind.u8 (0:Int))))),Ob.prop (∃ xs,s1=strOfNums xs∧List.length xs=8*n2∧List.take (8*n2) (List.drop 0 D)=List.map (fun n=>V.c (Value.int IntKind.u8 n)) xs),Ob.prop (∃ xs,s2=strOfNums xs∧List.length xs=Int.toNat (↑Q:Int)∧List.take (Int.toNat (↑Q:Int)) (List.drop 0 (List.set (List.replicate (Int.toNat (↑Q:Int)) (V.c (Value.int IntKind.u8 (0:Int)))) 0 (V.c (Value.int IntKind.u8 (↑((2:Nat)^r):Int)))))=List.map (fun n=>V.c (Value.int IntKind.u8 n)) xs),Ob.call 27 { toList:=[Value.string s1,Value.string s2] } (Value.string res)]) (by kernel_rfl) (hP trivial (hF hl1 (hF hl2 (hF he1 (hF he2 (hF hr1 (hF hr2 (hP (TSpec.from (mask 117 0 [5,6,7,8]) h0 (by kernel_rfl) (by kernel_rfl) ⟨fA',fB',trivial⟩) (hP zV (hP (mul_v (by omega)) (hP zV (hP (TSpec.from (mask 117 0 [6,7,8,9,72,73,74]) h2 (by kernel_rfl) (by kernel_rfl) ⟨f0,f1,fun v hv=>by rw [List.eq_of_mem_replicate hv]; rfl,trivial⟩) (hP (min_v hmn) (hP (quo_8 rfl hr (by omega)) (hP zV (hP zV (hP (rem_8 rfl hr) (hV (sv_shl8 hr rfl rfl) (hP zV (hP (len_rep (by omega)) (hP hs1 (hP hs2 (hC hmul hN)))))))))))))))))))))))
theorem h4_got (o n c tn tm:Nat) (X Y D:List V) (i w k:Nat) (f0:∀ v:V,v∈X→v.isC=true) (f1:∀ v:V,v∈Y→v.isC=true) (f2:∀ v:V,v∈D→v.isC=true) (hn:n < 1125899906842624) (hi:i < n) (hk:k < 8) (hD:D.length=8*n):TSpec Tryd.prog (loopOf Tryd.f68 4) (g4t o n c tn tm X Y D i w k) (Ex.normal) (g4t o n c tn tm X Y (D.set (8*(n - 1 - i)+k) (ub (w/2^(56 - 8*k)%256))) i w (k+1)) :=
 tspec_dim (sc:=[(17,0,.is (.c (.bool true))),(19,3,.is (.c (.int .i64 ((n - 1):Nat)))),(19,5,.is (.c (.int .i64 ((n - 1 - i):Nat)))),(19,6,.is (.c (.int .i64 ((8*(n - 1 - i)):Nat)))),(19,8,.is (.c (.int .i64 ((8*(n - 1 - i)+k):Nat)))),(19,11,.is (.c (.int .i64 ((8*k):Nat)))),(19,12,.is (.c (.int .i64 ((56 - 8*k):Nat)))),(19,13,.fix (.int .u64 (w/2^(56 - 8*k):Nat))),(19,14,.is (ub (w/2^(56 - 8*k)%256))),(19,15,.is (.p 2 (8*(n - 1 - i)+k))),(19,16,.fix undef),(20,0,.is (.c (.int .i64 ((k+1):Nat))))]) (sb:=[]) (obs:=[Ob.prop (V.c (Value.bool (decide ((↑k:Int) < (8:Int))))=vT),Ob.prop (vI (IntKind.wrap .i64 ((↑n:Int) - (1:Int)))=vI (↑(n - 1):Int)),Ob.prop (vI (IntKind.wrap .i64 ((↑(n - 1):Int) - (↑i:Int)))=vI (↑(n - 1 - i):Int)),Ob.prop (vI (IntKind.wrap .i64 ((8:Int)*(↑(n - 1 - i):Int)))=vI (↑(8*(n - 1 - i)):Int)),Ob.prop (vI (IntKind.wrap .i64 ((↑(8*(n - 1 - i)):Int)+(↑k:Int)))=vI (↑(8*(n - 1 - i)+k):Int)),Ob.prop (vI (IntKind.wrap .i64 ((8:Int)*(↑k:Int)))=vI (↑(8*k):Int)),Ob.prop (vI (IntKind.wrap .i64 ((56:Int) - (↑(8*k):Int)))=vI (↑(56 - 8*k):Int)),Ob.val (execOp (St.rho ⟨(slots 95 0 [(91,vU ↑w),(94,vI (↑(56 - 8*k):Int))]),[]⟩) { dst:=some 95,op:=Op.binOp BinOp.shr 70 (Operand.tmp 91) (Operand.tmp 94) 3,type:=70,pos := "gcd.go:92",after:={ toList:=[{ on:=9,ground:=Ground.data },{ on:=12,ground:=Ground.data }] },guard:=none }) (Value.int IntKind.u64 (↑(w/(2:Nat)^(56 - 8*k)):Int)),Ob.prop (V.c (Value.int IntKind.u8 (IntKind.wrap .u8 (↑(w/(2:Nat)^(56 - 8*k)):Int)))=ub (w/(2:Nat)^(56 - 8*k)%256)),Ob.prop (V.p 2 (0+Int.toNat (↑(8*(n - 1 - i)+k):Int)*1)=V.p 2 (8*(n - 1 - i)+k)),Ob.prop ((0:Int)≤(↑(8*(n - 1 - i)+k):Int)∧(↑(8*(n - 1 - i)+k):Int) < (↑(8*n):Int)),Ob.prop (8*(n - 1 - i)+k+List.length [V.c (Value.int IntKind.u8 (↑(w/(2:Nat)^(56 - 8*k)%256):Int))]≤List.length D),Ob.prop (vI (IntKind.wrap .i64 ((↑k:Int)+(1:Int)))=vI (↑(k+1):Int))]) (mask 117 0 [6,7,8,9,10,11,72,73,74,79]) 3 (by kernel_rfl) (hP zV (hP zV (hP zV (hP (mul_v (by omega)) (hP zV (hP (mul_v (by omega)) (hP zV (hV (sv_shr (by omega) rfl rfl) (hP u64_u8 (hP p_2 (hP zV (hP (len_le (by omega)) (hP zV hN))))))))))))) ⟨f1,f0,flat_set rfl f2,trivial⟩
theorem h4_endt (o n c tn tm:Nat) (X Y D:List V) (i w:Nat) (f0:∀ v:V,v∈X→v.isC=true) (f1:∀ v:V,v∈Y→v.isC=true) (f2:∀ v:V,v∈D→v.isC=true):TSpec Tryd.prog (loopOf Tryd.f68 4) (g4t o n c tn tm X Y D i w 8) (Ex.exit 4) (g4t o n c tn tm X Y D i w 8) :=
 tspec_dim (sc:=[]) (sb:=[]) (obs:=[]) (mask 117 0 [6,7,8,9,10,11,72,73,74,79]) 3 (by kernel_rfl) hN ⟨f1,f0,f2,trivial⟩
theorem h2_got (o n c tn tm:Nat) (X Y D:List V) (D':List V) (i w:Nat) (f0:∀ v:V,v∈X→v.isC=true) (f1:∀ v:V,v∈Y→v.isC=true) (f2:∀ v:V,v∈D→v.isC=true) (f3:∀ v:V,v∈D' → v.isC=true) (hn:n < 1125899906842624) (hi:i < n) (hy:Y[o+i]? = some (uu w)) (h4:TSpec Tryd.prog (.block 4 (.loop (loopOf Tryd.f68 4))) (g4t o n c tn tm X Y D i w 0) .normal (g4t o n c tn tm X Y D' i w 8)):TSpec Tryd.prog (loopOf Tryd.f68 2) (g2t o n c tn tm X Y D i) (Ex.normal) (g2t o n c tn tm X Y D' (i+1)) :=
 tspec_dim (sc:=[(14,0,.is (.c (.bool true))),(15,1,.is (.p 0 (o+i))),(15,2,.fix (.int .u64 (w:Nat))),(21,0,.is (.c (.int .i64 ((i+1):Nat))))]) (sb:=[(4,.normal,g4t o n c tn tm X Y D' i w 8)]) (obs:=[Ob.prop (V.c (Value.bool (decide ((↑i:Int) < (↑n:Int))))=vT),Ob.prop (V.p 0 (o+Int.toNat (↑i:Int)*1)=V.p 0 (o+i)),Ob.prop ((0:Int)≤(↑i:Int)∧(↑i:Int) < (↑n:Int)),Ob.prop (Y[o+i]? = some (vU ↑w)),Ob.prop (TSpec Tryd.prog (Code.block 4 (Code.loop (loopOf Tryd.f68 4))) ({ t:=(slots 117 0 [(6,V.sl 0 o n c),(7,vI ↑tn),(8,vI ↑tm),(9,V.sl 2 0 (8*n) (8*n)),(10,vI ↑i),(11,vU ↑w),(72,V.sl 0 o n c),(73,vI ↑n),(74,vI ↑i),(75,vT),(76,vI ↑i),(77,V.p 0 (o+i)),(78,vU ↑w),(79,vI (0:Int))]),m:=[some { own:=true,cells:=Y },some { own:=true,cells:=X },some { own:=true,cells:=D }] }) (Ex.normal) (g4t o n c tn tm X Y D' i w 8)),Ob.prop (vI (IntKind.wrap .i64 ((↑i:Int)+(1:Int)))=vI (↑(i+1):Int))]) (mask 117 0 [6,7,8,9,72,73,74]) 3 (by kernel_rfl) (hP zV (hP zV (hP zV (hP hy (hP (TSpec.from (mask 117 0 [6,7,8,9,10,11,72,73,74,79]) h4 (by kernel_rfl) (by kernel_rfl) ⟨f1,f0,f2,trivial⟩) (hP zV hN)))))) ⟨f1,f0,f3,trivial⟩
theorem h2_endt (o n c tn tm:Nat) (X Y D:List V) (f0:∀ v:V,v∈X→v.isC=true) (f1:∀ v:V,v∈Y→v.isC=true) (f2:∀ v:V,v∈D→v.isC=true):TSpec Tryd.prog (loopOf Tryd.f68 2) (g2t o n c tn tm X Y D n) (Ex.exit 2) (g2t o n c tn tm X Y D n) :=
 tspec_dim (sc:=[(14,0,.is (.c (.bool false)))]) (sb:=[]) (obs:=[Ob.prop (V.c (Value.bool (decide ((↑n:Int) < (↑n:Int))))=vF)]) (mask 117 0 [6,7,8,9,72,73,74]) 3 (by kernel_rfl) (hP zV hN) ⟨f1,f0,f2,trivial⟩
theorem ha_fnot (a b s1 s2 res:ByteArray) (N1 N2 tn tm p1 q1 r1 p2 q2 r2 o1 n1 c1 o2 n2 c2 q r Q x y g:Nat) (A Bq A' B' X Y D:List V) (fA:∀ v:V,v∈A→v.isC=true) (fB:∀ v:V,v∈Bq→v.isC=true) (fA':∀ v:V,v∈A' → v.isC=true) (fB':∀ v:V,v∈B' → v.isC=true) (f0:∀ v:V,v∈X→v.isC=true) (f1:∀ v:V,v∈Y→v.isC=true) (f2:∀ v:V,v∈D→v.isC=true) (hl1:FSpec Tryd.prog 72 [.c (.string a)] [] (.sl 0 0 N1 N1) [some ⟨true,A⟩]) (hl2:FSpec Tryd.prog 72 [.c (.string b)] [some ⟨true,A⟩] (.sl 1 0 N2 N2) [some ⟨true,A⟩,some ⟨true,Bq⟩]) (he1:FSpec Tryd.prog 73 [.sl 0 0 N1 N1] [some ⟨true,A⟩,some ⟨true,Bq⟩] (ii tn) [some ⟨true,A⟩,some ⟨true,Bq⟩]) (he2:FSpec Tryd.prog 73 [.sl 1 0 N2 N2] [some ⟨true,A⟩,some ⟨true,Bq⟩] (ii tm) [some ⟨true,A⟩,some ⟨true,Bq⟩]) (hr1:FSpec Tryd.prog 74 [.sl 0 0 N1 N1,ii tn] [some ⟨true,A⟩,some ⟨true,Bq⟩] (.sl 0 p1 q1 r1) [some ⟨true,A'⟩,some ⟨true,Bq⟩]) (hr2:FSpec Tryd.prog 74 [.sl 1 0 N2 N2,ii tm] [some ⟨true,A'⟩,some ⟨true,Bq⟩] (.sl 1 p2 q2 r2) [some ⟨true,A'⟩,some ⟨true,B'⟩]) (h0:TSpec Tryd.prog (.block 0 (.loop (loopOf Tryd.f68 0))) (hSf p1 q1 r1 p2 q2 r2 tn tm A' B') .normal (hSt o1 n1 c1 o2 n2 c2 tn tm X Y)) (hn2:n2 < 17592186044416) (hq:q < 17592186044416) (hr:r < 8) (hQ:Q=q+1) (hmn:min tn tm=8*q+r) (e1:n1=1) (e2:n2=1) (hx:X[o1]? = some (uu x)) (hy:Y[o2]? = some (uu y)) (hg:CSpec Tryd.prog 67 #[.int .u64 (x:Int),.int .u64 (y:Int)] (.int .u64 (g:Nat))) (h2:TSpec Tryd.prog (.block 2 (.loop (loopOf Tryd.f68 2))) (g2t o2 n2 c2 tn tm X (Y.set o2 (uu g)) (List.replicate (8*n2) (.c (.int .u8 0))) 0) .normal (g2t o2 n2 c2 tn tm X (Y.set o2 (uu g)) D n2)) (hs1:∃ xs:List Int,s1=strOfNums xs∧xs.length=8*n2∧(D.drop 0).take (8*n2)=xs.map fun n=>.c (.int .u8 n)) (hs2:∃ xs:List Int,s2=strOfNums xs∧xs.length=Q∧(((List.replicate Q (V.c (.int .u8 0))).set 0 (ub (2^r))).drop 0).take Q=xs.map fun n=>.c (.int .u8 n)) (hmul:CSpec Tryd.prog 27 #[.string s1,.string s2] (.string res)):FSpec Tryd.prog 68 [.c (.string a),.c (.string b)] [] (V.c (Value.string res)) [] :=
 fspec_ok Tryd.func68 (sc:=[(1,1,.call (.sl 0 0 N1 N1) [some ⟨true,A⟩]),(1,3,.call (.sl 1 0 N2 N2) [some ⟨true,A⟩,some ⟨true,Bq⟩]),(2,1,.call (ii tn) [some ⟨true,A⟩,some ⟨true,Bq⟩]),(2,3,.call (ii tm) [some ⟨true,A⟩,some ⟨true,Bq⟩]),(3,2,.call (.sl 0 p1 q1 r1) [some ⟨true,A'⟩,some ⟨true,Bq⟩]),(3,5,.call (.sl 1 p2 q2 r2) [some ⟨true,A'⟩,some ⟨true,B'⟩]),(10,2,.is (.c (.bool true))),(10,6,.is (.c (.bool true))),(11,2,.is (.p 1 o1)),(11,3,.fix (.int .u64 (x:Nat))),(11,5,.is (.p 0 o2)),(11,6,.fix (.int .u64 (y:Nat))),(11,7,.fix (.int .u64 (g:Nat))),(11,8,.is (.p 0 o2)),(11,9,.fix undef),(12,2,.is (.c (.int .i64 ((8*n2):Nat)))),(22,2,.is (.c (.int .i64 ((8*q+r):Nat)))),(23,1,.is (.c (.int .i64 (q:Nat)))),(23,2,.is (.c (.int .i64 (Q:Nat)))),(24,2,.is (.c (.int .i64 (r:Nat)))),(24,3,.fix (.int .u8 (2^r:Nat))),(24,5,.fix undef),(25,1,.fix (.string s1)),(25,3,.fix (.string s2)),(25,4,.fix (.string res))]) (sb:=[(0,.normal,hSt o1 n1 c1 o2 n2 c2 tn tm X Y),(2,.normal,g2t o2 n2 c2 tn tm X (Y.set o2 (uu g)) D n2)]) (keep:=[]) (obs:=[Ob.prop (Flat ([]:List (Option Row))),Ob.fcall 72 [V.c (Value.string a)] [] (V.sl 0 0 N1 N1) [some { own:=true,cells:=A }],Ob.fcall 72 [V.c (Value.string b)] [some { own:=true,cells:=A }] (V.sl 1 0 N2 N2) [some { own:=true,cells:=A },some { own:=true,cells:=Bq }],Ob.fcall 73 [V.sl 0 0 N1 N1] [some { own:=true,cells:=A },some { own:=true,cells:=Bq }] (vI ↑tn) [some { own:=true,cells:=A },some { own:=true,cells:=Bq }],Ob.fcall 73 [V.sl 1 0 N2 N2] [some { own:=true,cells:=A },some { own:=true,cells:=Bq }] (vI ↑tm) [some { own:=true,cells:=A },some { own:=true,cells:=Bq }],Ob.fcall 74 [V.sl 0 0 N1 N1,vI ↑tn] [some { own:=true,cells:=A },some { own:=true,cells:=Bq }] (V.sl 0 p1 q1 r1) [some { own:=true,cells:=A' },some { own:=true,cells:=Bq }],Ob.fcall 74 [V.sl 1 0 N2 N2,vI ↑tm] [some { own:=true,cells:=A' },some { own:=true,cells:=Bq }] (V.sl 1 p2 q2 r2) [some { own:=true,cells:=A' },some { own:=true,cells:=B' }],Ob.prop (TSpec Tryd.prog (Code.block 0 (Code.loop (loopOf Tryd.f68 0))) ({ t:=[V.c (Value.string a),V.c (Value.string b),V.c (Value.tuple { toList:=[] }),V.c (Value.tuple { toList:=[] }),V.c (Value.string { data:=#[] }),V.sl 0 p1 q1 r1,V.sl 1 p2 q2 r2,vI ↑tn,vI ↑tm,V.c (Value.tuple { toList:=[] }),V.c (Value.tuple { toList:=[] }),V.c (Value.tuple { toList:=[] }),V.c (Value.tuple { toList:=[] }),V.c (Value.tuple { toList:=[] }),V.c (Value.string a),V.sl 0 0 N1 N1,V.c (Value.string b),V.sl 1 0 N2 N2,V.sl 0 0 N1 N1,vI ↑tn,V.sl 1 0 N2 N2,vI ↑tm,V.sl 0 0 N1 N1,vI ↑tn,V.sl 0 p1 q1 r1,V.sl 1 0 N2 N2,vI ↑tm,V.sl 1 p2 q2 r2,V.c (Value.tuple { toList:=[] }),V.c (Value.tuple { toList:=[] }),V.c (Value.tuple { toList:=[] }),V.c (Value.tuple { toList:=[] }),V.c (Value.tuple { toList:=[] }),V.c (Value.tuple { toList:=[] }),V.c (Value.tuple { toList:=[] }),V.c (Value.tuple { toList:=[] }),V.c (Value.tuple { toList:=[] }),V.c (Value.tuple { toList:=[] }),V.c (Value.tuple { toList:=[] }),V.c (Value.tuple { toList:=[] }),V.c (Value.tuple { toList:=[] }),V.c (Value.tuple { toList:=[] }),V.c (Value.tuple { toList:=[] }),V.c (Value.tuple { toList:=[] }),V.c (Value.tuple { toList:=[] }),V.c (Value.tuple { toList:=[] }),V.c (Value.tuple { toList:=[] }),V.c (Value.tuple { toList:=[] }),V.c (Value.tuple { toList:=[] }),V.c (Value.tuple { toList:=[] }),V.c (Value.tuple { toList:=[] }),V.c (Value.tuple { toList:=[] }),V.c (Value.tuple { toList:=[] }),V.c (Value.tuple { toList:=[] }),V.c (Value.tuple { toList:=[] }),V.c (Value.tuple { toList:=[] }),V.c (Value.tuple { toList:=[] }),V.c (Value.tuple { toList:=[] }),V.c (Value.tuple { toList:=[] }),V.c (Value.tuple { toList:=[] }),V.c (Value.tuple { toList:=[] }),V.c (Value.tuple { toList:=[] }),V.c (Value.tuple { toList:=[] }),V.c (Value.tuple { toList:=[] }),V.c (Value.tuple { toList:=[] }),V.c (Value.tuple { toList:=[] }),V.c (Value.tuple { toList:=[] }),V.c (Value.tuple { toList:=[] }),V.c (Value.tuple { toList:=[] }),V.c (Value.tuple { toList:=[] }),V.c (Value.tuple { toList:=[] }),V.c (Value.tuple { toList:=[] }),V.c (Value.tuple { toList:=[] }),V.c (Value.tuple { toList:=[] }),V.c (Value.tuple { toList:=[] }),V.c (Value.tuple { toList:=[] }),V.c (Value.tuple { toList:=[] }),V.c (Value.tuple { toList:=[] }),V.c (Value.tuple { toList:=[] }),V.c (Value.tuple { toList:=[] }),V.c (Value.tuple { toList:=[] }),V.c (Value.tuple { toList:=[] }),V.c (Value.tuple { toList:=[] }),V.c (Value.tuple { toList:=[] }),V.c (Value.tuple { toList:=[] }),V.c (Value.tuple { toList:=[] }),V.c (Value.tuple { toList:=[] }),V.c (Value.tuple { toList:=[] }),V.c (Value.tuple { toList:=[] }),V.c (Value.tuple { toList:=[] }),V.c (Value.tuple { toList:=[] }),V.c (Value.tuple { toList:=[] }),V.c (Value.tuple { toList:=[] }),V.c (Value.tuple { toList:=[] }),V.c (Value.tuple { toList:=[] }),V.c (Value.tuple { toList:=[] }),V.c (Value.tuple { toList:=[] }),V.c (Value.tuple { toList:=[] }),V.c (Value.tuple { toList:=[] }),V.c (Value.tuple { toList:=[] }),V.c (Value.tuple { toList:=[] }),V.c (Value.tuple { toList:=[] }),V.c (Value.tuple { toList:=[] }),V.c (Value.tuple { toList:=[] }),V.c (Value.tuple { toList:=[] }),V.c (Value.tuple { toList:=[] }),V.c (Value.tuple { toList:=[] }),V.c (Value.tuple { toList:=[] }),V.c (Value.tuple { toList:=[] }),V.c (Value.tuple { toList:=[] }),V.c (Value.tuple { toList:=[] }),V.c (Value.tuple { toList:=[] }),V.c (Value.tuple { toList:=[] }),V.c (Value.tuple { toList:=[] }),V.c (Value.tuple { toList:=[] }),V.c (Value.tuple { toList:=[] }),V.c (Value.tuple { toList:=[] })],m:=[some { own:=true,cells:=A' },some { own:=true,cells:=B' }] }) (Ex.normal) (hSt o1 n1 c1 o2 n2 c2 tn tm X Y)),Ob.prop (V.c (Value.bool ((↑n1:Int)==(1:Int)))=vT),Ob.prop (V.c (Value.bool ((↑n2:Int)==(1:Int)))=vT),Ob.prop (V.p 1 (o1+0)=V.p 1 o1),Ob.prop ((0:Int)≤(0:Int)∧(0:Int) < (↑n1:Int)),Ob.prop (X[o1]? = some (vU ↑x)),Ob.prop (V.p 0 (o2+0)=V.p 0 o2),Ob.prop ((0:Int)≤(0:Int)∧(0:Int) < (↑n2:Int)),Ob.prop (Y[o2]? = some (vU ↑y)),Ob.call 67 { toList:=[Value.int IntKind.u64 (↑x:Int),Value.int IntKind.u64 (↑y:Int)] } (Value.int IntKind.u64 (↑g:Int)),Ob.prop (V.p 0 (o2+0)=V.p 0 o2),Ob.prop ((0:Int)≤(0:Int)∧(0:Int) < (↑n2:Int)),Ob.prop (o2+List.length [vU ↑g]≤List.length Y),Ob.prop (vI (IntKind.wrap .i64 ((8:Int)*(↑n2:Int)))=vI (↑(8*n2):Int)),Ob.prop ((0:Int)≤(↑(8*n2):Int)∧(↑(8*n2):Int)≤(↑(8*n2):Int)∧(↑1:Int)*(↑(8*n2):Int)≤(281474976710656:Int)∧(↑(8*n2):Int) < (9223372036854775808:Int)),Ob.prop (TSpec Tryd.prog (Code.block 2 (Code.loop (loopOf Tryd.f68 2))) ({ t:=(slots 117 0 [(5,V.sl 1 o1 n1 c1),(6,V.sl 0 o2 n2 c2),(7,vI ↑tn),(8,vI ↑tm),(9,V.sl 2 0 (Int.toNat (↑(8*n2):Int)) (Int.toNat (↑(8*n2):Int))),(51,V.sl 1 o1 n1 c1),(52,vI ↑n1),(53,vT),(54,vT),(55,V.sl 0 o2 n2 c2),(56,vI ↑n2),(57,vT),(58,vT),(59,V.sl 0 o2 n2 c2),(60,V.sl 1 o1 n1 c1),(61,V.p 1 o1),(62,vU ↑x),(63,V.sl 0 o2 n2 c2),(64,V.p 0 o2),(65,vU ↑y),(66,vU ↑g),(67,V.p 0 o2),(68,V.sl 0 o2 n2 c2),(69,vI ↑n2),(70,vI (↑(8*n2):Int)),(71,V.sl 2 0 (Int.toNat (↑(8*n2):Int)) (Int.toNat (↑(8*n2):Int))),(72,V.sl 0 o2 n2 c2),(73,vI ↑n2),(74,vI (0:Int))]),m:=[some { own:=Row.own { own:=true,cells:=Y },cells:=List.set Y o2 (vU ↑g) },some { own:=true,cells:=X },some { own:=true,cells:=List.replicate (Int.toNat (↑(8*n2):Int)) (V.c (Value.int IntKind.u8 (0:Int))) }] }) (Ex.normal) (g2t o2 n2 c2 tn tm X (List.set Y o2 (uu g)) D n2)),Ob.prop (vI (if (↑tm:Int) < (↑tn:Int) then (↑tm:Int) else (↑tn:Int))=vI (↑(8*q+r):Int)),Ob.prop (vI (IntKind.wrap .i64 (Int.tdiv (↑(8*q+r):Int) (8:Int)))=vI ↑q),Ob.prop (vI (IntKind.wrap .i64 ((↑q:Int)+(1:Int)))=vI ↑Q),Ob.prop ((0:Int)≤(↑Q:Int)∧(↑Q:Int)≤(↑Q:Int)∧(↑1:Int)*(↑Q:Int)≤(281474976710656:Int)∧(↑Q:Int) < (9223372036854775808:Int)),Ob.prop (vI (Int.tmod (↑(8*q+r):Int) (8:Int))=vI ↑r),Ob.val (execOp (St.rho ⟨(slots 110 0 [(109,vI ↑r)]),[]⟩) { dst:=some 110,op:=Op.binOp BinOp.shl 5 (Operand.const (Value.int IntKind.u8 (1:Int))) (Operand.tmp 109) 3,type:=5,pos := "gcd.go:97",after:={ toList:=[{ on:=2,ground:=Ground.data }] },guard:=none }) (Value.int IntKind.u8 (↑((2:Nat)^r):Int)),Ob.prop ((0:Int)≤(0:Int)∧(0:Int) < (↑(Int.toNat (↑Q:Int)):Int)),Ob.prop (0+0+List.length [V.c (Value.int IntKind.u8 (↑((2:Nat)^r):Int))]≤List.length (List.replicate (Int.toNat (↑Q:Int)) (V.c (Value.int IntKind.u8 (0:Int))))),Ob.prop (∃ xs,s1=strOfNums xs∧List.length xs=8*n2∧List.take (8*n2) (List.drop 0 D)=List.map (fun n=>V.c (Value.int IntKind.u8 n)) xs),Ob.prop (∃ xs,s2=strOfNums xs∧List.length xs=Int.toNat (↑Q:Int)∧List.take (Int.toNat (↑Q:Int)) (List.drop 0 (List.set (List.replicate (Int.toNat (↑Q:Int)) (V.c (Value.int IntKind.u8 (0:Int)))) 0 (V.c (Value.int IntKind.u8 (↑((2:Nat)^r):Int)))))=List.map (fun n=>V.c (Value.int IntKind.u8 n)) xs),Ob.call 27 { toList:=[Value.string s1,Value.string s2] } (Value.string res)]) (by kernel_rfl) (hP trivial (hF hl1 (hF hl2 (hF he1 (hF he2 (hF hr1 (hF hr2 (hP (TSpec.from (mask 117 0 [5,6,7,8]) h0 (by kernel_rfl) (by kernel_rfl) ⟨fA',fB',trivial⟩) (hP zV (hP zV (hP p_1 (hP zV (hP hx (hP p_1 (hP zV (hP hy (hC hg (hP p_1 (hP zV (hP (len_of hy) (hP (mul_v (by omega)) (hP zV (hP (TSpec.from (mask 117 0 [6,7,8,9,72,73,74]) h2 (by kernel_rfl) (by kernel_rfl) ⟨flat_set rfl f1,f0,fun v hv=>by rw [List.eq_of_mem_replicate hv]; rfl,trivial⟩) (hP (min_v hmn) (hP (quo_8 rfl hr (by omega)) (hP zV (hP zV (hP (rem_8 rfl hr) (hV (sv_shl8 hr rfl rfl) (hP zV (hP (len_rep (by omega)) (hP hs1 (hP hs2 (hC hmul hN))))))))))))))))))))))))))))))))))
theorem ha_fnbt (a b s1 s2 res:ByteArray) (N1 N2 tn tm p1 q1 r1 p2 q2 r2 o1 n1 c1 o2 n2 c2 q r Q:Nat) (A Bq A' B' X Y D:List V) (fA:∀ v:V,v∈A→v.isC=true) (fB:∀ v:V,v∈Bq→v.isC=true) (fA':∀ v:V,v∈A' → v.isC=true) (fB':∀ v:V,v∈B' → v.isC=true) (f0:∀ v:V,v∈X→v.isC=true) (f1:∀ v:V,v∈Y→v.isC=true) (f2:∀ v:V,v∈D→v.isC=true) (hl1:FSpec Tryd.prog 72 [.c (.string a)] [] (.sl 0 0 N1 N1) [some ⟨true,A⟩]) (hl2:FSpec Tryd.prog 72 [.c (.string b)] [some ⟨true,A⟩] (.sl 1 0 N2 N2) [some ⟨true,A⟩,some ⟨true,Bq⟩]) (he1:FSpec Tryd.prog 73 [.sl 0 0 N1 N1] [some ⟨true,A⟩,some ⟨true,Bq⟩] (ii tn) [some ⟨true,A⟩,some ⟨true,Bq⟩]) (he2:FSpec Tryd.prog 73 [.sl 1 0 N2 N2] [some ⟨true,A⟩,some ⟨true,Bq⟩] (ii tm) [some ⟨true,A⟩,some ⟨true,Bq⟩]) (hr1:FSpec Tryd.prog 74 [.sl 0 0 N1 N1,ii tn] [some ⟨true,A⟩,some ⟨true,Bq⟩] (.sl 0 p1 q1 r1) [some ⟨true,A'⟩,some ⟨true,Bq⟩]) (hr2:FSpec Tryd.prog 74 [.sl 1 0 N2 N2,ii tm] [some ⟨true,A'⟩,some ⟨true,Bq⟩] (.sl 1 p2 q2 r2) [some ⟨true,A'⟩,some ⟨true,B'⟩]) (h0:TSpec Tryd.prog (.block 0 (.loop (loopOf Tryd.f68 0))) (hSf p1 q1 r1 p2 q2 r2 tn tm A' B') .normal (hSt o1 n1 c1 o2 n2 c2 tn tm X Y)) (hn2:n2 < 17592186044416) (hq:q < 17592186044416) (hr:r < 8) (hQ:Q=q+1) (hmn:min tn tm=8*q+r) (e1:n1=0) (h2:TSpec Tryd.prog (.block 2 (.loop (loopOf Tryd.f68 2))) (g2t o2 n2 c2 tn tm X Y (List.replicate (8*n2) (.c (.int .u8 0))) 0) .normal (g2t o2 n2 c2 tn tm X Y D n2)) (hs1:∃ xs:List Int,s1=strOfNums xs∧xs.length=8*n2∧(D.drop 0).take (8*n2)=xs.map fun n=>.c (.int .u8 n)) (hs2:∃ xs:List Int,s2=strOfNums xs∧xs.length=Q∧(((List.replicate Q (V.c (.int .u8 0))).set 0 (ub (2^r))).drop 0).take Q=xs.map fun n=>.c (.int .u8 n)) (hmul:CSpec Tryd.prog 27 #[.string s1,.string s2] (.string res)):FSpec Tryd.prog 68 [.c (.string a),.c (.string b)] [] (V.c (Value.string res)) [] :=
 fspec_ok Tryd.func68 (sc:=[(1,1,.call (.sl 0 0 N1 N1) [some ⟨true,A⟩]),(1,3,.call (.sl 1 0 N2 N2) [some ⟨true,A⟩,some ⟨true,Bq⟩]),(2,1,.call (ii tn) [some ⟨true,A⟩,some ⟨true,Bq⟩]),(2,3,.call (ii tm) [some ⟨true,A⟩,some ⟨true,Bq⟩]),(3,2,.call (.sl 0 p1 q1 r1) [some ⟨true,A'⟩,some ⟨true,Bq⟩]),(3,5,.call (.sl 1 p2 q2 r2) [some ⟨true,A'⟩,some ⟨true,B'⟩]),(10,2,.is (.c (.bool false))),(12,2,.is (.c (.int .i64 ((8*n2):Nat)))),(22,2,.is (.c (.int .i64 ((8*q+r):Nat)))),(23,1,.is (.c (.int .i64 (q:Nat)))),(23,2,.is (.c (.int .i64 (Q:Nat)))),(24,2,.is (.c (.int .i64 (r:Nat)))),(24,3,.fix (.int .u8 (2^r:Nat))),(24,5,.fix undef),(25,1,.fix (.string s1)),(25,3,.fix (.string s2)),(25,4,.fix (.string res))]) (sb:=[(0,.normal,hSt o1 n1 c1 o2 n2 c2 tn tm X Y),(2,.normal,g2t o2 n2 c2 tn tm X Y D n2)]) (keep:=[]) (obs:=[Ob.prop (Flat ([]:List (Option Row))),Ob.fcall 72 [V.c (Value.string a)] [] (V.sl 0 0 N1 N1) [some { own:=true,cells:=A }],Ob.fcall 72 [V.c (Value.string b)] [some { own:=true,cells:=A }] (V.sl 1 0 N2 N2) [some { own:=true,cells:=A },some { own:=true,cells:=Bq }],Ob.fcall 73 [V.sl 0 0 N1 N1] [some { own:=true,cells:=A },some { own:=true,cells:=Bq }] (vI ↑tn) [some { own:=true,cells:=A },some { own:=true,cells:=Bq }],Ob.fcall 73 [V.sl 1 0 N2 N2] [some { own:=true,cells:=A },some { own:=true,cells:=Bq }] (vI ↑tm) [some { own:=true,cells:=A },some { own:=true,cells:=Bq }],Ob.fcall 74 [V.sl 0 0 N1 N1,vI ↑tn] [some { own:=true,cells:=A },some { own:=true,cells:=Bq }] (V.sl 0 p1 q1 r1) [some { own:=true,cells:=A' },some { own:=true,cells:=Bq }],Ob.fcall 74 [V.sl 1 0 N2 N2,vI ↑tm] [some { own:=true,cells:=A' },some { own:=true,cells:=Bq }] (V.sl 1 p2 q2 r2) [some { own:=true,cells:=A' },some { own:=true,cells:=B' }],Ob.prop (TSpec Tryd.prog (Code.block 0 (Code.loop (loopOf Tryd.f68 0))) ({ t:=[V.c (Value.string a),V.c (Value.string b),V.c (Value.tuple { toList:=[] }),V.c (Value.tuple { toList:=[] }),V.c (Value.string { data:=#[] }),V.sl 0 p1 q1 r1,V.sl 1 p2 q2 r2,vI ↑tn,vI ↑tm,V.c (Value.tuple { toList:=[] }),V.c (Value.tuple { toList:=[] }),V.c (Value.tuple { toList:=[] }),V.c (Value.tuple { toList:=[] }),V.c (Value.tuple { toList:=[] }),V.c (Value.string a),V.sl 0 0 N1 N1,V.c (Value.string b),V.sl 1 0 N2 N2,V.sl 0 0 N1 N1,vI ↑tn,V.sl 1 0 N2 N2,vI ↑tm,V.sl 0 0 N1 N1,vI ↑tn,V.sl 0 p1 q1 r1,V.sl 1 0 N2 N2,vI ↑tm,V.sl 1 p2 q2 r2,V.c (Value.tuple { toList:=[] }),V.c (Value.tuple { toList:=[] }),V.c (Value.tuple { toList:=[] }),V.c (Value.tuple { toList:=[] }),V.c (Value.tuple { toList:=[] }),V.c (Value.tuple { toList:=[] }),V.c (Value.tuple { toList:=[] }),V.c (Value.tuple { toList:=[] }),V.c (Value.tuple { toList:=[] }),V.c (Value.tuple { toList:=[] }),V.c (Value.tuple { toList:=[] }),V.c (Value.tuple { toList:=[] }),V.c (Value.tuple { toList:=[] }),V.c (Value.tuple { toList:=[] }),V.c (Value.tuple { toList:=[] }),V.c (Value.tuple { toList:=[] }),V.c (Value.tuple { toList:=[] }),V.c (Value.tuple { toList:=[] }),V.c (Value.tuple { toList:=[] }),V.c (Value.tuple { toList:=[] }),V.c (Value.tuple { toList:=[] }),V.c (Value.tuple { toList:=[] }),V.c (Value.tuple { toList:=[] }),V.c (Value.tuple { toList:=[] }),V.c (Value.tuple { toList:=[] }),V.c (Value.tuple { toList:=[] }),V.c (Value.tuple { toList:=[] }),V.c (Value.tuple { toList:=[] }),V.c (Value.tuple { toList:=[] }),V.c (Value.tuple { toList:=[] }),V.c (Value.tuple { toList:=[] }),V.c (Value.tuple { toList:=[] }),V.c (Value.tuple { toList:=[] }),V.c (Value.tuple { toList:=[] }),V.c (Value.tuple { toList:=[] }),V.c (Value.tuple { toList:=[] }),V.c (Value.tuple { toList:=[] }),V.c (Value.tuple { toList:=[] }),V.c (Value.tuple { toList:=[] }),V.c (Value.tuple { toList:=[] }),V.c (Value.tuple { toList:=[] }),V.c (Value.tuple { toList:=[] }),V.c (Value.tuple { toList:=[] }),V.c (Value.tuple { toList:=[] }),V.c (Value.tuple { toList:=[] }),V.c (Value.tuple { toList:=[] }),V.c (Value.tuple { toList:=[] }),V.c (Value.tuple { toList:=[] }),V.c (Value.tuple { toList:=[] }),V.c (Value.tuple { toList:=[] }),V.c (Value.tuple { toList:=[] }),V.c (Value.tuple { toList:=[] }),V.c (Value.tuple { toList:=[] }),V.c (Value.tuple { toList:=[] }),V.c (Value.tuple { toList:=[] }),V.c (Value.tuple { toList:=[] }),V.c (Value.tuple { toList:=[] }),V.c (Value.tuple { toList:=[] }),V.c (Value.tuple { toList:=[] }),V.c (Value.tuple { toList:=[] }),V.c (Value.tuple { toList:=[] }),V.c (Value.tuple { toList:=[] }),V.c (Value.tuple { toList:=[] }),V.c (Value.tuple { toList:=[] }),V.c (Value.tuple { toList:=[] }),V.c (Value.tuple { toList:=[] }),V.c (Value.tuple { toList:=[] }),V.c (Value.tuple { toList:=[] }),V.c (Value.tuple { toList:=[] }),V.c (Value.tuple { toList:=[] }),V.c (Value.tuple { toList:=[] }),V.c (Value.tuple { toList:=[] }),V.c (Value.tuple { toList:=[] }),V.c (Value.tuple { toList:=[] }),V.c (Value.tuple { toList:=[] }),V.c (Value.tuple { toList:=[] }),V.c (Value.tuple { toList:=[] }),V.c (Value.tuple { toList:=[] }),V.c (Value.tuple { toList:=[] }),V.c (Value.tuple { toList:=[] }),V.c (Value.tuple { toList:=[] }),V.c (Value.tuple { toList:=[] }),V.c (Value.tuple { toList:=[] }),V.c (Value.tuple { toList:=[] }),V.c (Value.tuple { toList:=[] }),V.c (Value.tuple { toList:=[] }),V.c (Value.tuple { toList:=[] }),V.c (Value.tuple { toList:=[] }),V.c (Value.tuple { toList:=[] })],m:=[some { own:=true,cells:=A' },some { own:=true,cells:=B' }] }) (Ex.normal) (hSt o1 n1 c1 o2 n2 c2 tn tm X Y)),Ob.prop (V.c (Value.bool ((↑n1:Int)==(1:Int)))=vF),Ob.prop (vI (IntKind.wrap .i64 ((8:Int)*(↑n2:Int)))=vI (↑(8*n2):Int)),Ob.prop ((0:Int)≤(↑(8*n2):Int)∧(↑(8*n2):Int)≤(↑(8*n2):Int)∧(↑1:Int)*(↑(8*n2):Int)≤(281474976710656:Int)∧(↑(8*n2):Int) < (9223372036854775808:Int)),Ob.prop (TSpec Tryd.prog (Code.block 2 (Code.loop (loopOf Tryd.f68 2))) ({ t:=(slots 117 0 [(5,V.sl 1 o1 n1 c1),(6,V.sl 0 o2 n2 c2),(7,vI ↑tn),(8,vI ↑tm),(9,V.sl 2 0 (Int.toNat (↑(8*n2):Int)) (Int.toNat (↑(8*n2):Int))),(51,V.sl 1 o1 n1 c1),(52,vI ↑n1),(53,vF),(54,vF),(55,V.c (Value.tuple { toList:=[] })),(56,V.c (Value.tuple { toList:=[] })),(57,V.c (Value.tuple { toList:=[] })),(58,vF),(68,V.sl 0 o2 n2 c2),(69,vI ↑n2),(70,vI (↑(8*n2):Int)),(71,V.sl 2 0 (Int.toNat (↑(8*n2):Int)) (Int.toNat (↑(8*n2):Int))),(72,V.sl 0 o2 n2 c2),(73,vI ↑n2),(74,vI (0:Int))]),m:=[some { own:=true,cells:=Y },some { own:=true,cells:=X },some { own:=true,cells:=List.replicate (Int.toNat (↑(8*n2):Int)) (V.c (Value.int IntKind.u8 (0:Int))) }] }) (Ex.normal) (g2t o2 n2 c2 tn tm X Y D n2)),Ob.prop (vI (if (↑tm:Int) < (↑tn:Int) then (↑tm:Int) else (↑tn:Int))=vI (↑(8*q+r):Int)),Ob.prop (vI (IntKind.wrap .i64 (Int.tdiv (↑(8*q+r):Int) (8:Int)))=vI ↑q),Ob.prop (vI (IntKind.wrap .i64 ((↑q:Int)+(1:Int)))=vI ↑Q),Ob.prop ((0:Int)≤(↑Q:Int)∧(↑Q:Int)≤(↑Q:Int)∧(↑1:Int)*(↑Q:Int)≤(281474976710656:Int)∧(↑Q:Int) < (9223372036854775808:Int)),Ob.prop (vI (Int.tmod (↑(8*q+r):Int) (8:Int))=vI ↑r),Ob.val (execOp (St.rho ⟨(slots 110 0 [(109,vI ↑r)]),[]⟩) { dst:=some 110,op:=Op.binOp BinOp.shl 5 (Operand.const (Value.int IntKind.u8 (1:Int))) (Operand.tmp 109) 3,type:=5,pos := "gcd.go:97",after:={ toList:=[{ on:=2,ground:=Ground.data }] },guard:=none }) (Value.int IntKind.u8 (↑((2:Nat)^r):Int)),Ob.prop ((0:Int)≤(0:Int)∧(0:Int) < (↑(Int.toNat (↑Q:Int)):Int)),Ob.prop (0+0+List.length [V.c (Value.int IntKind.u8 (↑((2:Nat)^r):Int))]≤List.length (List.replicate (Int.toNat (↑Q:Int)) (V.c (Value.int IntKind.u8 (0:Int))))),Ob.prop (∃ xs,s1=strOfNums xs∧List.length xs=8*n2∧List.take (8*n2) (List.drop 0 D)=List.map (fun n=>V.c (Value.int IntKind.u8 n)) xs),Ob.prop (∃ xs,s2=strOfNums xs∧List.length xs=Int.toNat (↑Q:Int)∧List.take (Int.toNat (↑Q:Int)) (List.drop 0 (List.set (List.replicate (Int.toNat (↑Q:Int)) (V.c (Value.int IntKind.u8 (0:Int)))) 0 (V.c (Value.int IntKind.u8 (↑((2:Nat)^r):Int)))))=List.map (fun n=>V.c (Value.int IntKind.u8 n)) xs),Ob.call 27 { toList:=[Value.string s1,Value.string s2] } (Value.string res) ]) (by kernel_rfl) (hP trivial (hF hl1 (hF hl2 (hF he1 (hF he2 (hF hr1 (hF hr2 (hP (TSpec.from (mask 117 0 [5,6,7,8]) h0 (by kernel_rfl) (by kernel_rfl) ⟨fA',fB',trivial⟩) (hP zV (hP (mul_v (by omega)) (hP zV (hP (TSpec.from (mask 117 0 [6,7,8,9,72,73,74]) h2 (by kernel_rfl) (by kernel_rfl) ⟨f1,f0,fun v hv=>by rw [List.eq_of_mem_replicate hv]; rfl,trivial⟩) (hP (min_v hmn) (hP (quo_8 rfl hr (by omega)) (hP zV (hP zV (hP (rem_8 rfl hr) (hV (sv_shl8 hr rfl rfl) (hP zV (hP (len_rep (by omega)) (hP hs1 (hP hs2 (hC hmul hN)))))))))))))))))))))))
end Go.Proofs.YtjefpjajkbldpaaDoor.G
end
