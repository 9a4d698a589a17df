import Derived.Test.YtikepohhmagdpaaDoorYU5
import Derived.Test.YtikepohhmagdpaaDoorProg
import Derived.KernelRfl
import Derived.Laws.Bits64
import Derived.Shelf.Spec.TrailingZeros
section
namespace Go.Proofs.YtikepohhmagdpaaDoor.G
open Go.Proofs.YtikepohhmagdpaaDoor.U
set_option linter.unusedVariables false
set_option maxRecDepth 100000
def uu (x:Nat):V:=.c (.int .u64 (x:Int))
def cutS (off c:Nat) (b:Bool) (X:List Nat) (n:Nat):St:=⟨.sl 0 off n c :: List.replicate 20 .any,[some ⟨b,X.map uu⟩]⟩
def cutN (X:List Nat) (off:Nat):Nat → Nat
  | 0=>0
  | n + 1=>if X.getD (off + n) 0 = 0 then cutN X off n else n + 1
theorem uflat (b:Bool) (X:List Nat):Flat [some ⟨b,X.map uu⟩]:=⟨fun v hv=>by
  obtain ⟨x,_,rfl⟩:=List.mem_map.1 hv
  rfl,trivial⟩
theorem uget {X:List Nat} {i:Nat} (h:i < X.length):(X.map uu)[i]? = some (uu (X.getD i 0)):=by
  rw [List.getElem?_map,List.getElem?_eq_getElem h]
  simp [List.getD_eq_getElem?_getD,List.getElem?_eq_getElem h]
theorem cut_go (off c:Nat) (b:Bool) (X:List Nat) (n:Nat) (x:Nat) (hn:0 < n) (hc:n ≤ c) (hb:(n:Int) < 9223372036854775807) (hx:(X.map uu)[off + (n - 1)]? = some (uu x)) (h0:x = 0):TSpec Tryd.prog (loopOf Tryd.f208 0) (cutS off c b X n) (Ex.normal) (cutS off c b X (n - 1)) :=
  tspec_dim (sc:=[(1,2,.is (.c (.bool true))),(1,7,.is (.c (.int .i64 (n - 1)))),(1,8,.is (.p 0 (off + (n-1)))),(1,9,.fix (.int .u64 (x:Nat))),(1,10,.is (.c (.bool true))),(2,3,.is (.c (.int .i64 (n - 1)))),(2,4,.is (.sl 0 off (n-1) c))]) (sb:=[]) (obs:=[Ob.prop (V.c (Value.bool (decide ((↑n:Int) > (0:Int)))) = vT),Ob.prop (vI (IntKind.wrap .i64 ((↑n:Int) - (1:Int))) = vI ((↑n:Int) - (1:Int))),Ob.prop (V.p 0 (off + Int.toNat ((↑n:Int) - (1:Int)) * 1) = V.p 0 (off + (n - 1))),Ob.prop ((0:Int) ≤ (↑n:Int) - (1:Int) ∧ (↑n:Int) - (1:Int) < (↑n:Int)),Ob.prop ((List.map uu X)[off + (n - 1)]? = some (vU ↑x)),Ob.prop (V.c (Value.bool ((↑x:Int) == (0:Int))) = vT),Ob.prop (vI (IntKind.wrap .i64 ((↑n:Int) - (1:Int))) = vI ((↑n:Int) - (1:Int))),Ob.prop (V.sl 0 (off + if c = 0 then (0:Nat) else (0:Nat)) (Int.toNat ((↑n:Int) - (1:Int)) - 0) (c - 0) = V.sl 0 off (n - 1) c),Ob.prop ((0:Int) ≤ (0:Int) ∧ (0:Int) ≤ (↑n:Int) - (1:Int) ∧ (↑n:Int) - (1:Int) ≤ (↑c:Int))]) [true] 1 (by kernel_rfl) (hP zV (hP zV (hP zV (hP zV (hP hx (hP zV (hP zV (hP zV (hP zV hN))))))))) (uflat b X)
theorem cut_stop (off c:Nat) (b:Bool) (X:List Nat) (n:Nat) (x:Nat) (hn:0 < n) (hc:n ≤ c) (hb:(n:Int) < 9223372036854775807) (hx:(X.map uu)[off + (n - 1)]? = some (uu x)) (h0:x ≠ 0):TSpec Tryd.prog (loopOf Tryd.f208 0) (cutS off c b X n) (Ex.exit 0) (cutS off c b X n) :=
  tspec_dim (sc:=[(1,2,.is (.c (.bool true))),(1,7,.is (.c (.int .i64 (n - 1)))),(1,8,.is (.p 0 (off + (n-1)))),(1,9,.fix (.int .u64 (x:Nat))),(1,10,.is (.c (.bool false)))]) (sb:=[]) (obs:=[Ob.prop (V.c (Value.bool (decide ((↑n:Int) > (0:Int)))) = vT),Ob.prop (vI (IntKind.wrap .i64 ((↑n:Int) - (1:Int))) = vI ((↑n:Int) - (1:Int))),Ob.prop (V.p 0 (off + Int.toNat ((↑n:Int) - (1:Int)) * 1) = V.p 0 (off + (n - 1))),Ob.prop ((0:Int) ≤ (↑n:Int) - (1:Int) ∧ (↑n:Int) - (1:Int) < (↑n:Int)),Ob.prop ((List.map uu X)[off + (n - 1)]? = some (vU ↑x)),Ob.prop (V.c (Value.bool ((↑x:Int) == (0:Int))) = vF)]) [true] 1 (by kernel_rfl) (hP zV (hP zV (hP zV (hP zV (hP hx (hP zV hN)))))) (uflat b X)
theorem cut_end (off c:Nat) (b:Bool) (X:List Nat)  : TSpec Tryd.prog (loopOf Tryd.f208 0) (cutS off c b X 0) (Ex.exit 0) (cutS off c b X 0) :=
  tspec_dim (sc:=[]) (sb:=[]) (obs:=[]) [true] 1 (by kernel_rfl) hN (uflat b X)
theorem cut_fnt (off c:Nat) (X:List Nat) (n m:Nat) (h:TSpec Tryd.prog (.block 0 (.loop (loopOf Tryd.f208 0))) (cutS off c true X n) .normal (cutS off c true X m)):FSpec Tryd.prog 208 [.sl 0 off n c] [some ⟨true,X.map uu⟩] (V.sl 0 off m c) [some ⟨true,X.map uu⟩] :=
  fspec_ok Tryd.func208 (sc:=[]) (sb:=[(0,.normal,cutS off c true X m)]) (keep:=[]) (obs:=[Ob.prop (Flat ([some ⟨true,X.map uu⟩]:List (Option Row))),Ob.prop (TSpec Tryd.prog (Code.block 0 (Code.loop (loopOf Tryd.f208 0))) ({ t:=[V.sl 0 off n c,V.c (Value.tuple { toList:=[] }),V.c (Value.slice none 0 0),V.c (Value.tuple { toList:=[] }),V.c (Value.tuple { toList:=[] }),V.c (Value.tuple { toList:=[] }),V.c (Value.tuple { toList:=[] }),V.c (Value.tuple { toList:=[] }),V.c (Value.tuple { toList:=[] }),V.c (Value.tuple { toList:=[] }),V.c (Value.tuple { toList:=[] }),V.c (Value.tuple { toList:=[] }),V.c (Value.tuple { toList:=[] }),V.c (Value.tuple { toList:=[] }),V.c (Value.tuple { toList:=[] }),V.c (Value.tuple { toList:=[] }),V.c (Value.tuple { toList:=[] }),V.c (Value.tuple { toList:=[] }),V.c (Value.tuple { toList:=[] }),V.c (Value.tuple { toList:=[] }),V.c (Value.tuple { toList:=[] })],m:=[some { own:=true,cells:=List.map uu X }] }) (Ex.normal) (cutS off c true X m))]) (by kernel_rfl) (hP (uflat true X) (hP (TSpec.from [true] h (by kernel_rfl) (by kernel_rfl) (uflat true X)) hN))
theorem cut_fnf (off c:Nat) (X:List Nat) (n m:Nat) (h:TSpec Tryd.prog (.block 0 (.loop (loopOf Tryd.f208 0))) (cutS off c false X n) .normal (cutS off c false X m)):FSpec Tryd.prog 208 [.sl 0 off n c] [some ⟨false,X.map uu⟩] (V.sl 0 off m c) [some ⟨false,X.map uu⟩] :=
  fspec_ok Tryd.func208 (sc:=[]) (sb:=[(0,.normal,cutS off c false X m)]) (keep:=[]) (obs:=[Ob.prop (Flat ([some ⟨false,X.map uu⟩]:List (Option Row))),Ob.prop (TSpec Tryd.prog (Code.block 0 (Code.loop (loopOf Tryd.f208 0))) ({ t:=[V.sl 0 off n c,V.c (Value.tuple { toList:=[] }),V.c (Value.slice none 0 0),V.c (Value.tuple { toList:=[] }),V.c (Value.tuple { toList:=[] }),V.c (Value.tuple { toList:=[] }),V.c (Value.tuple { toList:=[] }),V.c (Value.tuple { toList:=[] }),V.c (Value.tuple { toList:=[] }),V.c (Value.tuple { toList:=[] }),V.c (Value.tuple { toList:=[] }),V.c (Value.tuple { toList:=[] }),V.c (Value.tuple { toList:=[] }),V.c (Value.tuple { toList:=[] }),V.c (Value.tuple { toList:=[] }),V.c (Value.tuple { toList:=[] }),V.c (Value.tuple { toList:=[] }),V.c (Value.tuple { toList:=[] }),V.c (Value.tuple { toList:=[] }),V.c (Value.tuple { toList:=[] }),V.c (Value.tuple { toList:=[] })],m:=[some { own:=false,cells:=List.map uu X }] }) (Ex.normal) (cutS off c false X m)) ]) (by kernel_rfl) (hP (uflat false X) (hP (TSpec.from [true] h (by kernel_rfl) (by kernel_rfl) (uflat false X)) hN))
theorem cut_spec (off c:Nat) (b:Bool) (X:List Nat) (n:Nat) (hl:off + n ≤ X.length) (hc:n ≤ c) (hb:n < 9223372036854775807) :
    FSpec Tryd.prog 208 [.sl 0 off n c] [some ⟨b,X.map uu⟩] (.sl 0 off (cutN X off n) c) [some ⟨b,X.map uu⟩]:=by
  have key:=(loop_spec (cutS off c b X) id (fun k=>k ≤ n ∧ cutN X off k = cutN X off n) (e:=.normal) (s':=cutS off c b X (cutN X off n)) ?_ n ⟨Nat.le_refl _,rfl⟩:TSpec Tryd.prog (.block 0 (.loop (loopOf Tryd.f208 0))) (cutS off c b X n) .normal _)
  · cases b with
    | true=>exact cut_fnt off c X n _ key
    | false=>exact cut_fnf off c X n _ key
  rintro k ⟨hk,he⟩
  cases k with
  | zero=>exact .inr (.inl ⟨rfl,by rw [← he]; exact cut_end off c b X⟩)
  | succ k =>
    have hx:=uget (X:=X) (i:=off + (k + 1 - 1)) (by omega)
    by_cases h0:X.getD (off + k) 0 = 0
    · exact .inl ⟨k,⟨by omega,by rw [← he,cutN,if_pos h0]⟩,by simp,cut_go off c b X (k + 1) _ (by omega) (by omega) (by omega) hx h0⟩
    refine .inr (.inl ⟨rfl,?_⟩)
    have:cutN X off n = k + 1:=by rw [← he,cutN,if_neg h0]
    rw [this]
    exact cut_stop off c b X (k + 1) _ (by omega) (by omega) (by omega) hx h0
end Go.Proofs.YtikepohhmagdpaaDoor.G
end
section
open Go.RowKit
namespace Go.Proofs.YtikepohhmagdpaaDoor.G
open Go.Proofs.YtikepohhmagdpaaDoor.U
set_option linter.unusedVariables false
set_option maxRecDepth 100000
theorem tz_a {x:Nat} (h:x ≠ 0):V.c (.bool ((x:Int) == 0)) = V.c (.bool false):=by
  congr 2
  simpa using h
theorem tz_b {x idx:Nat} (h:IntKind.u64.wrap (bits BinOp.and IntKind.u64 (x:Int) (IntKind.u64.wrap (-(x:Int))) * 285870213051353865) / 288230376151711744 = (idx:Int)) :
    V.c (Value.int IntKind.u64 (Int.fdiv (IntKind.wrap IntKind.u64 (IntKind.wrap IntKind.u64 (↑(BitVec.toNat (BitVec.ofInt (64:Nat) (↑x:Int) &&& BitVec.ofInt (64:Nat) (IntKind.wrap IntKind.u64 ((0:Int) - (↑x:Int))))):Int) * (285870213051353865:Int))) ((2:Int) ^ (58:Nat)))) = V.c (Value.int IntKind.u64 (↑idx:Int)):=by
  congr 2
  rw [← h,Int.zero_sub]
  rw [show (2:Int) ^ 58 = 288230376151711744 by decide,Int.fdiv_eq_ediv_of_nonneg _ (by omega)]
  rfl
def allB (p:Nat → Prop):Nat → Nat → Prop
  | 0,_=>True
  | n + 1,i=>p i ∧ allB p n (i + 1)
theorem allB_at {p:Nat → Prop}:∀ {n i k:Nat},allB p n i → i ≤ k → k < i + n → p k
  | 0,i,k,_,h1,h2=>by omega
  | n + 1,i,k,h,h1,h2=>by
    by_cases hk:k = i
    · exact hk ▸ h.1
    exact allB_at h.2 (by omega) (by omega)
theorem tz_ix (i:Nat) (h:i < 64) (t:List V) (ht:t = List.replicate 10 .any ++ [.c (.int .u64 (i:Int))]) (d:Option Tmp) (ps:String) (af:Array Edge):sval Tryd.prog (execOp (St.rho ⟨t,[]⟩) { dst:=d,op:=.indexAddr 213 (.global tabG) (.tmp 10),type:=0,pos:=ps,after:=af,guard:=none }) = some (.value (.pointer (some ⟨tabG,i,none⟩))):=by
  subst ht
  refine allB_at (p:=fun i=>sval Tryd.prog (execOp (St.rho ⟨List.replicate 10 .any ++ [.c (.int .u64 (i:Int))],[]⟩) { dst:=d,op:=.indexAddr 213 (.global tabG) (.tmp 10),type:=0,pos:=ps,after:=af,guard:=none }) = some (.value (.pointer (some ⟨tabG,i,none⟩)))) (n:=64) (i:=0) ?_ (by omega) (by omega)
  repeat' (first | exact trivial | refine ⟨by show (_ = _); kernel_rfl,?_⟩)
theorem tz_ld {i k:Nat} (h:i < 64) (h3:deB.getD i 0 = (k:Int)):∀ (w:World),Laid w → Sem.run Tryd.prog (Instr.loadAt (5:Nat) (Value.pointer (some { block:=tabG,off:=i }))) w = Result.ok (Value.int IntKind.u8 (↑k:Int)) w:=by
  intro w hl
  have:=hl i h
  rw [h3] at this
  have ha:sval Tryd.prog (isAgg 5) = some false:=by kernel_rfl
  simp [Instr.loadAt,Instr.sureAddr,loadVar,sval_run ha,this]
theorem deB_at:∀ i,i < 64 → deB.getD i 0 = (Lib.deBruijn64tab.getD i 0:Nat):=by decide +kernel
theorem tz_c {k:Nat} (h:k < 64):V.c (Value.int IntKind.i64 (IntKind.wrap IntKind.i64 (↑k:Int))) = V.c (Value.int IntKind.i64 (↑k:Int)):=by
  rw [show IntKind.wrap .i64 (k:Int) = k by simp [IntKind.wrap,IntKind.signed,IntKind.bits]; omega]
theorem tz_fn (x idx:Nat) (k:Nat) (h0:x ≠ 0) (h1:IntKind.u64.wrap (bits BinOp.and IntKind.u64 (x:Int) (IntKind.u64.wrap (-(x:Int))) * 285870213051353865) / 288230376151711744 = (idx:Int)) (h2:idx < 64) (hk:k < 64) (h3:deB.getD idx 0 = (k:Int)):FSpec Tryd.prog 207 [.c (.int .u64 (x:Int))] [] (vI ↑k) [] :=
  fspec_ok Tryd.func207 (sc:=[(1,1,.is (.c (.bool false))),(3,5,.is (.c (.int .u64 (idx:Nat)))),(3,6,.fix (.pointer (some ⟨tabG,idx,none⟩))),(3,7,.fix (.int .u8 (k:Nat))),(3,8,.is (.c (.int .i64 (k:Nat))))]) (sb:=[]) (keep:=[]) (obs:=[Ob.prop (Flat ([]:List (Option Row))),Ob.prop (V.c (Value.bool ((↑x:Int) == (0:Int))) = vF),Ob.prop (vU (Int.fdiv (IntKind.wrap .u64 (IntKind.wrap .u64 (↑(BitVec.toNat (BitVec.ofInt 64 (↑x:Int) &&& BitVec.ofInt 64 (IntKind.wrap .u64 ((0:Int) - (↑x:Int))))):Int) * (285870213051353865:Int))) ((2:Int) ^ 58)) = vU ↑idx),Ob.val (execOp (St.rho ⟨(slots 11 0 [(10,vU ↑idx)]),[]⟩) { dst:=some 11,op:=Op.indexAddr 213 (Operand.global 1) (Operand.tmp 10),type:=0,pos := "bits.go:105",after:={ toList:=[{ on:=5,ground:=Ground.data }] },guard:=none }) (Value.pointer (some { block:=1,off:=idx })),Ob.prop (∀ (w:World),Laid w → Sem.run Tryd.prog (Instr.loadAt 5 (Value.pointer (some { block:=1,off:=idx }))) w = Result.ok (Value.int IntKind.u8 (↑k:Int)) w),Ob.prop (vI (IntKind.wrap .i64 (↑k:Int)) = vI ↑k) ]) (by kernel_rfl) (hP trivial (hP (tz_a h0) (hP (tz_b h1) (hV (tz_ix idx h2 _ rfl _ _ _) (hP (tz_ld h2 h3) (hP (tz_c hk) hN))))))
theorem tz_spec (x:Nat) (hx:x < 18446744073709551616) (h0:x ≠ 0):CSpec Tryd.prog 207 #[.int .u64 (x:Int)] (.int .i64 (Lib.ctz 64 x:Nat)):=by
  obtain ⟨hlow,hk⟩:=Lib.lowest_bit 64 x h0 hx
  obtain ⟨hi,htab⟩:=Lib.deBruijn64_at _ hk
  exact cspec_of (tz_fn x _ _ h0 (tz64_key x _ hx h0 hlow) hi hk (by rw [deB_at _ hi,htab]))
end Go.Proofs.YtikepohhmagdpaaDoor.G
end
section
namespace Go.Proofs.YtikepohhmagdpaaDoor.G
open Go.Proofs.YtikepohhmagdpaaDoor.U
set_option linter.unusedVariables false
set_option maxRecDepth 100000
def lw:List Nat → Nat
  | []=>0
  | x :: r=>x + 18446744073709551616 * lw r
def Tz (v t:Nat):Prop:=∃ m,v = 2 ^ t * (2 * m + 1)
def Wd (X:List Nat):Prop:=∀ x ∈ X,x < 18446744073709551616
def win (X:List Nat) (off n:Nat):List Nat:=(X.drop off).take n
theorem tz_ctz {x:Nat} (h0:x ≠ 0) (hx:x < 18446744073709551616):Tz x (Lib.ctz 64 x) ∧ Lib.ctz 64 x < 64:=by
  obtain ⟨m,hm,hk⟩:=Lib.ctzFrom_spec 64 x (by omega) hx
  have e:Lib.ctz 64 x = Lib.ctzFrom 64 x:=by simp [Lib.ctz,h0]
  exact ⟨⟨m,by rw [e]; exact hm⟩,by rw [e]; exact hk⟩
theorem tz_low {x t v:Nat} (ht:t < 64) (h:Tz x t):Tz (x + 18446744073709551616 * v) t:=by
  obtain ⟨m,rfl⟩:=h
  obtain ⟨d,hd⟩:∃ d,64 = t + (d + 1):=⟨63 - t,by omega⟩
  refine ⟨m + 2 ^ d * v,?_⟩
  rw [show (18446744073709551616:Nat) = 2 ^ 64 by decide,hd,Nat.pow_add,Nat.pow_succ,Nat.mul_assoc,← Nat.mul_add]
  congr 1
  rw [Nat.mul_add,Nat.mul_comm (2 ^ d) 2,Nat.mul_assoc]
  omega
theorem tz_up {v t:Nat} (h:Tz v t):Tz (0 + 18446744073709551616 * v) (64 + t):=by
  obtain ⟨m,rfl⟩:=h
  refine ⟨m,?_⟩
  rw [Nat.pow_add,show (2:Nat) ^ 64 = 18446744073709551616 by decide,Nat.zero_add,Nat.mul_assoc]
def evS (off n c:Nat) (b:Bool) (X:List Nat) (k:Nat):St:=⟨[.sl 0 off n c,.any,.any,.c (.int .i64 (k:Nat))] ++ List.replicate 15 .any,[some ⟨b,X.map uu⟩]⟩
theorem ev_go (off n c:Nat) (b:Bool) (X:List Nat) (k x:Nat) (hn:k < n) (hb:n < 1125899906842624) (hx:(X.map uu)[off + k]? = some (uu x)) (h0:x = 0):TSpec Tryd.prog (loopOf Tryd.f179 0) (evS off n c b X k) (Ex.normal) (evS off n c b X (k + 1)) :=
  tspec_dim (sc:=[(2,2,.is (.p 0 (off + k))),(2,3,.fix (.int .u64 (x:Nat))),(2,4,.is (.c (.bool true))),(3,1,.is (.c (.int .i64 (k+1:Nat))))]) (sb:=[]) (obs:=[Ob.prop (V.p 0 (off + Int.toNat (↑k:Int) * 1) = V.p 0 (off + k)),Ob.prop ((0:Int) ≤ (↑k:Int) ∧ (↑k:Int) < (↑n:Int)),Ob.prop ((List.map uu X)[off + k]? = some (vU ↑x)),Ob.prop (V.c (Value.bool ((↑x:Int) == (0:Int))) = vT),Ob.prop (vI (IntKind.wrap .i64 ((↑k:Int) + (1:Int))) = vI (↑(k + 1):Int))]) [true,false,false,true] 1 (by kernel_rfl) (hP zV (hP zV (hP hx (hP zV (hP zV hN))))) (uflat b X)
theorem ev_stop (off n c:Nat) (b:Bool) (X:List Nat) (k x:Nat) (hn:k < n) (hb:n < 1125899906842624) (hx:(X.map uu)[off + k]? = some (uu x)) (h0:x ≠ 0):TSpec Tryd.prog (loopOf Tryd.f179 0) (evS off n c b X k) (Ex.exit 0) (evS off n c b X k) :=
  tspec_dim (sc:=[(2,2,.is (.p 0 (off + k))),(2,3,.fix (.int .u64 (x:Nat))),(2,4,.is (.c (.bool false)))]) (sb:=[]) (obs:=[Ob.prop (V.p 0 (off + Int.toNat (↑k:Int) * 1) = V.p 0 (off + k)),Ob.prop ((0:Int) ≤ (↑k:Int) ∧ (↑k:Int) < (↑n:Int)),Ob.prop ((List.map uu X)[off + k]? = some (vU ↑x)),Ob.prop (V.c (Value.bool ((↑x:Int) == (0:Int))) = vF)]) [true,false,false,true] 1 (by kernel_rfl) (hP zV (hP zV (hP hx (hP zV hN)))) (uflat b X)
theorem ev_fnt (off n c:Nat) (X:List Nat) (k x z:Nat) (hn:k < n) (hb:n < 1125899906842624) (hx:(X.map uu)[off + k]? = some (uu x)) (hz:z < 64) (ht:CSpec Tryd.prog 207 #[.int .u64 (x:Int)] (.int .i64 (z:Nat))) (h:TSpec Tryd.prog (.block 0 (.loop (loopOf Tryd.f179 0))) (evS off n c true X 0) .normal (evS off n c true X k)):FSpec Tryd.prog 179 [.sl 0 off n c] [some ⟨true,X.map uu⟩] (vI (↑(64 * k + z):Int)) [some ⟨true,X.map uu⟩] :=
  fspec_ok Tryd.func179 (sc:=[(4,1,.is (.c (.int .i64 (64 * k:Nat)))),(4,4,.is (.p 0 (off + k))),(4,5,.fix (.int .u64 (x:Nat))),(4,6,.fix (.int .i64 (z:Nat))),(4,7,.is (.c (.int .i64 (64 * k + z:Nat))))]) (sb:=[(0,.normal,evS off n c true X k)]) (keep:=[]) (obs:=[Ob.prop (Flat ([some ⟨true,X.map uu⟩]:List (Option Row))),Ob.prop (TSpec Tryd.prog (Code.block 0 (Code.loop (loopOf Tryd.f179 0))) ({ t:=[V.sl 0 off n c,V.c (Value.tuple { toList:=[] }),vI (0:Int),vI (0:Int),V.c (Value.tuple { toList:=[] }),V.c (Value.tuple { toList:=[] }),V.c (Value.tuple { toList:=[] }),V.c (Value.tuple { toList:=[] }),V.c (Value.tuple { toList:=[] }),V.c (Value.tuple { toList:=[] }),V.c (Value.tuple { toList:=[] }),V.c (Value.tuple { toList:=[] }),V.c (Value.tuple { toList:=[] }),V.c (Value.tuple { toList:=[] }),V.c (Value.tuple { toList:=[] }),V.c (Value.tuple { toList:=[] }),V.c (Value.tuple { toList:=[] }),V.c (Value.tuple { toList:=[] }),V.c (Value.tuple { toList:=[] })],m:=[some { own:=true,cells:=List.map uu X }] }) (Ex.normal) (evS off n c true X k)),Ob.prop (vI (IntKind.wrap .i64 ((64:Int) * (↑k:Int))) = vI (↑(64 * k):Int)),Ob.prop (V.p 0 (off + Int.toNat (↑k:Int) * 1) = V.p 0 (off + k)),Ob.prop ((0:Int) ≤ (↑k:Int) ∧ (↑k:Int) < (↑n:Int)),Ob.prop ((List.map uu X)[off + k]? = some (vU ↑x)),Ob.call 207 { toList:=[Value.int IntKind.u64 (↑x:Int)] } (Value.int IntKind.i64 (↑z:Int)),Ob.prop (vI (IntKind.wrap .i64 ((↑(64 * k):Int) + (↑z:Int))) = vI (↑(64 * k + z):Int))]) (by kernel_rfl) (hP (uflat true X) (hP (TSpec.from [true,false,false,true] h (by kernel_rfl) (by kernel_rfl) (uflat true X)) (hP zV (hP zV (hP zV (hP hx (hC ht (hP zV hN))))))))
theorem ev_fnf (off n c:Nat) (X:List Nat) (k x z:Nat) (hn:k < n) (hb:n < 1125899906842624) (hx:(X.map uu)[off + k]? = some (uu x)) (hz:z < 64) (ht:CSpec Tryd.prog 207 #[.int .u64 (x:Int)] (.int .i64 (z:Nat))) (h:TSpec Tryd.prog (.block 0 (.loop (loopOf Tryd.f179 0))) (evS off n c false X 0) .normal (evS off n c false X k)):FSpec Tryd.prog 179 [.sl 0 off n c] [some ⟨false,X.map uu⟩] (vI (↑(64 * k + z):Int)) [some ⟨false,X.map uu⟩] :=
  fspec_ok Tryd.func179 (sc:=[(4,1,.is (.c (.int .i64 (64 * k:Nat)))),(4,4,.is (.p 0 (off + k))),(4,5,.fix (.int .u64 (x:Nat))),(4,6,.fix (.int .i64 (z:Nat))),(4,7,.is (.c (.int .i64 (64 * k + z:Nat))))]) (sb:=[(0,.normal,evS off n c false X k)]) (keep:=[]) (obs:=[Ob.prop (Flat ([some ⟨false,X.map uu⟩]:List (Option Row))),Ob.prop (TSpec Tryd.prog (Code.block 0 (Code.loop (loopOf Tryd.f179 0))) ({ t:=[V.sl 0 off n c,V.c (Value.tuple { toList:=[] }),vI (0:Int),vI (0:Int),V.c (Value.tuple { toList:=[] }),V.c (Value.tuple { toList:=[] }),V.c (Value.tuple { toList:=[] }),V.c (Value.tuple { toList:=[] }),V.c (Value.tuple { toList:=[] }),V.c (Value.tuple { toList:=[] }),V.c (Value.tuple { toList:=[] }),V.c (Value.tuple { toList:=[] }),V.c (Value.tuple { toList:=[] }),V.c (Value.tuple { toList:=[] }),V.c (Value.tuple { toList:=[] }),V.c (Value.tuple { toList:=[] }),V.c (Value.tuple { toList:=[] }),V.c (Value.tuple { toList:=[] }),V.c (Value.tuple { toList:=[] })],m:=[some { own:=false,cells:=List.map uu X }] }) (Ex.normal) (evS off n c false X k)),Ob.prop (vI (IntKind.wrap .i64 ((64:Int) * (↑k:Int))) = vI (↑(64 * k):Int)),Ob.prop (V.p 0 (off + Int.toNat (↑k:Int) * 1) = V.p 0 (off + k)),Ob.prop ((0:Int) ≤ (↑k:Int) ∧ (↑k:Int) < (↑n:Int)),Ob.prop ((List.map uu X)[off + k]? = some (vU ↑x)),Ob.call 207 { toList:=[Value.int IntKind.u64 (↑x:Int)] } (Value.int IntKind.i64 (↑z:Int)),Ob.prop (vI (IntKind.wrap .i64 ((↑(64 * k):Int) + (↑z:Int))) = vI (↑(64 * k + z):Int)) ]) (by kernel_rfl) (hP (uflat false X) (hP (TSpec.from [true,false,false,true] h (by kernel_rfl) (by kernel_rfl) (uflat false X)) (hP zV (hP zV (hP zV (hP hx (hC ht (hP zV hN))))))))
theorem ev_loop (off n c:Nat) (b:Bool) (X:List Nat) (hb:n < 1125899906842624) (hl:off + n ≤ X.length):∀ (r k:Nat),r = n - k → lw (win X (off + k) (n - k)) ≠ 0 →
    ∃ k',k ≤ k' ∧ k' < n ∧ X.getD (off + k') 0 ≠ 0 ∧ (∀ t,t < 64 → Tz (X.getD (off + k') 0) t → Tz (lw (win X (off + k) (n - k))) (64 * (k' - k) + t)) ∧ Rounds Tryd.prog (loopOf Tryd.f179 0) 0 (evS off n c b X k) .normal (evS off n c b X k'):=by
  intro r
  induction r with
  | zero =>
    intro k hr h
    rw [← hr] at h
    exact (h (by simp [win,lw])).elim
  | succ r ih =>
    intro k hr h
    have hk:off + k < X.length:=by omega
    have hw:win X (off + k) (n - k) = X.getD (off + k) 0 :: win X (off + (k + 1)) (n - (k + 1)):=by
      unfold win
      rw [List.drop_eq_getElem_cons hk,← hr,List.take_succ_cons,List.getD_eq_getElem?_getD,List.getElem?_eq_getElem hk]
      simp only [Option.getD_some]
      congr 2
      omega
    have hx:=uget hk
    by_cases h0:X.getD (off + k) 0 = 0
    · rw [hw,lw,h0] at h
      obtain ⟨k',h1,h2,h3,h4,h5⟩:=ih (k + 1) (by omega) (by omega)
      refine ⟨k',by omega,h2,h3,fun t ht htz=>?_,.step (ev_go off n c b X k _ (by omega) hb hx h0) h5⟩
      rw [hw,lw,h0,show 64 * (k' - k) + t = 64 + (64 * (k' - (k + 1)) + t) by omega]
      exact tz_up (h4 t ht htz)
    refine ⟨k,Nat.le_refl _,by omega,h0,fun t ht htz=>?_,.stop (ev_stop off n c b X k _ (by omega) hb hx h0)⟩
    rw [hw,lw,show 64 * (k - k) + t = t by omega]
    exact tz_low ht htz
theorem evens_spec (off n c:Nat) (b:Bool) (X:List Nat) (hw:Wd X) (hb:n < 1125899906842624) (hl:off + n ≤ X.length) (h0:lw (win X off n) ≠ 0) :
    ∃ t,t < 64 * n ∧ Tz (lw (win X off n)) t ∧ FSpec Tryd.prog 179 [.sl 0 off n c] [some ⟨b,X.map uu⟩] (.c (.int .i64 (t:Nat))) [some ⟨b,X.map uu⟩]:=by
  obtain ⟨k,_,hk,hx,htz,hloop⟩:=ev_loop off n c b X hb hl n 0 (by omega) h0
  have hkl:off + k < X.length:=by omega
  have hx64:X.getD (off + k) 0 < 18446744073709551616:=by
    rw [List.getD_eq_getElem?_getD,List.getElem?_eq_getElem hkl]
    exact hw _ (List.getElem_mem hkl)
  obtain ⟨hz,hz64⟩:=tz_ctz hx hx64
  refine ⟨64 * k + Lib.ctz 64 (X.getD (off + k) 0),by omega,htz _ hz64 hz,?_⟩
  cases b with
  | true=>exact ev_fnt off n c X k _ _ hk hb (uget hkl) hz64 (tz_spec _ hx64 hx) hloop.spec
  | false=>exact ev_fnf off n c X k _ _ hk hb (uget hkl) hz64 (tz_spec _ hx64 hx) hloop.spec
end Go.Proofs.YtikepohhmagdpaaDoor.G
end
