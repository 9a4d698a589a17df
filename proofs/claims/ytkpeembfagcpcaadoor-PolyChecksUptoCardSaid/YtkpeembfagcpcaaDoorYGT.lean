import Derived.Test.YtkpeembfagcpcaaDoorYU6
import Derived.Test.YtkpeembfagcpcaaDoorProg
import Derived.KernelRfl
import Derived.Laws.Bits64
import Derived.Shelf.Spec.TrailingZeros
open Go.RowKit
namespace Go.Proofs.YtkpeembfagcpcaaDoor.G
open Go.Proofs.YtkpeembfagcpcaaDoor.U
set_option linter.unusedVariables false
set_option maxRecDepth 100000
theorem tz_a {x:Nat} (h:x≠0):V.c (.bool ((x:Int)==0))=V.c (.bool false):=by
  congr 2
  simpa using h
theorem tz_b {x idx:Nat} (h:IntKind.u64.wrap (bits BinOp.and IntKind.u64 (x:Int) (IntKind.u64.wrap (-(x:Int)))*285870213051353865)/288230376151711744=(idx:Int)) :
    V.c (Value.int IntKind.u64 (Int.fdiv (IntKind.wrap IntKind.u64 (IntKind.wrap IntKind.u64 (↑(BitVec.toNat (BitVec.ofInt (64:Nat) (↑x:Int) &&& BitVec.ofInt (64:Nat) (IntKind.wrap IntKind.u64 ((0:Int) - (↑x:Int))))):Int)*(285870213051353865:Int))) ((2:Int)^(58:Nat))))=V.c (Value.int IntKind.u64 (↑idx:Int)):=by
  congr 2
  rw [← h,Int.zero_sub]
  rw [show (2:Int)^58=288230376151711744 by decide,Int.fdiv_eq_ediv_of_nonneg _ (by omega)]
  rfl
def allB (p:Nat→Prop):Nat→Nat→Prop
  | 0,_=>True
  | n+1,i=>p i∧allB p n (i+1)
theorem allB_at {p:Nat→Prop}:∀ {n i k:Nat},allB p n i→i≤k→k < i+n→p k
  | 0,i,k,_,h1,h2=>by omega
  | n+1,i,k,h,h1,h2=>by
    by_cases hk:k=i
    · exact hk▸h.1
    exact allB_at h.2 (by omega) (by omega)
theorem tz_ix (i:Nat) (h:i < 64) (t:List V) (ht:t=List.replicate 10 .any++[.c (.int .u64 (i:Int))]) (d:Option Tmp) (ps:String) (af:Array Edge):sval Tryd.prog (execOp (St.rho ⟨t,[]⟩) { dst:=d,op:=.indexAddr 205 (.global tabG) (.tmp 10),type:=0,pos:=ps,after:=af,guard:=none })=some (.value (.pointer (some ⟨tabG,i,none⟩))):=by
  subst ht
  refine allB_at (p:=fun i=>sval Tryd.prog (execOp (St.rho ⟨List.replicate 10 .any++[.c (.int .u64 (i:Int))],[]⟩) { dst:=d,op:=.indexAddr 205 (.global tabG) (.tmp 10),type:=0,pos:=ps,after:=af,guard:=none })=some (.value (.pointer (some ⟨tabG,i,none⟩)))) (n:=64) (i:=0) ?_ (by omega) (by omega)
  repeat' (first | exact trivial | refine ⟨by show (_=_); kernel_rfl,?_⟩)
theorem tz_ld {i k:Nat} (h:i < 64) (h3:deB.getD i 0=(k:Int)):∀ (w:World),Laid w→Sem.run Tryd.prog (Instr.loadAt (5:Nat) (Value.pointer (some { block:=tabG,off:=i }))) w=Result.ok (Value.int IntKind.u8 (↑k:Int)) w:=by
  intro w hl
  have:=hl i h
  rw [h3] at this
  have ha:sval Tryd.prog (isAgg 5)=some false:=by kernel_rfl
  simp [Instr.loadAt,Instr.sureAddr,loadVar,sval_run ha,this]
theorem deB_at:∀ i,i < 64→deB.getD i 0=(Lib.deBruijn64tab.getD i 0:Nat):=by decide +kernel
theorem tz_c {k:Nat} (h:k < 64):V.c (Value.int IntKind.i64 (IntKind.wrap IntKind.i64 (↑k:Int)))=V.c (Value.int IntKind.i64 (↑k:Int)):=by
  rw [show IntKind.wrap .i64 (k:Int)=k by simp [IntKind.wrap,IntKind.signed,IntKind.bits]; omega]
theorem tz_fn (x idx:Nat) (k:Nat) (h0:x≠0) (h1:IntKind.u64.wrap (bits BinOp.and IntKind.u64 (x:Int) (IntKind.u64.wrap (-(x:Int)))*285870213051353865)/288230376151711744=(idx:Int)) (h2:idx < 64) (hk:k < 64) (h3:deB.getD idx 0=(k:Int)):FSpec Tryd.prog 209 [.c (.int .u64 (x:Int))] [] (vI ↑k) [] :=
  fspec_ok Tryd.func209 (sc:=[(1,1,.is (.c (.bool false))),(3,5,.is (.c (.int .u64 (idx:Nat)))),(3,6,.fix (.pointer (some ⟨tabG,idx,none⟩))),(3,7,.fix (.int .u8 (k:Nat))),(3,8,.is (.c (.int .i64 (k:Nat))))]) (sb:=[]) (keep:=[]) (obs:=[Ob.prop (Flat ([]:List (Option Row))),Ob.prop (V.c (Value.bool ((↑x:Int)==(0:Int)))=vF),Ob.prop (vU (Int.fdiv (IntKind.wrap .u64 (IntKind.wrap .u64 (↑(BitVec.toNat (BitVec.ofInt 64 (↑x:Int) &&& BitVec.ofInt 64 (IntKind.wrap .u64 ((0:Int) - (↑x:Int))))):Int)*(285870213051353865:Int))) ((2:Int)^58))=vU ↑idx),Ob.val (execOp (St.rho ⟨(slots 11 0 [(10,vU ↑idx)]),[]⟩) { dst:=some 11,op:=Op.indexAddr 205 (Operand.global 3) (Operand.tmp 10),type:=0,pos := "bits.go:105",after:={ toList:=[{ on:=5,ground:=Ground.data }] },guard:=none }) (Value.pointer (some { block:=3,off:=idx })),Ob.prop (∀ (w:World),Laid w→Sem.run Tryd.prog (Instr.loadAt 5 (Value.pointer (some { block:=3,off:=idx }))) w=Result.ok (Value.int IntKind.u8 (↑k:Int)) w),Ob.prop (vI (IntKind.wrap .i64 (↑k:Int))=vI ↑k) ]) (by kernel_rfl) (hP trivial (hP (tz_a h0) (hP (tz_b h1) (hV (tz_ix idx h2 _ rfl _ _ _) (hP (tz_ld h2 h3) (hP (tz_c hk) hN))))))
theorem tz_spec (x:Nat) (hx:x < 18446744073709551616) (h0:x≠0):CSpec Tryd.prog 209 #[.int .u64 (x:Int)] (.int .i64 (Lib.ctz 64 x:Nat)):=by
  obtain ⟨hlow,hk⟩:=Lib.lowest_bit 64 x h0 hx
  obtain ⟨hi,htab⟩:=Lib.deBruijn64_at _ hk
  exact cspec_of (tz_fn x _ _ h0 (tz64_key x _ hx h0 hlow) hi hk (by rw [deB_at _ hi,htab]))
end Go.Proofs.YtkpeembfagcpcaaDoor.G
