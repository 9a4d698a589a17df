import Derived.Test.YtjefpjajkbldpaaDoorYU6
import Derived.Laws.Bits64
import Derived.Laws.Bits64b
import Derived.Laws.Shifts
namespace Go.Proofs.YtjefpjajkbldpaaDoor.G
open Go.Proofs.YtjefpjajkbldpaaDoor.U Go.RowKit
set_option linter.unusedVariables false
theorem rho_at {t:List V} {m:List (Option U.Row)} {i:Nat} {v:V} (h:t[i]? = some v):St.rho ⟨t,m⟩ (.tmp i)=v.val:=by
 simp only [St.rho,St.at,List.getD_eq_getElem?_getD,h,Option.getD_some]
theorem sval_bind {α β:Type} {P:Program}:∀ {s:Sem α} {k:α→Sem β} {a:α},sval P s=some a→sval P (s >>= k)=sval P (k a):=by
 intro s
 induction s with
 | pure b=>intro k a h; simp only [sval,Option.some.injEq] at h; subst h; rfl
 | program f ih=>intro k a h; exact ih P h
 | mark m f ih=>intro k a h; exact ih h
 | _=>intro k a h; simp [sval] at h
theorem sv_shift {P:Program} {t:List V} {m:List (Option U.Row)} {op:BinOp} {i j:Nat} {x s:Int} {k yk:IntKind} {d:Option Tmp} {ty ty2 ty3:TypeId} {ps:String} {af:Array Edge} {g:Option (Nat × Bool)} {r:Value}
 (hop:op = .shl∨op = .shr) (hi:t[i]? = some (.c (.int k x))) (hj:t[j]? = some (.c (.int yk s))) (hr:Op.shift op k x yk s=pure r) :
 sval P (execOp (St.rho ⟨t,m⟩) { dst:=d,op:=.binOp op ty (.tmp i) (.tmp j) ty2,type:=ty3,pos:=ps,after:=af,guard:=g })=some (.value r):=by
 have h1:=rho_at (m:=m) hi
 have h2:=rho_at (m:=m) hj
 have hb:binOp op ty (.int k x) (.int yk s)=pure r:=by
  rcases hop with rfl | rfl<;>exact hr
 have hg:∀ a b,eqGuard op ty a b (.int k x) (.int yk s)=pure ():=by
  intro a b
  rcases hop with rfl | rfl<;>rfl
 simp only [execOp,h1,h2,V.val,hg,hb]
 rfl
theorem sv_shr {P:Program} {t:List V} {m:List (Option U.Row)} {i j:Nat} {x s:Nat} {yk:IntKind} {d:Option Tmp} {ty ty2 ty3:TypeId} {ps:String} {af:Array Edge} {g:Option (Nat × Bool)}
 (hs:s < 64) (hi:t[i]? = some (.c (.int .u64 (x:Int)))) (hj:t[j]? = some (.c (.int yk (s:Int)))) :
 sval P (execOp (St.rho ⟨t,m⟩) { dst:=d,op:=.binOp .shr ty (.tmp i) (.tmp j) ty2,type:=ty3,pos:=ps,after:=af,guard:=g })=some (.value (.int .u64 ((x/2^s:Nat):Int))):=by
 refine sv_shift (.inr rfl) hi hj ?_
 rw [shift_shr_any _ _ _ _ (by omega)]
 have:min (Int.toNat (s:Int)) (IntKind.bits .u64)=s:=by simp [IntKind.bits]; omega
 rw [this,Int.natCast_ediv,Int.natCast_pow]
 rfl
theorem sv_shl {P:Program} {t:List V} {m:List (Option U.Row)} {i j:Nat} {x s:Nat} {yk:IntKind} {d:Option Tmp} {ty ty2 ty3:TypeId} {ps:String} {af:Array Edge} {g:Option (Nat × Bool)}
 (hs:s < 64) (hi:t[i]? = some (.c (.int .u64 (x:Int)))) (hj:t[j]? = some (.c (.int yk (s:Int)))) :
 sval P (execOp (St.rho ⟨t,m⟩) { dst:=d,op:=.binOp .shl ty (.tmp i) (.tmp j) ty2,type:=ty3,pos:=ps,after:=af,guard:=g })=some (.value (.int .u64 ((x*2^s%18446744073709551616:Nat):Int))):=by
 refine sv_shift (.inl rfl) hi hj ?_
 rw [shift_shl_any _ _ _ _ (by omega)]
 have:min (Int.toNat (s:Int)) (IntKind.bits .u64)=s:=by simp [IntKind.bits]; omega
 rw [this,IntKind.wrap_u64,Int.natCast_emod,Int.natCast_mul,Int.natCast_pow]
 rfl
theorem sv_shiftR {P:Program} {S:St} {op:BinOp} {a b:Operand} {x s:Int} {k yk:IntKind} {d:Option Tmp} {ty ty2 ty3:TypeId} {ps:String} {af:Array Edge} {g:Option (Nat × Bool)} {r:Value}
 (hop:op = .shl∨op = .shr) (h1:St.rho S a = .int k x) (h2:St.rho S b = .int yk s) (hr:Op.shift op k x yk s=pure r) :
 sval P (execOp (St.rho S) { dst:=d,op:=.binOp op ty a b ty2,type:=ty3,pos:=ps,after:=af,guard:=g })=some (.value r):=by
 have hb:binOp op ty (.int k x) (.int yk s)=pure r:=by
  rcases hop with rfl | rfl<;>exact hr
 have hg:∀ a b,eqGuard op ty a b (.int k x) (.int yk s)=pure ():=by
  intro a b
  rcases hop with rfl | rfl<;>rfl
 simp only [execOp,h1,h2,hg,hb]
 rfl
theorem sv_shl8 {P:Program} {S:St} {a b:Operand} {s:Nat} {d:Option Tmp} {ty ty2 ty3:TypeId} {ps:String} {af:Array Edge} {g:Option (Nat × Bool)}
 (hs:s < 8) (h1:St.rho S a = .int .u8 1) (h2:St.rho S b = .int .i64 (s:Int)) :
 sval P (execOp (St.rho S) { dst:=d,op:=.binOp .shl ty a b ty2,type:=ty3,pos:=ps,after:=af,guard:=g })=some (.value (.int .u8 ((2^s:Nat):Int))):=by
 refine sv_shiftR (.inl rfl) h1 h2 ?_
 rw [shift_shl_any _ _ _ _ (by omega)]
 have:min (Int.toNat (s:Int)) (IntKind.bits .u8)=s:=by simp [IntKind.bits]; omega
 rw [this]
 have hlt:2^s < 2^8:=Nat.pow_lt_pow_right (by decide) hs
 congr 2
 have e:(2:Int)^s=((2^s:Nat):Int):=by simp
 rw [Int.one_mul,e]
 simp only [IntKind.wrap,IntKind.signed,IntKind.bits,Bool.false_and,Bool.false_eq_true,if_false]
 rw [show ((2:Int)^8)=((2^8:Nat):Int) by decide,← Int.natCast_emod,Nat.mod_eq_of_lt hlt]
theorem or_words {a b:Nat} (ha:a < 18446744073709551616) (hb:b < 18446744073709551616) :
 V.c (Value.int IntKind.u64 (IntKind.wrap IntKind.u64 ((BitVec.toNat (BitVec.ofInt (64:Nat) (a:Int) ||| BitVec.ofInt (64:Nat) (b:Int)):Nat):Int)))=V.c (.int .u64 ((a ||| b:Nat):Int)):=by
 congr 2
 exact bits_or_u64_nat a b ha hb
theorem or_apart {a b s:Nat} (h:a < 2^s):a ||| b*2^s=a+b*2^s:=by
 rw [Nat.or_comm,Nat.mul_comm,← Nat.two_pow_add_eq_or_of_lt h,Nat.add_comm]
end Go.Proofs.YtjefpjajkbldpaaDoor.G
