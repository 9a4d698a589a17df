import Derived.Test.YtmkgijiniopalaaDoorYGM
import Derived.Test.YtmkgijiniopalaaDoorYSR
namespace Go.Proofs.YtmkgijiniopalaaDoor.G
open Go.Proofs.YtmkgijiniopalaaDoor.U Go.RowKit Go.Proofs.YtmkgijiniopalaaDoor.A Go.Proofs.YtmkgijiniopalaaDoor.B Go.Proofs.YtmkgijiniopalaaDoor.C Go.Proofs.YtmkgijiniopalaaDoor.H Go.Proofs.YtmkgijiniopalaaDoorW.PrintWords Go.Proofs.YtmkgijiniopalaaDoorW.PrintLast Go.Proofs.YtmkgijiniopalaaDoorW.PrintMore
set_option linter.unusedVariables false
set_option maxRecDepth 100000
theorem ev_some {α:Type} {g:Nat→Option α} {r:α} (h:Ev g r):∃ k,g k=some r:=let ⟨K,hK⟩:=h; ⟨K,hK K (Nat.le_refl _)⟩
theorem trim_c (a:ByteArray):CSpec Tryd.prog 72 #[.string a] (.string (M.B (M.V a))):=fun w _=>by
 obtain ⟨k,hk⟩:=ev_some (SA.trim a)
 exact (nat_trim.calls k a _ w hk).mono fun e w' h=>⟨h.1,h.2.below⟩
theorem short_c (a:ByteArray) (hs:a.size≤8):CSpec Tryd.prog 74 #[.string a] (.int .u64 (M.V a:Int)):=fun w _=>by
 obtain ⟨k,hk⟩:=ev_some (SA.short a hs)
 exact (nat_short.calls k a _ w hk).mono fun e w' h=>⟨h.1,h.2.below⟩
theorem fromShort_c (n:Nat) (h:n < 18446744073709551616):CSpec Tryd.prog 73 #[.int .u64 (n:Int)] (.string (M.B n)):=fun w _=>by
 refine nat_fromShort.calls (n:Int) (M.B n) w ?_
 unfold nat_fromShort.f
 rw [if_pos ⟨by omega,by omega⟩]
 rfl
theorem of_c (n:Int) (h:n < 9223372036854775808):CSpec Tryd.prog 62 #[.int .i64 n] (.string (M.B n.toNat)):=fun w _=>nat_Of.calls n _ w (SB.of_spec n h)
theorem cmp_c (a b:ByteArray):CSpec Tryd.prog 65 #[.string a,.string b] (.int .i64 (SB.cmpN (M.V a) (M.V b))):=fun w _=>by
 obtain ⟨k,hk⟩:=ev_some (SB.cmp_spec a b)
 first
 | exact nat_Cmp.calls k a b _ w hk
 | exact (nat_Cmp.calls k a b _ w hk).mono fun e w' h=>⟨h.1,h.2.below⟩
theorem add_c (a b:ByteArray) (ha:a.size≤1099511627776) (hb:b.size≤1099511627776):CSpec Tryd.prog 63 #[.string a,.string b] (.string (M.B (M.V a+M.V b))):=fun w _=>by
 obtain ⟨k,hk⟩:=ev_some (SB.add_spec a b ha hb)
 exact nat_Add.calls k a b _ w hk
theorem sub_c (a b:ByteArray) (ha:a.size≤1099511627776) (hb:b.size≤1099511627776):CSpec Tryd.prog 69 #[.string a,.string b] (if M.V a < M.V b then .tuple #[.string ⟨#[]⟩,.int .i64 1] else .tuple #[.string (M.B (M.V a - M.V b)),.int .i64 0]):=fun w _=>by
 obtain ⟨k,hk⟩:=ev_some (SB.sub_spec a b (by omega) (by omega))
 split at hk
 ·rename_i h
  rw [if_pos h]
  exact nat_Sub.calls k a b _ _ w hk
 rename_i h
 rw [if_neg h]
 exact nat_Sub.calls k a b _ _ w hk
theorem mul_c (a b:ByteArray) (ha:a.size≤1099511627776) (hb:b.size≤1099511627776):CSpec Tryd.prog 52 #[.string a,.string b] (.string (M.B (M.V a*M.V b))):=fun w _=>by
 obtain ⟨k,hk⟩:=ev_some (SB.mul_spec a b ha hb)
 exact nat_Mul.calls k a b _ w hk
theorem div_c (a b:ByteArray) (ha:a.size≤1099511627776) (hb:b.size≤1099511627776) (h0:M.V b≠0):CSpec Tryd.prog 71 #[.string a,.string b] (.tuple #[.string (M.B (M.V a/M.V b)),.string (M.B (M.V a%M.V b)),.int .i64 0]):=fun w _=>by
 obtain ⟨k,hk⟩:=ev_some (SB.div_spec a b ha hb)
 unfold SB.divR at hk
 rw [if_neg h0] at hk
 exact nat_Div.calls k a b _ _ _ w hk
theorem sv_rem {P:Program} {t:List V} {m:List (Option U.Row)} {i j:Nat} {x y:Nat} {k:IntKind} {d:Option Tmp} {ty ty2 ty3:TypeId} {ps:String} {af:Array Edge} {g:Option (Nat × Bool)}
 (hy:y≠0) (hi:t[i]? = some (.c (.int k (x:Int)))) (hj:t[j]? = some (.c (.int k (y:Int)))) :
 sval P (execOp (St.rho ⟨t,m⟩) { dst:=d,op:=.binOp .rem ty (.tmp i) (.tmp j) ty2,type:=ty3,pos:=ps,after:=af,guard:=g })=some (.value (.int k ((x%y:Nat):Int))):=by
 have h1:=rho_at (m:=m) hi
 have h2:=rho_at (m:=m) hj
 have hd:Op.intDiv .rem k (x:Int) (y:Int)=pure (.int k ((x%y:Nat):Int)):=by
  unfold Op.intDiv
  rw [if_neg (by omega)]
  simp only
  rw [Int.tmod_eq_emod_of_nonneg (by omega),Int.natCast_emod]
 have hb:binOp .rem ty (.int k (x:Int)) (.int k (y:Int))=pure (.int k ((x%y:Nat):Int)):=by
  rw [← hd]
  unfold binOp
  simp
 have hg:∀ a b,eqGuard .rem ty a b (.int k (x:Int)) (.int k (y:Int))=pure ():=fun a b=>rfl
 simp only [execOp,h1,h2,V.val,hg,hb]
 rfl
def cS (x y:Nat):St:=⟨[.c (.int .u64 (x:Int)),.c (.int .u64 (y:Int))]++List.replicate 10 .any,[]⟩
theorem co_go (x y:Nat) (hy:y≠0):TSpec Tryd.prog (loopOf Tryd.f81 0) (cS x y) (Ex.normal) (cS y (x%y)) :=
 tspec_dim (sc:=[(1,1,.is (.c (.bool true))),(2,3,.fix (.int .u64 (x%y:Nat)))]) (sb:=[]) (obs:=[Ob.prop (V.c (Value.bool (decide ((↑y:Int) > (0:Int))))=vT),Ob.val (execOp (St.rho ⟨(slots 10 0 [(8,vU ↑x),(9,vU ↑y)]),[]⟩) { dst:=some 10,op:=Op.binOp BinOp.rem 87 (Operand.tmp 8) (Operand.tmp 9) 87,type:=87,pos := "nat.go:274",after:={ toList:=[{ on:=1,ground:=Ground.data },{ on:=2,ground:=Ground.data }] },guard:=none }) (Value.int IntKind.u64 (↑(x%y):Int))]) [true,true] 0 (by kernel_rfl) (hP zV (hV (sv_rem hy rfl rfl) hN)) trivial
theorem co_end (x:Nat)  : TSpec Tryd.prog (loopOf Tryd.f81 0) (cS x 0) (Ex.exit 0) (cS x 0) :=
 tspec_dim (sc:=[]) (sb:=[]) (obs:=[]) [true,true] 0 (by kernel_rfl) hN trivial
theorem co_fn (x y g:Nat) (h:TSpec Tryd.prog (.block 0 (.loop (loopOf Tryd.f81 0))) (cS x y) .normal (cS g 0)):FSpec Tryd.prog 81 [.c (.int .u64 (x:Int)),.c (.int .u64 (y:Int))] [] (vU ↑g) [] :=
 fspec_ok Tryd.func81 (sc:=[]) (sb:=[(0,.normal,cS g 0)]) (keep:=[]) (obs:=[Ob.prop (Flat ([]:List (Option Row))),Ob.prop (TSpec Tryd.prog (Code.block 0 (Code.loop (loopOf Tryd.f81 0))) ({ t:=[vU ↑x,vU ↑y,V.c (Value.tuple { toList:=[] }),V.c (Value.tuple { toList:=[] }),vU (0:Int),V.c (Value.tuple { toList:=[] }),V.c (Value.tuple { toList:=[] }),V.c (Value.tuple { toList:=[] }),V.c (Value.tuple { toList:=[] }),V.c (Value.tuple { toList:=[] }),V.c (Value.tuple { toList:=[] }),V.c (Value.tuple { toList:=[] })],m:=[] }) (Ex.normal) (cS g 0)) ]) (by kernel_rfl) (hP trivial (hP (TSpec.from [true,true] h (by kernel_rfl) (by kernel_rfl) trivial) hN))
theorem co_loop:∀ (n x y:Nat),y < n→Rounds Tryd.prog (loopOf Tryd.f81 0) 0 (cS x y) .normal (cS (Nat.gcd x y) 0)
 | 0,x,y,h=>by omega
 | n+1,x,y,h=>by
   by_cases h0:y=0
   ·subst h0
    rw [Nat.gcd_zero_right]
    exact .stop (co_end x)
   have:=co_loop n y (x%y) (by have:=Nat.mod_lt x (Nat.pos_of_ne_zero h0); omega)
   rw [Nat.gcd_comm x y,Nat.gcd_rec y x,Nat.gcd_comm (x%y) y]
   exact .step (co_go x y h0) this
theorem common_c (x y:Nat):CSpec Tryd.prog 81 #[.int .u64 (x:Int),.int .u64 (y:Int)] (.int .u64 (Nat.gcd x y:Nat)):=cspec_of (co_fn x y _ (co_loop _ x y (Nat.lt_succ_self y)).spec)
end Go.Proofs.YtmkgijiniopalaaDoor.G
