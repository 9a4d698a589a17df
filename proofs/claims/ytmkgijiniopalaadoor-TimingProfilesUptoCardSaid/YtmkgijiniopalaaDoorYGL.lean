import Derived.Test.YtmkgijiniopalaaDoorYGM
import Derived.Test.YtmkgijiniopalaaDoorYSA
namespace Go.Proofs.YtmkgijiniopalaaDoor.G
open Go.Proofs.YtmkgijiniopalaaDoor.U Go.RowKit Go.Proofs.YtmkgijiniopalaaDoorW.PrintWords Go.Proofs.YtmkgijiniopalaaDoorW.PrintLast Go.Proofs.YtmkgijiniopalaaDoorW.PrintMore
set_option linter.unusedVariables false
set_option maxRecDepth 100000
theorem sval_bind' {α β:Type} {P:Program} {s:Sem α} {k:α→Sem β} {a:α} {r:Option β} (h:sval P s=some a) (h2:sval P (k a)=r):sval P (s >>= k)=r:=by rw [sval_bind h,h2]
theorem sv_index {P:Program} {t:List V} {m:List (Option U.Row)} {i j:Nat} {a:ByteArray} {k d:Nat} {dd:Option Tmp} {ty ty3:TypeId} {ps:String} {af:Array Edge} {g:Option (Nat × Bool)}
 (hi:t[i]? = some (.c (.string a))) (hj:t[j]? = some (.c (.int .i64 (k:Int)))) (hu:P.underlying ty=some .string) (hk:k < a.size) (hd:bt a (k:Int)=(d:Int)) :
 sval P (execOp (St.rho ⟨t,m⟩) { dst:=dd,op:=.index ty (.tmp i) (.tmp j),type:=ty3,pos:=ps,after:=af,guard:=g })=some (.value (.int .u8 (d:Int))):=by
 have h1:=rho_at (m:=m) hi
 have h2:=rho_at (m:=m) hj
 have hb:bt a (k:Int)=((a[k]'hk).toNat:Int):=by
  unfold bt
  simp [hk]
 rw [hb] at hd
 simp only [execOp,h1,h2,V.val,Instr.index]
 have hund:sval P (underlying ty)=some .string:=by
  unfold underlying
  refine sval_bind' (a:=P) rfl ?_
  rw [hu]
  rfl
 refine sval_bind' (a:=.int .u8 (d:Int)) ?_ rfl
 refine sval_bind' (a:=(IntKind.i64,(k:Int))) rfl ?_
 refine sval_bind' hund ?_
 have hg:(if 0≤(k:Int) then a[(k:Int).toNat]? else none)=some (a[k]'hk):=by
  rw [if_pos (by omega),Int.toNat_natCast]
  exact getElem?_pos a k hk
 simp only [hg]
 rw [hd]
 rfl
theorem p_0 {q:Nat}:V.p 0 (0+Int.toNat (q:Int)*1)=V.p 0 q:=by simp
theorem quo_8 {i q r:Nat} (he:i=8*q+r) (hr:r < 8) (hi:i < 1125899906842624):V.c (Value.int IntKind.i64 (IntKind.wrap IntKind.i64 (Int.tdiv (i:Int) 8)))=V.c (Value.int IntKind.i64 (q:Int)):=by
 congr 2
 rw [Int.tdiv_eq_ediv_of_nonneg (by omega),show ((i:Int)/8)=q by omega]
 simp [IntKind.wrap,IntKind.signed,IntKind.bits]; omega
theorem quo_n {n N:Nat} (he:N=(n+7)/8) (hi:n < 1125899906842624):V.c (Value.int IntKind.i64 (IntKind.wrap IntKind.i64 (Int.tdiv ((n+7:Nat):Int) 8)))=V.c (Value.int IntKind.i64 (N:Int)):=by
 congr 2
 rw [Int.tdiv_eq_ediv_of_nonneg (by omega),show (((n+7:Nat):Int)/8)=N by omega]
 simp [IntKind.wrap,IntKind.signed,IntKind.bits]; omega
theorem rem_8 {i q r:Nat} (he:i=8*q+r) (hr:r < 8):V.c (Value.int IntKind.i64 (Int.tmod (i:Int) 8))=V.c (Value.int IntKind.i64 (r:Int)):=by
 congr 2
 rw [Int.tmod_eq_emod_of_nonneg (by omega)]
 omega
theorem mul_8 {r:Nat} (hr:r < 8):V.c (Value.int IntKind.i64 (IntKind.wrap IntKind.i64 ((r:Int)*8)))=V.c (Value.int IntKind.i64 ((8*r:Nat):Int)):=by
 congr 2
 rw [show ((r:Int)*8)=((8*r:Nat):Int) by omega]
 simp [IntKind.wrap,IntKind.signed,IntKind.bits]; omega
theorem u8_u64 {d:Nat} (h:d < 256):V.c (Value.int IntKind.u64 (IntKind.wrap IntKind.u64 (d:Int)))=V.c (Value.int IntKind.u64 (d:Int)):=by
 congr 2
 rw [IntKind.wrap_u64]
 omega
theorem size_n {a:ByteArray} {n:Nat} (h:a.size=n):V.c (Value.int IntKind.i64 (a.size:Int))=V.c (Value.int IntKind.i64 (n:Int)):=by rw [h]
theorem byte_lt {x d r:Nat} (hr:r < 8) (hx:x < 2^(8*r)) (hd:d < 256):x+d*2^(8*r) < 2^(8*(r+1))∧2^(8*(r+1))≤18446744073709551616:=by
 constructor
 ·rw [Nat.mul_add,Nat.pow_add]
  have:=Nat.mul_le_mul_right (2^(8*r)) (show d+1≤256 by omega)
  rw [Nat.add_mul] at this
  omega
 exact Nat.pow_le_pow_right (n:=2) (by decide) (show 8*(r+1)≤64 by omega)
theorem or_byte {x d r:Nat} (hr:r < 8) (hx:x < 2^(8*r)) (hd:d < 256) :
 V.c (Value.int IntKind.u64 (IntKind.wrap IntKind.u64 ((BitVec.toNat (BitVec.ofInt (64:Nat) (x:Int) ||| BitVec.ofInt (64:Nat) ((d*2^(8*r)%18446744073709551616:Nat):Int)):Nat):Int)))=V.c (.int .u64 ((x+d*2^(8*r):Nat):Int)):=by
 obtain ⟨h1,h2⟩:=byte_lt hr hx hd
 rw [or_words (by omega) (Nat.mod_lt _ (by decide)),Nat.mod_eq_of_lt (by omega),or_apart hx]
def lS (a:ByteArray) (n N:Nat) (C:List V) (i:Nat):St:=⟨[.c (.string a),.any,.any,.sl 0 0 N N,.any,.any,.any,.any,.any,.any,.any,.c (.int .i64 (n:Nat)),.c (.int .i64 (i:Nat))]++List.replicate 23 .any,[some ⟨true,C⟩]⟩
theorem li_go (a:ByteArray) (n N i q r x d:Nat) (C:List V) (f1:∀ v:V,v∈C→v.id? = none) (hn:n < 1125899906842624) (hi:i < n) (ea:a.size=n) (hNq:q < N) (hr:r < 8) (he:i=8*q+r) (hx:C[q]? = some (uu x)) (hx2:x < 2^(8*r)) (hd:bt a ((n - 1 - i:Nat):Int)=(d:Int)) (hd2:d < 256):TSpec Tryd.prog (loopOf Tryd.f87 0) (lS a n N C i) (Ex.normal) (lS a n N (C.set q (uu (x+d*2^(8*r)))) (i+1)) :=
 tspec_dim (sc:=[(3,0,.is (.c (.bool true))),(5,2,.is (.c (.int .i64 (q:Nat)))),(5,3,.is (.p 0 q)),(5,4,.fix (.int .u64 (x:Nat))),(5,7,.is (.c (.int .i64 (n:Nat)))),(5,8,.is (.c (.int .i64 (n-1:Nat)))),(5,10,.is (.c (.int .i64 (n-1-i:Nat)))),(5,11,.fix (.int .u8 (d:Nat))),(5,12,.is (.c (.int .u64 (d:Nat)))),(5,14,.is (.c (.int .i64 (r:Nat)))),(5,15,.is (.c (.int .i64 (8*r:Nat)))),(5,16,.fix (.int .u64 (d*2^(8*r)%18446744073709551616:Nat))),(5,17,.is (.c (.int .u64 (x+d*2^(8*r):Nat)))),(5,18,.is (.p 0 q)),(5,19,.fix undef),(6,0,.is (.c (.int .i64 (i+1:Nat))))]) (sb:=[]) (obs:=[Ob.prop (V.c (Value.bool (decide ((↑i:Int) < (↑n:Int))))=vT),Ob.prop (vI (IntKind.wrap .i64 (Int.tdiv (↑i:Int) (8:Int)))=vI ↑q),Ob.prop (V.p 0 (0+Int.toNat (↑q:Int)*1)=V.p 0 q),Ob.prop ((0:Int)≤(↑q:Int)∧(↑q:Int) < (↑N:Int)),Ob.prop (C[q]? = some (vU ↑x)),Ob.prop (V.c (goInt (↑(ByteArray.size a):Int))=vI ↑n),Ob.prop (vI (IntKind.wrap .i64 ((↑n:Int) - (1:Int)))=vI (↑(n - 1):Int)),Ob.prop (vI (IntKind.wrap .i64 ((↑(n - 1):Int) - (↑i:Int)))=vI (↑(n - 1 - i):Int)),Ob.val (execOp (St.rho ⟨(slots 26 0 [(20,V.c (Value.string a)),(25,vI (↑(n - 1 - i):Int))]),[]⟩) { dst:=some 26,op:=Op.index 9 (Operand.tmp 20) (Operand.tmp 25),type:=5,pos := "gcd.go:9",after:={ toList:=[{ on:=5,ground:=Ground.data },{ on:=10,ground:=Ground.data }] },guard:=none }) (Value.int IntKind.u8 (↑d:Int)),Ob.prop (vU (IntKind.wrap .u64 (↑d:Int))=vU ↑d),Ob.prop (vI (Int.tmod (↑i:Int) (8:Int))=vI ↑r),Ob.prop (vI (IntKind.wrap .i64 ((↑r:Int)*(8:Int)))=vI (↑(8*r):Int)),Ob.val (execOp (St.rho ⟨(slots 31 0 [(27,vU ↑d),(30,vI (↑(8*r):Int))]),[]⟩) { dst:=some 31,op:=Op.binOp BinOp.shl 87 (Operand.tmp 27) (Operand.tmp 30) 3,type:=87,pos := "gcd.go:9",after:={ toList:=[{ on:=12,ground:=Ground.data },{ on:=15,ground:=Ground.data }] },guard:=none }) (Value.int IntKind.u64 (↑(d*(2:Nat)^(8*r)%18446744073709551616):Int)),Ob.prop (vU (IntKind.wrap .u64 (↑(BitVec.toNat (BitVec.ofInt 64 (↑x:Int) ||| BitVec.ofInt 64 (↑(d*(2:Nat)^(8*r)%18446744073709551616):Int))):Int))=vU (↑(x+d*(2:Nat)^(8*r)):Int)),Ob.prop (V.p 0 (0+Int.toNat (↑q:Int)*1)=V.p 0 q),Ob.prop ((0:Int)≤(↑q:Int)∧(↑q:Int) < (↑N:Int)),Ob.prop (q+List.length [vU (↑(x+d*(2:Nat)^(8*r)):Int)]≤List.length C),Ob.prop (vI (IntKind.wrap .i64 ((↑i:Int)+(1:Int)))=vI (↑(i+1):Int))]) ([true,false,false,true]++List.replicate 7 false++[true,true]) 1 (by kernel_rfl) (hP zV (hP (quo_8 he hr (by omega)) (hP p_0 (hP zV (hP hx (hP (size_n ea) (hP zV (hP zV (hV (sv_index rfl rfl (by kernel_rfl) (by omega) hd) (hP (u8_u64 hd2) (hP (rem_8 he hr) (hP (mul_8 hr) (hV (sv_shl (by omega) rfl rfl) (hP (or_byte hr hx2 hd2) (hP p_0 (hP zV (hP (len_of hx) (hP zV hN)))))))))))))))))) ⟨flat_set rfl f1,trivial⟩
theorem li_end (a:ByteArray) (n N:Nat) (C:List V) (f1:∀ v:V,v∈C→v.id? = none):TSpec Tryd.prog (loopOf Tryd.f87 0) (lS a n N C n) (Ex.exit 0) (lS a n N C n) :=
 tspec_dim (sc:=[(3,0,.is (.c (.bool false)))]) (sb:=[]) (obs:=[Ob.prop (V.c (Value.bool (decide ((↑n:Int) < (↑n:Int))))=vF)]) ([true,false,false,true]++List.replicate 7 false++[true,true]) 1 (by kernel_rfl) (hP zV hN) ⟨f1,trivial⟩
theorem li_fn (a:ByteArray) (n N:Nat) (C:List V) (f1:∀ v:V,v∈C→v.id? = none) (hn:n < 17592186044416) (ea:a.size=n) (hNn:N=(n+7)/8) (h:TSpec Tryd.prog (.block 0 (.loop (loopOf Tryd.f87 0))) (lS a n N (List.replicate N (.c (.int .u64 0))) 0) .normal (lS a n N C n)):FSpec Tryd.prog 87 [.c (.string a)] [] (V.sl 0 0 N N) [some ⟨true,C⟩] :=
 fspec_ok Tryd.func87 (sc:=[(1,1,.is (.c (.int .i64 (n:Nat)))),(1,2,.is (.c (.int .i64 (n+7:Nat)))),(1,3,.is (.c (.int .i64 (N:Nat)))),(2,1,.is (.c (.int .i64 (n:Nat))))]) (sb:=[(0,.normal,lS a n N C n)]) (keep:=[0]) (obs:=[Ob.prop (Flat ([some ⟨true,C⟩]:List (Option Row))),Ob.prop (V.c (goInt (↑(ByteArray.size a):Int))=vI ↑n),Ob.prop (vI (IntKind.wrap .i64 ((↑n:Int)+(7:Int)))=vI (↑(n+7):Int)),Ob.prop (vI (IntKind.wrap .i64 (Int.tdiv (↑(n+7):Int) (8:Int)))=vI ↑N),Ob.prop ((0:Int)≤(↑N:Int)∧(↑N:Int)≤(↑N:Int)∧(↑8:Int)*(↑N:Int)≤(281474976710656:Int)∧(↑N:Int) < (9223372036854775808:Int)),Ob.prop (V.c (goInt (↑(ByteArray.size a):Int))=vI ↑n),Ob.prop (TSpec Tryd.prog (Code.block 0 (Code.loop (loopOf Tryd.f87 0))) ({ t:=[V.c (Value.string a),V.c (Value.tuple { toList:=[] }),V.c (Value.slice none 0 0),V.sl 0 0 (Int.toNat (↑N:Int)) (Int.toNat (↑N:Int)),V.c (Value.tuple { toList:=[] }),V.c (Value.string a),vI ↑n,vI (↑(n+7):Int),vI ↑N,V.sl 0 0 (Int.toNat (↑N:Int)) (Int.toNat (↑N:Int)),V.c (Value.string a),vI ↑n,vI (0:Int),V.c (Value.tuple { toList:=[] }),V.c (Value.tuple { toList:=[] }),V.c (Value.tuple { toList:=[] }),V.c (Value.tuple { toList:=[] }),V.c (Value.tuple { toList:=[] }),V.c (Value.tuple { toList:=[] }),V.c (Value.tuple { toList:=[] }),V.c (Value.tuple { toList:=[] }),V.c (Value.tuple { toList:=[] }),V.c (Value.tuple { toList:=[] }),V.c (Value.tuple { toList:=[] }),V.c (Value.tuple { toList:=[] }),V.c (Value.tuple { toList:=[] }),V.c (Value.tuple { toList:=[] }),V.c (Value.tuple { toList:=[] }),V.c (Value.tuple { toList:=[] }),V.c (Value.tuple { toList:=[] }),V.c (Value.tuple { toList:=[] }),V.c (Value.tuple { toList:=[] }),V.c (Value.tuple { toList:=[] }),V.c (Value.tuple { toList:=[] }),V.c (Value.tuple { toList:=[] }),V.c (Value.tuple { toList:=[] })],m:=[some { own:=true,cells:=List.replicate (Int.toNat (↑N:Int)) (vU (0:Int)) }] }) (Ex.normal) (lS a n N C n)) ]) (by kernel_rfl) (hP ⟨f1,trivial⟩ (hP (size_n ea) (hP zV (hP (quo_n hNn (by omega)) (hP zV (hP (size_n ea) (hP (TSpec.from ([true,false,false,true]++List.replicate 7 false++[true,true]) h (by kernel_rfl) (by kernel_rfl) ⟨fun v hv=>by rw [List.eq_of_mem_replicate hv]; rfl,trivial⟩) hN)))))))
theorem getD_lw:∀ {L:List Nat} {q:Nat},Wd L→q < L.length→L.getD q 0=lw L/18446744073709551616^q%18446744073709551616
 | [],q,_,h=>by simp at h
 | x::r,0,hw,_=>by
   have:=hw x (by simp)
   simp only [List.getD_cons_zero,lw,Nat.pow_zero,Nat.div_one]
   omega
 | x::r,q+1,hw,h=>by
   have hx:=hw x (by simp)
   have ih:=getD_lw (L:=r) (q:=q) (fun y hy=>hw y (List.mem_cons_of_mem _ hy)) (by simpa using h)
   simp only [List.getD_cons_succ,lw]
   rw [ih,Nat.pow_succ,Nat.mul_comm (18446744073709551616^q),← Nat.div_div_eq_div_mul,show (x+18446744073709551616*lw r)/18446744073709551616=lw r by omega]
theorem lw_set:∀ {L:List Nat} {q y:Nat},q < L.length→lw (L.set q y)+18446744073709551616^q*L.getD q 0=lw L+18446744073709551616^q*y
 | [],q,y,h=>by simp at h
 | x::r,0,y,_=>by simp [lw]; omega
 | x::r,q+1,y,h=>by
   have ih:=lw_set (L:=r) (q:=q) (y:=y) (by simpa using h)
   simp only [List.set_cons_succ,List.getD_cons_succ,lw,Nat.pow_succ,Nat.mul_comm (18446744073709551616^q) 18446744073709551616,Nat.mul_assoc]
   omega
theorem wd_set {L:List Nat} {q y:Nat} (h:Wd L) (hy:y < 18446744073709551616):Wd (L.set q y):=fun x hx=>by
 rcases List.mem_or_eq_of_mem_set hx with h1 | rfl
 ·exact h x h1
 exact hy
theorem bt_nat (a:ByteArray) (k:Int):∃ d:Nat,bt a k=(d:Int)∧d < 256:=by
 unfold bt
 split
 ·rename_i h
  exact ⟨_,rfl,UInt8.toNat_lt _⟩
 exact ⟨0,rfl,by omega⟩
theorem bt_natN (a:ByteArray) (k:Nat):∃ d:Nat,bt a (k:Int)=(d:Int)∧d < 256:=by
 rcases Nat.lt_or_ge k a.size with h | h
 ·exact ⟨(a[k]'h).toNat,by unfold bt; simp [h],UInt8.toNat_lt _⟩
 exact ⟨0,by unfold bt; simp; omega,by omega⟩
theorem li_loop (a:ByteArray) (n N:Nat) (ea:a.size=n) (hn:n < 1125899906842624) (hN:N=(n+7)/8):∀ (rem i:Nat) (L:List Nat),rem=n - i→i≤n→L.length=N→Wd L→lw L=M.be (a.data.toList.drop (n - i)) →
 ∃ L',L'.length=N∧Wd L' ∧ lw L' = M.V a∧Rounds Tryd.prog (loopOf Tryd.f87 0) 0 (lS a n N (L.map uu) i) .normal (lS a n N (L'.map uu) n)
 | 0,i,L,hr,hi,hl,hw,hv=>by
   have:i=n:=by omega
   subst this
   refine ⟨L,hl,hw,?_,.stop (li_end a i N _ (uu_flat _))⟩
   rw [hv,Nat.sub_self,List.drop_zero]
   rfl
 | rem+1,i,L,hr,hi,hl,hw,hv=>by
   have hq:i/8 < N:=by omega
   have hr8:i%8 < 8:=Nat.mod_lt _ (by decide)
   have he:i=8*(i/8)+i%8:=by omega
   have hlow:lw L < 18446744073709551616^(i/8)*2^(8*(i%8)):=by
    rw [hv,show (18446744073709551616:Nat)=2^64 by decide,← Nat.pow_mul,← Nat.pow_add,show 64*(i/8)+8*(i%8)=8*i by omega,Nat.pow_mul]
    have:=M.be_lt (a.data.toList.drop (n - i))
    rwa [List.length_drop,M.size_toList,ea,show n - (n - i)=i by omega] at this
   have hx2:L.getD (i/8) 0 < 2^(8*(i%8)):=by
    rw [getD_lw hw (by omega)]
    exact Nat.lt_of_le_of_lt (Nat.mod_le _ _) (Nat.div_lt_of_lt_mul hlow)
   obtain ⟨d,hd,hd2⟩:=bt_natN a (n - 1 - i)
   obtain ⟨hb1,hb2⟩:=byte_lt hr8 hx2 hd2
   have hstep:=li_go a n N i (i/8) (i%8) _ d _ (uu_flat L) hn (by omega) ea hq hr8 he (uget (by omega)) hx2 hd hd2
   have hset:(L.map uu).set (i/8) (uu (L.getD (i/8) 0+d*2^(8*(i%8))))=(L.set (i/8) (L.getD (i/8) 0+d*2^(8*(i%8)))).map uu:=by rw [List.map_set]
   rw [hset] at hstep
   have hlen:(L.set (i/8) (L.getD (i/8) 0+d*2^(8*(i%8)))).length=N:=by simp [hl]
   have hval:lw (L.set (i/8) (L.getD (i/8) 0+d*2^(8*(i%8))))=M.be (a.data.toList.drop (n - (i+1))):=by
    have h1:=lw_set (L:=L) (q:=i/8) (y:=L.getD (i/8) 0+d*2^(8*(i%8))) (by omega)
    have h2:=SA.be_drop_pred a i (by omega)
    rw [ea,hd,← hv] at h2
    have h3:M.be (a.data.toList.drop (n - (i+1)))=d*256^i+lw L:=by exact_mod_cast h2
    have h4:256^i=18446744073709551616^(i/8)*2^(8*(i%8)):=by
     rw [show (18446744073709551616:Nat)=2^64 by decide,← Nat.pow_mul,← Nat.pow_add,show 64*(i/8)+8*(i%8)=8*i by omega,Nat.pow_mul]
    rw [h3,h4]
    rw [Nat.mul_add] at h1
    have h5:d*(18446744073709551616^(i/8)*2^(8*(i%8)))=18446744073709551616^(i/8)*(d*2^(8*(i%8))):=by rw [Nat.mul_left_comm]
    rw [h5]
    omega
   obtain ⟨L',h1,h2,h3,h4⟩:=li_loop a n N ea hn hN rem (i+1) _ (by omega) (by omega) hlen (wd_set hw (by omega)) hval
   exact ⟨L',h1,h2,h3,.step hstep h4⟩
theorem limbs_spec (a:ByteArray) (hn:a.size < 17592186044416) (hc:M.B (M.V a)=a) :
 ∃ L,L.length=(a.size+7)/8∧Nm L 0 ((a.size+7)/8) ((a.size+7)/8) (M.V a)∧FSpec Tryd.prog 87 [.c (.string a)] [] (.sl 0 0 ((a.size+7)/8) ((a.size+7)/8)) [some ⟨true,L.map uu⟩]:=by
 obtain ⟨L,h1,h2,h3,h4⟩:=li_loop a a.size ((a.size+7)/8) rfl (by omega) rfl a.size 0 (List.replicate ((a.size+7)/8) 0) (by omega) (by omega) (by simp) (fun x hx=>by rw [List.eq_of_mem_replicate hx]; decide) (by
  rw [Nat.sub_zero,List.drop_of_length_le (by rw [M.size_toList]; exact Nat.le_refl _)]
  have:∀ k,lw (List.replicate k 0)=0:=fun k=>by
   induction k with
   | zero=>rfl
   | succ k ih=>rw [List.replicate_succ,lw,ih]
  rw [this]
  rfl)
 have hrep:(List.replicate ((a.size+7)/8) 0).map uu=List.replicate ((a.size+7)/8) (V.c (.int .u64 0)):=by
  rw [List.map_replicate]
  rfl
 rw [hrep] at h4
 refine ⟨L,h1,⟨h2,by omega,Nat.le_refl _,?_,?_⟩,li_fn a a.size _ _ (uu_flat L) hn rfl rfl h4.spec⟩
 ·rw [← h3]
  unfold win
  rw [List.drop_zero,← h1,List.take_length]
 rcases Nat.eq_zero_or_pos a.size with h | h
 ·exact .inl (by omega)
 refine .inr ?_
 have hv:¬ M.V a < 256^(a.size - 1):=fun hh=>by
  have:=M.size_B_le hh
  rw [hc] at this
  omega
 have hp:=Nat.pow_le_pow_right (n:=256) (by decide) (show 8*((a.size+7)/8 - 1)≤a.size - 1 by omega)
 rw [show (18446744073709551616:Nat)=256^8 by decide,← Nat.pow_mul]
 omega
end Go.Proofs.YtmkgijiniopalaaDoor.G
