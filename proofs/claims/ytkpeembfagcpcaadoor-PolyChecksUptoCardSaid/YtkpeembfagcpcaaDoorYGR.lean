import Derived.Test.YtkpeembfagcpcaaDoorYGE
import Derived.Test.YtkpeembfagcpcaaDoorYGW
namespace Go.Proofs.YtkpeembfagcpcaaDoor.G
open Go.Proofs.YtkpeembfagcpcaaDoor.U
set_option linter.unusedVariables false
set_option maxRecDepth 100000
theorem len_of {C:List V} {k:Nat} {v u:V} (h:C[k]? = some v):k+List.length [u]≤C.length:=by
  have:=(List.getElem?_eq_some_iff.1 h).1
  simp; omega
theorem len_set {C:List V} {k:Nat} {v u z:V} (h:C[k]? = some v):k+List.length [u]≤List.length (List.set C k z):=by
  have:=(List.getElem?_eq_some_iff.1 h).1
  simp; omega
theorem set_at {C:List V} {k:Nat} {v u:V} (h:C[k]? = some v):(List.set C k u)[k]? = some u:=by
  rw [List.getElem?_set_self (List.getElem?_eq_some_iff.1 h).1]
theorem set_next {C:List V} {k j:Nat} {v u:V} (h:C[j]? = some v) (hk:k≠j):(List.set C k u)[j]? = some v:=by
  rw [List.getElem?_set_ne hk]; exact h
theorem flat_set {C:List V} {k:Nat} {u:V} (hu:u.isC=true) (h:∀ v:V,v∈C→v.isC=true):∀ v:V,v∈List.set C k u→v.isC=true:=fun v hv=>by
  rcases List.mem_or_eq_of_mem_set hv with h1 | rfl
  · exact h v h1
  exact hu
theorem shr_lt {x s:Nat} (h:s≤64) (hx:x < 18446744073709551616):x/2^s < 2^(64 - s):=by
  refine Nat.div_lt_of_lt_mul ?_
  rw [← Nat.pow_add,show s+(64 - s)=64 by omega]
  exact hx
theorem or_shift {x y s:Nat} (h:0 < s) (hs:s < 64) (hx:x < 18446744073709551616) :
    V.c (Value.int IntKind.u64 (IntKind.wrap IntKind.u64 ((BitVec.toNat (BitVec.ofInt (64:Nat) ((x/2^s:Nat):Int) ||| BitVec.ofInt (64:Nat) ((y*2^(64 - s)%18446744073709551616:Nat):Int)):Nat):Int)))=V.c (.int .u64 ((x/2^s+y%2^s*2^(64 - s):Nat):Int)):=by
  have h1:=shr_lt (Nat.le_of_lt hs) hx
  have h2:2^(64 - s) < 18446744073709551616:=by
    rw [show (18446744073709551616:Nat)=2^64 by decide]
    exact Nat.pow_lt_pow_right (by decide) (by omega)
  rw [or_words (by omega) (Nat.mod_lt _ (by decide))]
  congr 3
  have e:y*2^(64 - s)%18446744073709551616=y%2^s*2^(64 - s):=by
    rw [show (18446744073709551616:Nat)=2^s*2^(64 - s) by rw [← Nat.pow_add,show s+(64 - s)=64 by omega],Nat.mul_mod_mul_right]
  rw [e,or_apart h1]
theorem quo_q {q s:Nat} (hs:s < 64) (hq:q < 1125899906842624):V.c (Value.int IntKind.i64 (IntKind.wrap IntKind.i64 (Int.tdiv ((64*q+s:Nat):Int) 64)))=V.c (Value.int IntKind.i64 (q:Int)):=by
  congr 2
  rw [Int.tdiv_eq_ediv_of_nonneg (by omega),show (((64*q+s:Nat):Int)/64)=q by omega]
  simp [IntKind.wrap,IntKind.signed,IntKind.bits]; omega
theorem rem_q {q s:Nat} (hs:s < 64):V.c (Value.int IntKind.i64 (Int.tmod ((64*q+s:Nat):Int) 64))=V.c (Value.int IntKind.i64 (s:Int)):=by
  congr 2
  rw [Int.tmod_eq_emod_of_nonneg (by omega)]
  omega
theorem slice_q {off q n c:Nat} (hq:q < n) (hc:n≤c):V.sl 0 (off+(if c=Int.toNat (q:Int) then 0 else Int.toNat (q:Int)*1)) (n - Int.toNat (q:Int)) (c - Int.toNat (q:Int))=V.sl 0 (off+q) (n - q) (c - q):=by
  have:¬ c=q:=by omega
  simp [this]
def rS (o m c s:Nat) (C:List V) (i:Nat):St:=⟨[.sl 0 o m c,.c (.int .i64 (s:Nat))]++List.replicate 13 .any++[.c (.int .i64 (m:Nat)),.c (.int .i64 (i:Nat))]++List.replicate 31 .any,[some ⟨true,C⟩]⟩
theorem ri_go (o m c s i x y:Nat) (C:List V) (hf:∀ v:V,v∈C→v.isC=true) (hm:m < 1125899906842624) (hs:0 < s) (hs2:s < 64) (hi:i < m) (hx:C[o+i]? = some (uu x)) (hx2:x < 18446744073709551616) (hl:i+1 < m) (hy:C[o+(i+1)]? = some (uu y)) (hy2:y < 18446744073709551616):TSpec Tryd.prog (loopOf Tryd.f191 0) (rS o m c s C i) (Ex.normal) (rS o m c s ((C.set (o+i) (uu (x/2^s))).set (o+i) (uu (x/2^s+y%2^s*2^(64 - s)))) (i+1)) :=
  tspec_dim (sc:=[(5,0,.is (.c (.bool true))),(7,2,.is (.p 0 (o+i))),(7,3,.fix (.int .u64 (x:Nat))),(7,5,.fix (.int .u64 (x/2^s:Nat))),(7,6,.is (.p 0 (o+i))),(7,7,.fix undef),(8,1,.is (.c (.int .i64 (i+1:Nat)))),(8,4,.is (.c (.bool true))),(9,2,.is (.p 0 (o+i))),(9,3,.fix (.int .u64 (x/2^s:Nat))),(9,6,.is (.c (.int .i64 (i+1:Nat)))),(9,7,.is (.p 0 (o+(i+1)))),(9,8,.fix (.int .u64 (y:Nat))),(9,10,.is (.c (.int .i64 (64-s:Nat)))),(9,11,.fix (.int .u64 (y*2^(64 - s)%18446744073709551616:Nat))),(9,12,.is (.c (.int .u64 (x/2^s+y%2^s*2^(64 - s):Nat)))),(9,13,.is (.p 0 (o+i))),(9,14,.fix undef),(10,0,.is (.c (.int .i64 (i+1:Nat))))]) (sb:=[]) (obs:=[Ob.prop (V.c (Value.bool (decide ((↑i:Int) < (↑m:Int))))=vT),Ob.prop (V.p 0 (o+Int.toNat (↑i:Int)*1)=V.p 0 (o+i)),Ob.prop ((0:Int)≤(↑i:Int)∧(↑i:Int) < (↑m:Int)),Ob.prop (C[o+i]? = some (vU ↑x)),Ob.val (execOp (St.rho ⟨(slots 24 0 [(22,vU ↑x),(23,vI ↑s)]),[]⟩) { dst:=some 24,op:=Op.binOp BinOp.shr 79 (Operand.tmp 22) (Operand.tmp 23) 3,type:=79,pos := "gcd.go:36",after:={ toList:=[{ on:=3,ground:=Ground.data },{ on:=4,ground:=Ground.data }] },guard:=none }) (Value.int IntKind.u64 (↑(x/(2:Nat)^s):Int)),Ob.prop (V.p 0 (o+Int.toNat (↑i:Int)*1)=V.p 0 (o+i)),Ob.prop ((0:Int)≤(↑i:Int)∧(↑i:Int) < (↑m:Int)),Ob.prop (o+i+List.length [vU (↑(x/(2:Nat)^s):Int)]≤List.length C),Ob.prop (vI (IntKind.wrap .i64 ((↑i:Int)+(1:Int)))=vI (↑(i+1):Int)),Ob.prop (V.c (Value.bool (decide ((↑(i+1):Int) < (↑m:Int))))=vT),Ob.prop (V.p 0 (o+Int.toNat (↑i:Int)*1)=V.p 0 (o+i)),Ob.prop ((0:Int)≤(↑i:Int)∧(↑i:Int) < (↑m:Int)),Ob.prop ((List.set C (o+i) (vU (↑(x/(2:Nat)^s):Int)))[o+i]? = some (vU (↑(x/(2:Nat)^s):Int))),Ob.prop (vI (IntKind.wrap .i64 ((↑i:Int)+(1:Int)))=vI (↑(i+1):Int)),Ob.prop (V.p 0 (o+Int.toNat (↑(i+1):Int)*1)=V.p 0 (o+(i+1))),Ob.prop ((0:Int)≤(↑(i+1):Int)∧(↑(i+1):Int) < (↑m:Int)),Ob.prop ((List.set C (o+i) (vU (↑(x/(2:Nat)^s):Int)))[o+(i+1)]? = some (vU ↑y)),Ob.prop (vI (IntKind.wrap .i64 ((64:Int) - (↑s:Int)))=vI (↑(64 - s):Int)),Ob.val (execOp (St.rho ⟨(slots 42 0 [(39,vU ↑y),(41,vI (↑(64 - s):Int))]),[]⟩) { dst:=some 42,op:=Op.binOp BinOp.shl 79 (Operand.tmp 39) (Operand.tmp 41) 3,type:=79,pos := "gcd.go:38",after:={ toList:=[{ on:=8,ground:=Ground.data },{ on:=10,ground:=Ground.data }] },guard:=none }) (Value.int IntKind.u64 (↑(y*(2:Nat)^(64 - s)%18446744073709551616):Int)),Ob.prop (vU (IntKind.wrap .u64 (↑(BitVec.toNat (BitVec.ofInt 64 (↑(x/(2:Nat)^s):Int) ||| BitVec.ofInt 64 (↑(y*(2:Nat)^(64 - s)%18446744073709551616):Int))):Int))=vU (↑(x/(2:Nat)^s+y%(2:Nat)^s*(2:Nat)^(64 - s)):Int)),Ob.prop (V.p 0 (o+Int.toNat (↑i:Int)*1)=V.p 0 (o+i)),Ob.prop ((0:Int)≤(↑i:Int)∧(↑i:Int) < (↑m:Int)),Ob.prop (o+i+List.length [vU (↑(x/(2:Nat)^s+y%(2:Nat)^s*(2:Nat)^(64 - s)):Int)]≤List.length (List.set C (o+i) (vU (↑(x/(2:Nat)^s):Int)))),Ob.prop (vI (IntKind.wrap .i64 ((↑i:Int)+(1:Int)))=vI (↑(i+1):Int))]) ([true,true]++List.replicate 13 false++[true,true]) 1 (by kernel_rfl) (hP zV (hP zV (hP zV (hP hx (hV (sv_shr hs2 rfl rfl) (hP zV (hP zV (hP (len_of hx) (hP zV (hP zV (hP zV (hP zV (hP (set_at hx) (hP zV (hP zV (hP zV (hP (set_next hy (by omega)) (hP zV (hV (sv_shl (by omega) rfl rfl) (hP (or_shift hs hs2 hx2) (hP zV (hP zV (hP (len_set hx) (hP zV hN)))))))))))))))))))))))) ⟨flat_set rfl (flat_set rfl hf),trivial⟩
theorem ri_last (o m c s i x:Nat) (C:List V) (hf:∀ v:V,v∈C→v.isC=true) (hm:m < 1125899906842624) (hs:0 < s) (hs2:s < 64) (hi:i < m) (hx:C[o+i]? = some (uu x)) (hx2:x < 18446744073709551616) (hl:¬ i+1 < m):TSpec Tryd.prog (loopOf Tryd.f191 0) (rS o m c s C i) (Ex.normal) (rS o m c s (C.set (o+i) (uu (x/2^s))) (i+1)) :=
  tspec_dim (sc:=[(5,0,.is (.c (.bool true))),(7,2,.is (.p 0 (o+i))),(7,3,.fix (.int .u64 (x:Nat))),(7,5,.fix (.int .u64 (x/2^s:Nat))),(7,6,.is (.p 0 (o+i))),(7,7,.fix undef),(8,1,.is (.c (.int .i64 (i+1:Nat)))),(8,4,.is (.c (.bool false))),(10,0,.is (.c (.int .i64 (i+1:Nat))))]) (sb:=[]) (obs:=[Ob.prop (V.c (Value.bool (decide ((↑i:Int) < (↑m:Int))))=vT),Ob.prop (V.p 0 (o+Int.toNat (↑i:Int)*1)=V.p 0 (o+i)),Ob.prop ((0:Int)≤(↑i:Int)∧(↑i:Int) < (↑m:Int)),Ob.prop (C[o+i]? = some (vU ↑x)),Ob.val (execOp (St.rho ⟨(slots 24 0 [(22,vU ↑x),(23,vI ↑s)]),[]⟩) { dst:=some 24,op:=Op.binOp BinOp.shr 79 (Operand.tmp 22) (Operand.tmp 23) 3,type:=79,pos := "gcd.go:36",after:={ toList:=[{ on:=3,ground:=Ground.data },{ on:=4,ground:=Ground.data }] },guard:=none }) (Value.int IntKind.u64 (↑(x/(2:Nat)^s):Int)),Ob.prop (V.p 0 (o+Int.toNat (↑i:Int)*1)=V.p 0 (o+i)),Ob.prop ((0:Int)≤(↑i:Int)∧(↑i:Int) < (↑m:Int)),Ob.prop (o+i+List.length [vU (↑(x/(2:Nat)^s):Int)]≤List.length C),Ob.prop (vI (IntKind.wrap .i64 ((↑i:Int)+(1:Int)))=vI (↑(i+1):Int)),Ob.prop (V.c (Value.bool (decide ((↑(i+1):Int) < (↑m:Int))))=vF),Ob.prop (vI (IntKind.wrap .i64 ((↑i:Int)+(1:Int)))=vI (↑(i+1):Int))]) ([true,true]++List.replicate 13 false++[true,true]) 1 (by kernel_rfl) (hP zV (hP zV (hP zV (hP hx (hV (sv_shr hs2 rfl rfl) (hP zV (hP zV (hP (len_of hx) (hP zV (hP zV (hP zV hN))))))))))) ⟨flat_set rfl hf,trivial⟩
theorem ri_end (o m c s:Nat) (C:List V) (hf:∀ v:V,v∈C→v.isC=true):TSpec Tryd.prog (loopOf Tryd.f191 0) (rS o m c s C m) (Ex.exit 0) (rS o m c s C m) :=
  tspec_dim (sc:=[(5,0,.is (.c (.bool false)))]) (sb:=[]) (obs:=[Ob.prop (V.c (Value.bool (decide ((↑m:Int) < (↑m:Int))))=vF)]) ([true,true]++List.replicate 13 false++[true,true]) 1 (by kernel_rfl) (hP zV hN) ⟨hf,trivial⟩
theorem ri_fnA (off n c q s k:Nat) (C C':List V) (hf:∀ v:V,v∈C' → v.isC=true) (hf0:∀ v:V,v∈C→v.isC=true) (hn:n < 1125899906842624) (hq:q < n) (hc:n≤c) (hs2:s < 64) (hcut:FSpec Tryd.prog 210 [.sl 0 (off+q) (n - q) (c - q)] [some ⟨true,C'⟩] (.sl 0 (off+q) k (c - q)) [some ⟨true,C'⟩]) (hs:0 < s) (h:TSpec Tryd.prog (.block 0 (.loop (loopOf Tryd.f191 0))) (rS (off+q) (n - q) (c - q) s C 0) .normal (rS (off+q) (n - q) (c - q) s C' (n - q))):FSpec Tryd.prog 191 [.sl 0 off n c,.c (.int .i64 (64*q+s:Nat))] [some ⟨true,C⟩] (V.sl 0 (off+q) k (c - q)) [some ⟨true,C'⟩] :=
  fspec_ok Tryd.func191 (sc:=[(1,2,.is (.c (.int .i64 (q:Nat)))),(1,3,.is (.sl 0 (off+q) (n - q) (c - q))),(2,1,.is (.c (.int .i64 (s:Nat)))),(3,1,.is (.c (.bool true))),(11,1,.call (.sl 0 (off+q) k (c - q)) [some ⟨true,C'⟩])]) (sb:=[(0,.normal,rS (off+q) (n - q) (c - q) s C' (n - q))]) (keep:=[]) (obs:=[Ob.prop (Flat ([some ⟨true,C'⟩]:List (Option Row))),Ob.prop (vI (IntKind.wrap .i64 (Int.tdiv (↑(64*q+s):Int) (64:Int)))=vI ↑q),Ob.prop (V.sl 0 (off+if c=Int.toNat (↑q:Int) then (0:Nat) else Int.toNat (↑q:Int)*1) (Int.toNat (↑n:Int) - Int.toNat (↑q:Int)) (c - Int.toNat (↑q:Int))=V.sl 0 (off+q) (n - q) (c - q)),Ob.prop ((0:Int)≤(↑q:Int)∧(↑q:Int)≤(↑n:Int)∧(↑n:Int)≤(↑c:Int)),Ob.prop (vI (Int.tmod (↑(64*q+s):Int) (64:Int))=vI ↑s),Ob.prop (V.c (Value.bool (decide ((↑s:Int) > (0:Int))))=vT),Ob.prop (TSpec Tryd.prog (Code.block 0 (Code.loop (loopOf Tryd.f191 0))) ({ t:=[V.sl 0 (off+q) (n - q) (c - q),vI ↑s,V.c (Value.tuple { toList:=[] }),V.c (Value.tuple { toList:=[] }),V.c (Value.slice none 0 0),V.c (Value.tuple { toList:=[] }),V.sl 0 off n c,vI (↑(64*q+s):Int),vI ↑q,V.sl 0 (off+q) (n - q) (c - q),vI (↑(64*q+s):Int),vI ↑s,vI ↑s,vT,V.sl 0 (off+q) (n - q) (c - q),vI (↑(n - q):Int),vI (0:Int),V.c (Value.tuple { toList:=[] }),V.c (Value.tuple { toList:=[] }),V.c (Value.tuple { toList:=[] }),V.c (Value.tuple { toList:=[] }),V.c (Value.tuple { toList:=[] }),V.c (Value.tuple { toList:=[] }),V.c (Value.tuple { toList:=[] }),V.c (Value.tuple { toList:=[] }),V.c (Value.tuple { toList:=[] }),V.c (Value.tuple { toList:=[] }),V.c (Value.tuple { toList:=[] }),V.c (Value.tuple { toList:=[] }),V.c (Value.tuple { toList:=[] }),V.c (Value.tuple { toList:=[] }),V.c (Value.tuple { toList:=[] }),V.c (Value.tuple { toList:=[] }),V.c (Value.tuple { toList:=[] }),V.c (Value.tuple { toList:=[] }),V.c (Value.tuple { toList:=[] }),V.c (Value.tuple { toList:=[] }),V.c (Value.tuple { toList:=[] }),V.c (Value.tuple { toList:=[] }),V.c (Value.tuple { toList:=[] }),V.c (Value.tuple { toList:=[] }),V.c (Value.tuple { toList:=[] }),V.c (Value.tuple { toList:=[] }),V.c (Value.tuple { toList:=[] }),V.c (Value.tuple { toList:=[] }),V.c (Value.tuple { toList:=[] }),V.c (Value.tuple { toList:=[] }),V.c (Value.tuple { toList:=[] })],m:=[some { own:=true,cells:=C }] }) (Ex.normal) (rS (off+q) (n - q) (c - q) s C' (n - q))),Ob.fcall 210 [V.sl 0 (off+q) (n - q) (c - q)] [some { own:=true,cells:=C' }] (V.sl 0 (off+q) k (c - q)) [some { own:=true,cells:=C' }]]) (by kernel_rfl) (hP ⟨hf,trivial⟩ (hP (quo_q hs2 (by omega)) (hP (slice_q hq hc) (hP zV (hP (rem_q hs2) (hP zV (hP (TSpec.from ([true,true]++List.replicate 13 false++[true,true]) h (by kernel_rfl) (by kernel_rfl) ⟨hf0,trivial⟩) (hF hcut hN))))))))
theorem ri_fnB (off n c q s k:Nat) (C:List V) (hf:∀ v:V,v∈C→v.isC=true)  (hn:n < 1125899906842624) (hq:q < n) (hc:n≤c) (hs2:s < 64) (hcut:FSpec Tryd.prog 210 [.sl 0 (off+q) (n - q) (c - q)] [some ⟨true,C⟩] (.sl 0 (off+q) k (c - q)) [some ⟨true,C⟩]) (hs:s=0):FSpec Tryd.prog 191 [.sl 0 off n c,.c (.int .i64 (64*q+s:Nat))] [some ⟨true,C⟩] (V.sl 0 (off+q) k (c - q)) [some ⟨true,C⟩] :=
  fspec_ok Tryd.func191 (sc:=[(1,2,.is (.c (.int .i64 (q:Nat)))),(1,3,.is (.sl 0 (off+q) (n - q) (c - q))),(2,1,.is (.c (.int .i64 (s:Nat)))),(3,1,.is (.c (.bool false))),(11,1,.call (.sl 0 (off+q) k (c - q)) [some ⟨true,C⟩])]) (sb:=[]) (keep:=[]) (obs:=[Ob.prop (Flat ([some ⟨true,C⟩]:List (Option Row))),Ob.prop (vI (IntKind.wrap .i64 (Int.tdiv (↑(64*q+s):Int) (64:Int)))=vI ↑q),Ob.prop (V.sl 0 (off+if c=Int.toNat (↑q:Int) then (0:Nat) else Int.toNat (↑q:Int)*1) (Int.toNat (↑n:Int) - Int.toNat (↑q:Int)) (c - Int.toNat (↑q:Int))=V.sl 0 (off+q) (n - q) (c - q)),Ob.prop ((0:Int)≤(↑q:Int)∧(↑q:Int)≤(↑n:Int)∧(↑n:Int)≤(↑c:Int)),Ob.prop (vI (Int.tmod (↑(64*q+s):Int) (64:Int))=vI ↑s),Ob.prop (V.c (Value.bool (decide ((↑s:Int) > (0:Int))))=vF),Ob.fcall 210 [V.sl 0 (off+q) (n - q) (c - q)] [some { own:=true,cells:=C }] (V.sl 0 (off+q) k (c - q)) [some { own:=true,cells:=C }] ]) (by kernel_rfl) (hP ⟨hf,trivial⟩ (hP (quo_q hs2 (by omega)) (hP (slice_q hq hc) (hP zV (hP (rem_q hs2) (hP zV (hF hcut hN)))))))
theorem lw_lt:∀ {W:List Nat},Wd W→lw W < 18446744073709551616^W.length
  | [],_=>by simp [lw]
  | x::r,h=>by
    have h1:=lw_lt (W:=r) fun y hy=>h y (List.mem_cons_of_mem _ hy)
    have h2:=h x List.mem_cons_self
    rw [lw,List.length_cons,Nat.pow_succ,Nat.mul_comm]
    omega
theorem lw_append:∀ (A B:List Nat),lw (A++B)=lw A+18446744073709551616^A.length*lw B
  | [],B=>by simp [lw]
  | x::r,B=>by
    have e:18446744073709551616*(18446744073709551616^r.length*lw B)=18446744073709551616^r.length*18446744073709551616*lw B:=by rw [← Nat.mul_assoc,Nat.mul_comm 18446744073709551616]
    rw [List.cons_append,lw,lw_append r B,lw,List.length_cons,Nat.pow_succ,Nat.mul_add,e,Nat.add_assoc]
theorem shift_step {x y R s:Nat} (hs:s≤64) (hy:R%2^s=y%2^s):x/2^s+y%2^s*2^(64 - s)+18446744073709551616*(R/2^s)=(x+18446744073709551616*R)/2^s:=by
  have hp:0 < 2^s:=Nat.pow_pos (by decide)
  have e:(18446744073709551616:Nat)=2^s*2^(64 - s):=by rw [← Nat.pow_add,show s+(64 - s)=64 by omega]
  have e2:x+18446744073709551616*R=x+2^s*(2^(64 - s)*R):=by rw [e,Nat.mul_assoc]
  rw [e2,Nat.add_mul_div_left _ _ hp]
  have e3:2^(64 - s)*R=R%2^s*2^(64 - s)+18446744073709551616*(R/2^s):=by
    conv=>lhs; rw [← Nat.mod_add_div R (2^s)]
    rw [Nat.mul_add,Nat.mul_comm (2^(64 - s)),← Nat.mul_assoc,Nat.mul_comm (2^(64 - s)) (2^s),← e]
  rw [e3,hy,Nat.add_assoc]
theorem word_lt {x y s:Nat} (hs:s≤64) (hx:x < 18446744073709551616):x/2^s+y%2^s*2^(64 - s) < 18446744073709551616:=by
  have h1:=shr_lt hs hx
  have hp:0 < 2^s:=Nat.pow_pos (by decide)
  have h2:y%2^s+1≤2^s:=Nat.mod_lt _ hp
  have h3:=Nat.mul_le_mul_right (2^(64 - s)) h2
  rw [← Nat.pow_add,show s+(64 - s)=64 by omega,Nat.add_mul] at h3
  have:(2:Nat)^64=18446744073709551616:=by decide
  omega
theorem at_mid {pre post:List Nat} {x:Nat} {k:Nat} (h:pre.length=k):((pre++x::post).map uu)[k]? = some (uu x):=by
  rw [List.getElem?_map,List.getElem?_append_right (by omega),← h]
  simp
theorem set_mid {pre post:List Nat} {x v:Nat} {k:Nat} (h:pre.length=k):((pre++x::post).map uu).set k (uu v)=(pre++v::post).map uu:=by
  subst h
  rw [← List.map_set,List.set_append_right _ _ (Nat.le_refl _)]
  simp
theorem uu_flat (L:List Nat):∀ v:V,v∈L.map uu→v.isC=true:=fun v hv=>by
  obtain ⟨x,_,rfl⟩:=List.mem_map.1 hv
  rfl
theorem ri_loop (o m c s:Nat) (post:List Nat) (hm:m < 1125899906842624) (hs:0 < s) (hs2:s < 64):∀ (W pre:List Nat) (i:Nat),pre.length=o+i→i+W.length=m→Wd W →
    ∃ W',W'.length=W.length∧lw W' = lw W/2^s∧Wd W' ∧ Rounds Tryd.prog (loopOf Tryd.f191 0) 0 (rS o m c s ((pre++(W++post)).map uu) i) .normal (rS o m c s ((pre++(W' ++ post)).map uu) m)
  | [],pre,i,hp,hl,hw=>by
    have:i=m:=by simpa using hl
    subst this
    exact ⟨[],rfl,by simp [lw],hw,.stop (ri_end o i c s _ (uu_flat _))⟩
  | [x],pre,i,hp,hl,hw=>by
    have hi:i+1=m:=by simpa using hl
    have hx:=at_mid (post:=post) (x:=x) hp
    refine ⟨[x/2^s],rfl,by simp [lw],fun y hy=>?_,.step (ri_last o m c s i x _ (uu_flat _) hm hs hs2 (by omega) hx (hw x (by simp)) (by omega)) ?_⟩
    · rw [List.mem_singleton.1 hy]
      exact Nat.lt_of_le_of_lt (Nat.div_le_self _ _) (hw x (by simp))
    rw [List.singleton_append,set_mid hp,hi]
    exact .stop (ri_end o m c s _ (uu_flat _))
  | x::y::r,pre,i,hp,hl,hw=>by
    have hlen:i+(r.length+2)=m:=by simpa using hl
    have hx:=at_mid (post:=y::(r++post)) (x:=x) hp
    have hy:((pre++x::y::(r++post)).map uu)[o+(i+1)]? = some (uu y):=by
      have:=at_mid (pre:=pre++[x]) (post:=r++post) (x:=y) (k:=o+(i+1)) (by simp; omega)
      simpa using this
    have hx2:=hw x (by simp)
    have hy2:=hw y (by simp)
    obtain ⟨W',h1,h2,h3,h4⟩:=ri_loop o m c s post hm hs hs2 (y::r) (pre++[x/2^s+y%2^s*2^(64 - s)]) (i+1) (by simp; omega) (by simp; omega) (fun z hz=>hw z (List.mem_cons_of_mem _ hz))
    refine ⟨(x/2^s+y%2^s*2^(64 - s))::W',by simp at h1 ⊢; exact h1,?_,fun z hz=>?_,.step (ri_go o m c s i x y _ (uu_flat _) hm hs hs2 (by omega) hx hx2 (by omega) hy hy2) ?_⟩
    · rw [lw,h2]
      refine shift_step (Nat.le_of_lt hs2) ?_
      rw [lw,show (18446744073709551616:Nat)=2^s*2^(64 - s) by rw [← Nat.pow_add,show s+(64 - s)=64 by omega],Nat.mul_assoc,Nat.add_mul_mod_self_left]
    · rcases List.mem_cons.1 hz with rfl | hz
      · exact word_lt (Nat.le_of_lt hs2) hx2
      exact h3 z hz
    rw [List.cons_append,List.cons_append,set_mid hp,set_mid hp]
    simpa using h4
def Nm (L:List Nat) (off n c v:Nat):Prop:=Wd L∧off+n≤L.length∧n≤c∧lw (win L off n)=v∧(n=0∨18446744073709551616^(n - 1)≤v)
theorem win_len {L:List Nat} {off n:Nat} (h:off+n≤L.length):(win L off n).length=n:=by simp [win]; omega
theorem win_wd {L:List Nat} {off n:Nat} (h:Wd L):Wd (win L off n):=fun x hx=>h x (List.mem_of_mem_drop (List.mem_of_mem_take hx))
theorem win_split (L:List Nat) (off n:Nat):L=L.take off++(win L off n++L.drop (off+n)):=by
  unfold win
  conv=>lhs; rw [← List.take_append_drop off L]
  congr 1
  rw [← List.drop_drop,List.take_append_drop]
theorem win_mid (pre W post:List Nat):win (pre++(W++post)) pre.length W.length=W:=by simp [win]
theorem win_succ {L:List Nat} {off n:Nat} (h:off+n < L.length):win L off (n+1)=win L off n++[L.getD (off+n) 0]:=by
  unfold win
  rw [List.take_add_one,List.getElem?_drop,List.getElem?_eq_getElem h,List.getD_eq_getElem?_getD,List.getElem?_eq_getElem h]
  rfl
theorem cut_win {L:List Nat} {off:Nat}:∀ {n:Nat},off+n≤L.length→cutN L off n≤n∧lw (win L off (cutN L off n))=lw (win L off n)∧(cutN L off n=0∨18446744073709551616^(cutN L off n - 1)≤lw (win L off n))
  | 0,_=>⟨Nat.le_refl _,rfl,.inl rfl⟩
  | n+1,h=>by
    rw [cutN]
    by_cases h0:L.getD (off+n) 0=0
    · rw [if_pos h0]
      obtain ⟨h1,h2,h3⟩:=cut_win (L:=L) (off:=off) (n:=n) (by omega)
      have e:lw (win L off (n+1))=lw (win L off n):=by
        rw [win_succ (by omega),lw_append,h0]
        simp [lw]
      exact ⟨by omega,by rw [h2,e],by rw [e]; exact h3⟩
    rw [if_neg h0]
    refine ⟨Nat.le_refl _,rfl,.inr ?_⟩
    rw [win_succ (by omega),lw_append,win_len (by omega),Nat.add_sub_cancel]
    have:lw [L.getD (off+n) 0]≠0:=by simp only [lw]; omega
    have h2:=Nat.mul_le_mul_left (18446744073709551616^n) (show 1≤lw [L.getD (off+n) 0] by omega)
    omega
theorem cut_nm {L:List Nat} {off n c:Nat} (b:Bool) (hw:Wd L) (h:off+n≤L.length) (hc:n≤c) (hn:n < 1125899906842624) :
    ∃ k,k≤n∧Nm L off k c (lw (win L off n))∧FSpec Tryd.prog 210 [.sl 0 off n c] [some ⟨b,L.map uu⟩] (.sl 0 off k c) [some ⟨b,L.map uu⟩]:=by
  obtain ⟨h1,h2,h3⟩:=cut_win h
  exact ⟨_,h1,⟨hw,by omega,by omega,h2,h3⟩,cut_spec off c b L n h hc (by omega)⟩
theorem right_spec {L:List Nat} {off n c v t:Nat} (h:Nm L off n c v) (hn:n < 1125899906842624) (ht:t < 64*n) :
    ∃ L' off' n' c',n' ≤ n∧L'.length=L.length∧Nm L' off' n' c' (v/2^t)∧FSpec Tryd.prog 191 [.sl 0 off n c,.c (.int .i64 (t:Nat))] [some ⟨true,L.map uu⟩] (.sl 0 off' n' c') [some ⟨true,L'.map uu⟩]:=by
  obtain ⟨hw,hl,hc,hv,_⟩:=h
  have hq:t/64 < n:=by omega
  have hs2:t%64 < 64:=Nat.mod_lt _ (by decide)
  have et:t=64*(t/64)+t%64:=by omega
  have hsplit:win L off n=win L off (t/64)++win L (off+t/64) (n - t/64):=by
    unfold win
    rw [← List.drop_drop,← List.take_add,show t/64+(n - t/64)=n by omega]
  have hdrop:lw (win L (off+t/64) (n - t/64))=v/2^(64*(t/64)):=by
    rw [← hv,hsplit,lw_append,win_len (by omega),show (18446744073709551616:Nat)=2^64 by decide,← Nat.pow_mul]
    have hlt:=lw_lt (win_wd (L:=L) (off:=off) (n:=t/64) hw)
    rw [win_len (by omega),show (18446744073709551616:Nat)=2^64 by decide,← Nat.pow_mul] at hlt
    rw [Nat.add_mul_div_left _ _ (Nat.pow_pos (by decide)),Nat.div_eq_of_lt hlt,Nat.zero_add]
  have hdiv:v/2^t=v/2^(64*(t/64))/2^(t%64):=by
    rw [Nat.div_div_eq_div_mul,← Nat.pow_add,← et]
  by_cases h0:t%64=0
  · obtain ⟨k,h1,h2,h3⟩:=cut_nm true hw (off:=off+t/64) (n:=n - t/64) (c:=c - t/64) (by omega) (by omega) (by omega)
    refine ⟨L,off+t/64,k,c - t/64,by omega,rfl,?_,?_⟩
    · rw [hdiv,h0,Nat.pow_zero,Nat.div_one,← hdrop]
      exact h2
    have:=ri_fnB off n c (t/64) (t%64) k _ (uu_flat L) hn hq hc hs2 h3 h0
    rwa [← et] at this
  have hsp:=win_split L (off+t/64) (n - t/64)
  have htl:(L.take (off+t/64)).length=off+t/64:=by simp; omega
  obtain ⟨W',w1,w2,w3,w4⟩:=ri_loop (off+t/64) (n - t/64) (c - t/64) (t%64) (L.drop (off+t/64+(n - t/64))) (by omega) (by omega) hs2 (win L (off+t/64) (n - t/64)) (L.take (off+t/64)) 0 (by omega) (by rw [win_len (by omega)]; omega) (win_wd hw)
  rw [← hsp] at w4
  rw [win_len (by omega)] at w1
  have hwd:Wd (L.take (off+t/64)++(W' ++ L.drop (off+t/64+(n - t/64)))):=fun x hx=>by
    rcases List.mem_append.1 hx with hx | hx
    · exact hw x (List.mem_of_mem_take hx)
    rcases List.mem_append.1 hx with hx | hx
    · exact w3 x hx
    exact hw x (List.mem_of_mem_drop hx)
  have hlen:(L.take (off+t/64)++(W' ++ L.drop (off+t/64+(n - t/64)))).length=L.length:=by
    simp [w1]; omega
  obtain ⟨k,h1,h2,h3⟩:=cut_nm true hwd (off:=off+t/64) (n:=n - t/64) (c:=c - t/64) (by omega) (by omega) (by omega)
  have hwin:win (L.take (off+t/64)++(W' ++ L.drop (off+t/64+(n - t/64)))) (off+t/64) (n - t/64)=W':=by
    have:=win_mid (L.take (off+t/64)) W' (L.drop (off+t/64+(n - t/64)))
    rwa [htl,w1] at this
  refine ⟨_,off+t/64,k,c - t/64,by omega,hlen,?_,?_⟩
  · rw [hwin] at h2
    rw [hdiv,← hdrop,← w2]
    exact h2
  have:=ri_fnA off n c (t/64) (t%64) k _ _ (uu_flat _) (uu_flat L) hn hq hc hs2 h3 (by omega) w4.spec
  rwa [← et] at this
end Go.Proofs.YtkpeembfagcpcaaDoor.G
