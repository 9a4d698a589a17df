import Derived.Test.YtbfpmofhopglfaaDoorYKA
import Derived.Test.YtbfpmofhopglfaaDoorYRC
import Derived.Test.YtbfpmofhopglfaaDoorYPC
set_option maxRecDepth 100000
set_option linter.unusedVariables false
section
namespace Go.Proofs.YtbfpmofhopglfaaDoor.G
open Go.Proofs.YtbfpmofhopglfaaDoor.U Go.RowKit
def SzN (m K:Nat):Prop:=m < 256^K
end Go.Proofs.YtbfpmofhopglfaaDoor.G
end
section
namespace Go.Proofs.YtbfpmofhopglfaaDoor.G
open Go.Proofs.YtbfpmofhopglfaaDoor.U Go.RowKit Go.Proofs.YtbfpmofhopglfaaDoor.A Go.Proofs.YtbfpmofhopglfaaDoor.B Go.Proofs.YtbfpmofhopglfaaDoor.C Go.Proofs.YtbfpmofhopglfaaDoor.R Go.Proofs.YtbfpmofhopglfaaDoor.H
theorem rbarer_k {a:ByteArray}:CSpec Tryd.prog 134 #[.string a] (.string (M.B (M.V a))):=fun w _=>(gantref1_Bare.calls a _ w (SB.bare_spec a)).mono fun e w' h=>⟨h.1,h.2.below⟩
theorem rcommonr_k {a b:ByteArray} (ha:a.size≤2000000000) (hb:b.size≤2000000000):CSpec Tryd.prog 125 #[.string a,.string b] (.string (M.B (Nat.gcd (M.V a) (M.V b)))):=fun w _=>by
  obtain ⟨k,hk⟩:=ev_some (SB.common_spec a b (by omega) (by omega))
  exact gantref1_Common.calls k a b _ w hk
section
variable {k l K L:Nat}
theorem SzN.size (h:SzN k K):(M.B k).size≤K:=M.size_B_le h
theorem rbare_k:CSpec Tryd.prog 134 #[.string (M.B k)] (.string (M.B k)):=by
  have:=rbarer_k (a:=M.B k)
  rwa [M.V_B] at this
theorem rcommon_k (h1:SzN k K) (h2:SzN l L) (hs:K+L≤2000000000):CSpec Tryd.prog 125 #[.string (M.B k),.string (M.B l)] (.string (M.B (Nat.gcd k l))):=by
  have:=rcommonr_k (a:=M.B k) (b:=M.B l) (by have:=h1.size; omega) (by have:=h2.size; omega)
  rwa [M.V_B,M.V_B] at this
theorem rplus_k (h1:SzN k K) (h2:SzN l L) (hs:K+L≤17179869184):CSpec Tryd.prog 135 #[.string (M.B k),.string (M.B l)] (.string (M.B (k+l))):=fun w _=>by
  obtain ⟨i,hi⟩:=ev_some (SB.plus_spec (M.B k) (M.B l) (by have:=h1.size; omega) (by have:=h2.size; omega))
  rw [M.V_B,M.V_B] at hi
  exact gantref1_Plus.calls i _ _ _ w hi
theorem rshare_k (h1:SzN k K) (h2:SzN l L) (hs:K+L≤17179869184) (h0:l≠0):CSpec Tryd.prog 172 #[.string (M.B k),.string (M.B l)] (.tuple #[.string (M.B (k/l)),.string (M.B (k%l))]):=fun w _=>by
  obtain ⟨i,hi⟩:=ev_some (SB.share_spec (M.B k) (M.B l) (by have:=h1.size; omega) (by have:=h2.size; omega) (by rw [M.V_B]; exact h0))
  rw [M.V_B,M.V_B] at hi
  exact gantref1_Share.calls i _ _ _ _ w hi
end
end Go.Proofs.YtbfpmofhopglfaaDoor.G
end
section
namespace Go.Proofs.YtbfpmofhopglfaaDoor.G
open Go.Proofs.YtbfpmofhopglfaaDoor.U Go.RowKit
theorem str_eq (a b:ByteArray):(a.toList==b.toList)=decide (a=b):=by
  have:=str_neq a b
  by_cases h:a=b
  · subst h; simp
  rw [decide_eq_true h] at this
  rw [decide_eq_false h]
  simpa using this
section
variable {s t:Bool} {k d l e K L D E:Nat}
theorem gcdn_s (h:SzN d L) (hd:d≠0):SzN (Nat.gcd k d) L:=Nat.lt_of_le_of_lt (Nat.gcd_le_right _ (by omega)) h
end
theorem rat1 {s:Bool} {k d K D:Nat} (h1':SzN k K) (h2':SzN d D) (k1:K+D≤2000000000) (hd:d≠0) (h0:(ByteArray.toList (M.B k)==ByteArray.toList { data:=#[] })=true):CSpec Tryd.prog 138 #[(rv s (M.B k) (M.B d))] (ag [[.bool false],[.string ({ data:=#[] })],[.string ({ data:=#[(1:UInt8)] })]]):=by
  exact fn_ok Tryd.func138 (sc:=[(1,2,.fix (.string (M.B k))),(1,3,.is (.c (.bool true)))]) (sb:=[]) (by kernel_rfl) (hC (rbare_k (k:=k)) (hP (isB h0) hN))
theorem rat2 {s:Bool} {k d K D:Nat} (h1':SzN k K) (h2':SzN d D) (k1:K+D≤2000000000) (hd:d≠0) (h0:(ByteArray.toList (M.B k)==ByteArray.toList { data:=#[] })=false) (h2:Nat.gcd k d≠(0:Nat)):CSpec Tryd.prog 138 #[(rv s (M.B k) (M.B d))] (ag [[.bool s],[.string (M.B (k/Nat.gcd k d))],[.string (M.B (d/Nat.gcd k d))]]):=by
  have s1:=(gcdn_s (k:=k) h2' hd)
  exact fn_ok Tryd.func138 (sc:=[(1,2,.fix (.string (M.B k))),(1,3,.is (.c (.bool false))),(3,4,.fix (.string (M.B (Nat.gcd k d)))),(4,3,.fix (.tuple #[.string (M.B (k/Nat.gcd k d)),.string (M.B (k%Nat.gcd k d))])),(5,3,.fix (.tuple #[.string (M.B (d/Nat.gcd k d)),.string (M.B (d%Nat.gcd k d))]))]) (sb:=[]) (by kernel_rfl) (hC (rbare_k (k:=k)) (hP (isB h0) (hC (rcommon_k h1' h2' k1) (hC (rshare_k h1' s1 (by omega) h2) (hC (rshare_k h2' s1 (by omega) h2) hN)))))
theorem rat_k {s:Bool} {k d K D:Nat} (h1':SzN k K) (h2':SzN d D) (k1:K+D≤2000000000) (hd:d≠0):CSpec Tryd.prog 138 #[rv s (M.B k) (M.B d)] (Rv (mkRat (sgn s k) d)):=by
  by_cases h:k=0
  · have e:mkRat (sgn s k) d=0:=(Rat.mkRat_eq_zero hd).2 (by rw [h]; cases s<;>rfl)
    rw [e,Rv_zero]
    exact rat1 h1' h2' k1 hd (by rw [str_eq]; exact decide_eq_true (B_nil h))
  rw [rv_mk s k d h hd]
  exact rat2 h1' h2' k1 hd (by rw [str_eq]; exact decide_eq_false (B_ne h)) (fun hg=>h (Nat.eq_zero_of_gcd_eq_zero_left hg))
end Go.Proofs.YtbfpmofhopglfaaDoor.G
end
section
namespace Go.Proofs.YtbfpmofhopglfaaDoor.G
open Go.Proofs.YtbfpmofhopglfaaDoor.U Go.RowKit
def FlM (b:Nat):Nat:=if b/4503599627370496=0 then b%4503599627370496 else b%4503599627370496+4503599627370496
def FlE (b:Nat):Nat:=if b/4503599627370496=0 then 1 else b/4503599627370496
def Fl (b:Nat):Rat:=if 1075≤FlE b then (FlM b:Rat)*((2^(FlE b - 1075):Nat):Rat) else (FlM b:Rat)/((2^(1075 - FlE b):Nat):Rat)
theorem FlM_lt (b:Nat):FlM b < 9007199254740992:=by
  unfold FlM
  split<;>omega
theorem FlE_pos (b:Nat):1≤FlE b:=by
  unfold FlE
  split<;>omega
theorem FlE_le {b:Nat} (h:b≤9218868437227405312):FlE b≤2047:=by
  unfold FlE
  split
  · decide
  exact (Nat.div_le_iff_le_mul_add_pred (by decide)).2 (by omega)
theorem natR_z {n K:Nat} (h:n < 256^K) (hK:1≤K):Sz (n:Rat) K:=by
  refine ⟨?_,?_⟩
  · show (n:Rat).num.natAbs < _
    rw [Rat.num_natCast,Int.natAbs_natCast]
    exact h
  rw [Rat.den_natCast]
  exact Nat.one_lt_pow (by omega) (by decide)
theorem pow2_z {k K:Nat} (h:k < 8*K):Sz ((2^k:Nat):Rat) K:=by
  refine natR_z ?_ (by omega)
  rw [show (256:Nat)^K=2^(8*K) by rw [Nat.pow_mul]]
  exact Nat.pow_lt_pow_right (by decide) h
theorem flm_s (b:Nat):Sz (FlM b:Rat) 8:=natR_z (Nat.lt_of_lt_of_le (FlM_lt b) (by decide)) (by decide)
theorem fl_s {b:Nat} (h:b≤9218868437227405312):Sz (Fl b) 160:=by
  have h1:=FlE_le h
  have h2:=FlE_pos b
  unfold Fl
  split
  · exact (mul_s (flm_s b) (pow2_z (K:=135) (by omega))).mono (by decide)
  exact (div_s (flm_s b) (pow2_z (K:=135) (by omega))).mono (by decide)
theorem half_n {n:Nat} {d:Rat} (h:n%2=0):((n/2:Nat):Rat)/d=(n:Rat)/d/2:=by
  obtain ⟨k,rfl⟩:∃ k,n=2*k:=⟨n/2,by omega⟩
  rw [Nat.mul_div_cancel_left _ (by decide),Rat.natCast_mul]
  show (k:Rat)/d=2*(k:Rat)/d/2
  grind
theorem half_d {n:Rat} {d:Nat}:n/((d+d:Nat):Rat)=n/(d:Rat)/2:=by
  rw [Rat.natCast_add]
  by_cases h:(d:Rat)=0
  · rw [h,Rat.add_zero]
    simp [Rat.div_def]
  grind
end Go.Proofs.YtbfpmofhopglfaaDoor.G
end
section
namespace Go.Proofs.YtbfpmofhopglfaaDoor.G
open Go.Proofs.YtbfpmofhopglfaaDoor.U Go.RowKit
theorem vI_of {i j:Int} (h:i=j):V.c (.int .i64 i)=V.c (.int .i64 j):=by rw [h]
theorem vU_of {i j:Int} (h:i=j):V.c (.int .u64 i)=V.c (.int .u64 j):=by rw [h]
theorem wi64 {k:Nat} (h:k < 9223372036854775808):IntKind.wrap .i64 (k:Int)=k:=by
  rw [IntKind.wrap_i64]
  omega
theorem be_rep0:∀ h:Nat,M.be (List.replicate h 0)=0
  | 0=>rfl
  | h+1=>by rw [List.replicate_succ,M.be_cons,be_rep0 h]; simp
theorem pw_str (n:Nat):M.B (2^n)=strOfNums (((2^(n%8):Nat):Int)::List.replicate (n/8) (0:Int)):=by
  have hl:(strOfNums (((2^(n%8):Nat):Int)::List.replicate (n/8) (0:Int))).data.toList=UInt8.ofNat (2^(n%8))::List.replicate (n/8) 0:=by
    unfold strOfNums
    rw [List.map_cons,List.map_replicate,Int.toNat_natCast]
    rfl
  have hc:(UInt8.ofNat (2^(n%8))).toNat=2^(n%8):=by
    rw [UInt8.toNat_ofNat']
    have:2^(n%8) < 2^8:=Nat.pow_lt_pow_right (by decide) (Nat.mod_lt _ (by decide))
    exact Nat.mod_eq_of_lt this
  have hv:M.V (strOfNums (((2^(n%8):Nat):Int)::List.replicate (n/8) (0:Int)))=2^n:=by
    unfold M.V
    rw [hl,M.be_cons,be_rep0,List.length_replicate,hc,Nat.add_zero]
    rw [show (256:Nat)^(n/8)=2^(8*(n/8)) by rw [Nat.pow_mul],← Nat.pow_add]
    congr 1
    omega
  rw [← hv]
  refine M.B_V ?_
  rw [hl]
  intro c h
  simp only [List.head?_cons,Option.some.injEq] at h
  subst h
  intro h0
  rw [h0] at hc
  have:=Nat.pow_pos (n:=n%8) (show 0 < 2 by decide)
  rw [← hc] at this
  exact absurd this (by decide)
theorem shl1 {r:Nat} (h:r < 8):V.c (.int .u8 (IntKind.wrap .u8 ((1:Int)*(2:Int)^min (Int.toNat (r:Int)) (IntKind.bits .u8)))) = .c (.int .u8 ((2^r:Nat):Int)):=by
  have:r=0∨r=1∨r=2∨r=3∨r=4∨r=5∨r=6∨r=7:=by omega
  rcases this with rfl | rfl | rfl | rfl | rfl | rfl | rfl | rfl<;>rfl
theorem nof1_k:CSpec Tryd.prog 169 #[.int .i64 1] (.string ⟨#[1]⟩):=by
  have:=of_c 1 (by decide)
  rwa [show M.B (Int.toNat 1)=⟨#[1]⟩ from B_one1] at this
theorem power0 {n:Nat} (hn:n≤1100)  : CSpec Tryd.prog 186 #[(.int .i64 ((n:Nat):Int))] (ag [[.bool false],[.string (M.B ((2:Nat)^n))],[.string ({ data:=#[(1:UInt8)] })]]):=by
  exact fn_ok Tryd.func186 (sc:=[(1,1,.is (.c (.int .i64 ((↑(n/(8:Nat)):Int))))),(1,2,.is (.c (.int .i64 ((↑(n/(8:Nat)+(1:Nat)):Int))))),(2,2,.is (.c (.int .i64 ((↑(n%(8:Nat)):Int))))),(2,3,.is (.c (.int .u8 ((↑((2:Nat)^(n%(8:Nat))):Int))))),(2,5,.fix (.tuple #[])),(3,1,.fix (.string (M.B ((2:Nat)^n)))),(3,2,.fix (.string ({ data:=#[(1:UInt8)] })))]) (sb:=[]) (by kernel_rfl) (hP (vI_of (show IntKind.wrap .i64 (Int.tdiv (n:Int) 8)=_ from wi64 (k:=n/8) (by omega))) (hP (vI_of (wi64 (k:=n/8+1) (by omega))) (hP (show (0:Int)≤(↑(n/(8:Nat)+(1:Nat)):Int)∧(↑(n/(8:Nat)+(1:Nat)):Int)≤(↑(n/(8:Nat)+(1:Nat)):Int)∧(1:Int)*(↑(n/(8:Nat)+(1:Nat)):Int)≤(281474976710656:Int)∧(↑(n/(8:Nat)+(1:Nat)):Int) < (9223372036854775808:Int) by omega) (hP (show V.c (Value.int .i64 (Int.tmod (↑n:Int) (8:Int))) = .c (.int .i64 ((↑(n%(8:Nat)):Int))) from (rfl)) (hP (show V.c (Value.int .u8 (IntKind.wrap .u8 ((1:Int)*(2:Int)^min (Int.toNat (↑(n%(8:Nat)):Int)) (IntKind.bits .u8)))) = .c (.int .u8 ((↑((2:Nat)^(n%(8:Nat))):Int))) from (shl1 (Nat.mod_lt _ (by decide)))) (hP (show (0:Int)≤(0:Int)∧(0:Int) < (↑(Int.toNat (↑(n/(8:Nat)+(1:Nat)):Int)):Int) by omega) (hP (show 0+[V.c (.int .u8 ((2^(n%8):Nat):Int))].length≤(List.replicate (n/8+1) (V.c (.int .u8 0))).length by simp) (hP (show ∃ xs:List Int,M.B (2^n)=strOfNums xs∧xs.length=n/8+1∧((V.c (.int .u8 ((2^(n%8):Nat):Int))::List.replicate (n/8) (V.c (.int .u8 0))).drop 0).take (n/8+1)=xs.map fun n=>.c (.int .u8 n) from ⟨_,pw_str n,by simp,by simp [List.take_of_length_le]⟩) (hC nof1_k hN)))))))))
theorem rv_nat (m:Nat):Rv (m:Rat)=rv false (M.B m) ⟨#[1]⟩:=by
  show rv (decide ((m:Rat).num < 0)) (M.B (m:Rat).num.natAbs) (M.B (m:Rat).den)=_
  rw [Rat.num_natCast,Rat.den_natCast,Int.natAbs_natCast,decide_eq_false (by omega),B_one1]
  rfl
theorem power_k {n:Nat} (hn:n≤1100):CSpec Tryd.prog 186 #[.int .i64 (n:Int)] (Rv ((2^n:Nat):Rat)):=by
  rw [rv_nat]
  exact power0 hn
theorem ofn_k {m:Nat} (h:m < 9223372036854775808):CSpec Tryd.prog 147 #[.int .i64 (m:Int)] (Rv (m:Rat)):=by
  have:=of_k (n:=(m:Int)) (by omega) (by omega)
  rwa [Rat.intCast_natCast] at this
theorem pwr_s {n:Nat} (h:n≤1100):Sz ((2^n:Nat):Rat) 140:=pow2_z (by omega)
theorem pwn_s {n:Nat}:((2^n:Nat):Rat)≠0:=by
  have:=Nat.pow_pos (n:=n) (show 0 < 2 by decide)
  intro h
  have h2:(2^n:Nat)=0:=by exact_mod_cast h
  omega
theorem u64and {x:Nat} (k:Nat) (hx:x < 18446744073709551616) (hk:k≤64):IntKind.wrap .u64 ((BitVec.toNat (BitVec.ofInt (IntKind.bits .u64) (x:Int) &&& BitVec.ofInt (IntKind.bits .u64) (((2^k - 1:Nat)):Int)):Nat):Int)=((x%2^k:Nat):Int):=by
  have hp:2^k≤2^64:=Nat.pow_le_pow_right (by decide) hk
  have e:BitVec.toNat (BitVec.ofInt (IntKind.bits .u64) (x:Int) &&& BitVec.ofInt (IntKind.bits .u64) (((2^k - 1:Nat)):Int))=x%2^k:=by
    rw [BitVec.toNat_and,BitVec.ofInt_natCast,BitVec.ofInt_natCast,BitVec.toNat_ofNat,BitVec.toNat_ofNat,Nat.mod_eq_of_lt (show x < 2^IntKind.bits .u64 from hx),Nat.mod_eq_of_lt (show 2^k - 1 < 2^IntKind.bits .u64 by show 2^k - 1 < 2^64; omega),Nat.and_two_pow_sub_one_eq_mod]
  rw [e,IntKind.wrap_u64]
  have:x%2^k < 18446744073709551616:=Nat.lt_of_le_of_lt (Nat.mod_le _ _) hx
  omega
theorem u64or {x:Nat} (k:Nat) (hx:x < 2^k) (hk:k < 64):IntKind.wrap .u64 ((BitVec.toNat (BitVec.ofInt (IntKind.bits .u64) (x:Int) ||| BitVec.ofInt (IntKind.bits .u64) ((2^k:Nat):Int)):Nat):Int)=((x+2^k:Nat):Int):=by
  have hp:2^k*2≤2^64:=by rw [← Nat.pow_succ]; exact Nat.pow_le_pow_right (by decide) hk
  have e:BitVec.toNat (BitVec.ofInt (IntKind.bits .u64) (x:Int) ||| BitVec.ofInt (IntKind.bits .u64) ((2^k:Nat):Int))=x+2^k:=by
    have h1:x < 2^IntKind.bits .u64:=by show x < 2^64; omega
    have h2:2^k < 2^IntKind.bits .u64:=by show 2^k < 2^64; omega
    rw [BitVec.toNat_or,BitVec.ofInt_natCast,BitVec.ofInt_natCast,BitVec.toNat_ofNat,BitVec.toNat_ofNat,Nat.mod_eq_of_lt h1,Nat.mod_eq_of_lt h2,Nat.or_comm]
    have:=Nat.two_pow_add_eq_or_of_lt hx 1
    rw [Nat.mul_one] at this
    omega
  rw [e,IntKind.wrap_u64]
  have hp':2^k*2≤18446744073709551616:=hp
  omega
theorem flm_t {b:Nat} (h:decide (((b/4503599627370496:Nat):Int)=0)=true):FlM b=b%4503599627370496:=by
  have:=of_decide_eq_true h
  unfold FlM
  rw [if_pos (by omega)]
theorem flm_f {b:Nat} (h:decide (((b/4503599627370496:Nat):Int)=0)=false):FlM b=b%4503599627370496+4503599627370496:=by
  have:=of_decide_eq_false h
  unfold FlM
  rw [if_neg (by omega)]
theorem fle_t {b:Nat} (h:decide (((b/4503599627370496:Nat):Int)=0)=true):FlE b=1:=by
  have:=of_decide_eq_true h
  unfold FlE
  rw [if_pos (by omega)]
theorem fle_f {b:Nat} (h:decide (((b/4503599627370496:Nat):Int)=0)=false):FlE b=b/4503599627370496:=by
  have:=of_decide_eq_false h
  unfold FlE
  rw [if_neg (by omega)]
theorem shr52 {b:Nat}:V.c (.int .u64 (Int.fdiv (b:Int) (2^min (Int.toNat 52) (IntKind.bits .u64)))) = .c (.int .u64 ((b/4503599627370496:Nat):Int)) :=
  vU_of (by show Int.fdiv (b:Int) 4503599627370496=_; rw [Int.fdiv_eq_ediv_of_nonneg _ (by decide)]; rfl)
theorem ncg {i j:Nat} (h:i=j):(i:Int)=(j:Int):=by rw [h]
theorem sub64 {a c:Nat} (h:c≤a) (ha:a < 9223372036854775808):IntKind.wrap .i64 ((a:Int) - (c:Int))=((a - c:Nat):Int):=by
  rw [show (a:Int) - (c:Int)=((a - c:Nat):Int) by omega,wi64 (by omega)]
theorem exact1 {b:Nat} (hb:b≤9218868437227405312) (hm:FlM b < 9007199254740992) (he:FlE b≤2047) (h0:decide ((↑(b/(4503599627370496:Nat)):Int)=(0:Int))=true) (h1:decide ((1075:Int)≤(↑(FlE b):Int))=false):CSpec Tryd.prog 133 #[(.int .u64 ((b:Nat):Int))] (Rv ((↑(FlM b):Rat)/(↑((2:Nat)^((1075:Nat) - FlE b)):Rat))):=by
  have s2:=(flm_s b)
  have s3:=(isR_s s2)
  have s4:=(pwr_s (n:=(1075:Nat) - FlE b) (by omega))
  have s5:=(isR_s s4)
  have s6:=(pwn_s (n:=(1075:Nat) - FlE b))
  exact fn_ok Tryd.func133 (sc:=[(1,1,.is (.c (.int .u64 ((↑(b/(4503599627370496:Nat)):Int))))),(1,2,.is (.c (.int .i64 ((↑(b/(4503599627370496:Nat)):Int))))),(1,4,.is (.c (.int .u64 ((↑(b%(4503599627370496:Nat)):Int))))),(2,1,.is (.c (.bool true))),(5,0,.is (.c (.int .u64 ((↑(FlM b):Int))))),(5,1,.is (.c (.int .i64 ((↑(FlM b):Int))))),(5,2,.fix (Rv ((↑(FlM b):Rat)))),(6,0,.is (.c (.int .i64 ((↑(FlE b):Int))))),(6,1,.is (.c (.bool false))),(8,1,.is (.c (.int .i64 ((↑(FlE b):Int))))),(8,2,.is (.c (.int .i64 ((↑((1075:Nat) - FlE b):Int))))),(8,3,.fix (Rv ((↑((2:Nat)^((1075:Nat) - FlE b)):Rat)))),(8,4,.fix (.tuple #[Rv ((↑(FlM b):Rat)/(↑((2:Nat)^((1075:Nat) - FlE b)):Rat)),.int .i64 (0:Int)]))]) (sb:=[]) (by kernel_rfl) (hP (shr52 (b:=b)) (hP (vI_of (wi64 (k:=b/4503599627370496) (by omega))) (hP (vU_of (u64and (x:=b) 52 (by omega) (by decide))) (hP (isB h0) (hP (vU_of (ncg (flm_t h0).symm)) (hP (vI_of (wi64 (k:=FlM b) (Nat.lt_trans hm (by decide)))) (hC (ofn_k (m:=FlM b) (by omega)) (hP (vI_of (ncg (fle_t h0).symm)) (hP (isB h1) (hP (vI_of (ncg (fle_t h0).symm)) (hP (vI_of (sub64 (a:=1075) (c:=FlE b) (by have:=of_decide_eq_false h1; omega) (by decide))) (hC (power_k (n:=(1075:Nat) - FlE b) (by omega)) (hC (div_k s3 s5 (by decide +kernel) s6) hN)))))))))))))
theorem exact2 {b:Nat} (hb:b≤9218868437227405312) (hm:FlM b < 9007199254740992) (he:FlE b≤2047) (h0:decide ((↑(b/(4503599627370496:Nat)):Int)=(0:Int))=false) (h1:decide ((1075:Int)≤(↑(FlE b):Int))=true):CSpec Tryd.prog 133 #[(.int .u64 ((b:Nat):Int))] (Rv ((↑(FlM b):Rat)*(↑((2:Nat)^(FlE b - (1075:Nat))):Rat))):=by
  have s2:=(flm_s b)
  have s3:=(isR_s s2)
  have s4:=(pwr_s (n:=FlE b - (1075:Nat)) (by omega))
  have s5:=(isR_s s4)
  exact fn_ok Tryd.func133 (sc:=[(1,1,.is (.c (.int .u64 ((↑(b/(4503599627370496:Nat)):Int))))),(1,2,.is (.c (.int .i64 ((↑(b/(4503599627370496:Nat)):Int))))),(1,4,.is (.c (.int .u64 ((↑(b%(4503599627370496:Nat)):Int))))),(2,1,.is (.c (.bool false))),(4,1,.is (.c (.int .u64 ((↑(b%(4503599627370496:Nat)+(4503599627370496:Nat)):Int))))),(5,0,.is (.c (.int .u64 ((↑(FlM b):Int))))),(5,1,.is (.c (.int .i64 ((↑(FlM b):Int))))),(5,2,.fix (Rv ((↑(FlM b):Rat)))),(6,0,.is (.c (.int .i64 ((↑(FlE b):Int))))),(6,1,.is (.c (.bool true))),(7,1,.is (.c (.int .i64 ((↑(FlE b):Int))))),(7,2,.is (.c (.int .i64 ((↑(FlE b - (1075:Nat)):Int))))),(7,3,.fix (Rv ((↑((2:Nat)^(FlE b - (1075:Nat))):Rat)))),(7,4,.fix (Rv ((↑(FlM b):Rat)*(↑((2:Nat)^(FlE b - (1075:Nat))):Rat))))]) (sb:=[]) (by kernel_rfl) (hP (shr52 (b:=b)) (hP (vI_of (wi64 (k:=b/4503599627370496) (by omega))) (hP (vU_of (u64and (x:=b) 52 (by omega) (by decide))) (hP (isB h0) (hP (vU_of (u64or (x:=b%4503599627370496) 52 (Nat.mod_lt _ (by decide)) (by decide))) (hP (vU_of (ncg (flm_f h0).symm)) (hP (vI_of (wi64 (k:=FlM b) (Nat.lt_trans hm (by decide)))) (hC (ofn_k (m:=FlM b) (by omega)) (hP (vI_of (ncg (fle_f h0).symm)) (hP (isB h1) (hP (vI_of (ncg (fle_f h0).symm)) (hP (vI_of (sub64 (a:=FlE b) (c:=1075) (by have:=of_decide_eq_true h1; omega) (by have:=FlE_le hb; omega))) (hC (power_k (n:=FlE b - (1075:Nat)) (by omega)) (hC (mul_k s3 s5 (by decide +kernel)) hN))))))))))))))
theorem exact3 {b:Nat} (hb:b≤9218868437227405312) (hm:FlM b < 9007199254740992) (he:FlE b≤2047) (h0:decide ((↑(b/(4503599627370496:Nat)):Int)=(0:Int))=false) (h1:decide ((1075:Int)≤(↑(FlE b):Int))=false):CSpec Tryd.prog 133 #[(.int .u64 ((b:Nat):Int))] (Rv ((↑(FlM b):Rat)/(↑((2:Nat)^((1075:Nat) - FlE b)):Rat))):=by
  have s2:=(flm_s b)
  have s3:=(isR_s s2)
  have s4:=(pwr_s (n:=(1075:Nat) - FlE b) (by omega))
  have s5:=(isR_s s4)
  have s6:=(pwn_s (n:=(1075:Nat) - FlE b))
  exact fn_ok Tryd.func133 (sc:=[(1,1,.is (.c (.int .u64 ((↑(b/(4503599627370496:Nat)):Int))))),(1,2,.is (.c (.int .i64 ((↑(b/(4503599627370496:Nat)):Int))))),(1,4,.is (.c (.int .u64 ((↑(b%(4503599627370496:Nat)):Int))))),(2,1,.is (.c (.bool false))),(4,1,.is (.c (.int .u64 ((↑(b%(4503599627370496:Nat)+(4503599627370496:Nat)):Int))))),(5,0,.is (.c (.int .u64 ((↑(FlM b):Int))))),(5,1,.is (.c (.int .i64 ((↑(FlM b):Int))))),(5,2,.fix (Rv ((↑(FlM b):Rat)))),(6,0,.is (.c (.int .i64 ((↑(FlE b):Int))))),(6,1,.is (.c (.bool false))),(8,1,.is (.c (.int .i64 ((↑(FlE b):Int))))),(8,2,.is (.c (.int .i64 ((↑((1075:Nat) - FlE b):Int))))),(8,3,.fix (Rv ((↑((2:Nat)^((1075:Nat) - FlE b)):Rat)))),(8,4,.fix (.tuple #[Rv ((↑(FlM b):Rat)/(↑((2:Nat)^((1075:Nat) - FlE b)):Rat)),.int .i64 (0:Int)]))]) (sb:=[]) (by kernel_rfl) (hP (shr52 (b:=b)) (hP (vI_of (wi64 (k:=b/4503599627370496) (by omega))) (hP (vU_of (u64and (x:=b) 52 (by omega) (by decide))) (hP (isB h0) (hP (vU_of (u64or (x:=b%4503599627370496) 52 (Nat.mod_lt _ (by decide)) (by decide))) (hP (vU_of (ncg (flm_f h0).symm)) (hP (vI_of (wi64 (k:=FlM b) (Nat.lt_trans hm (by decide)))) (hC (ofn_k (m:=FlM b) (by omega)) (hP (vI_of (ncg (fle_f h0).symm)) (hP (isB h1) (hP (vI_of (ncg (fle_f h0).symm)) (hP (vI_of (sub64 (a:=1075) (c:=FlE b) (by have:=of_decide_eq_false h1; omega) (by decide))) (hC (power_k (n:=(1075:Nat) - FlE b) (by omega)) (hC (div_k s3 s5 (by decide +kernel) s6) hN))))))))))))))
theorem exact_k {b:Nat} (hb:b≤9218868437227405312):CSpec Tryd.prog 133 #[.int .u64 (b:Int)] (Rv (Fl b)):=by
  have hm:=FlM_lt b
  have he:=FlE_le hb
  unfold Fl
  cases h1:decide ((1075:Int)≤((FlE b:Nat):Int)) with
  | true =>
    have h1':=of_decide_eq_true h1
    rw [if_pos (by omega)]
    cases h0:decide (((b/4503599627370496:Nat):Int)=0) with
    | true =>
      have:=fle_t h0
      omega
    | false=>exact exact2 hb hm he h0 h1
  | false =>
    have h1':=of_decide_eq_false h1
    rw [if_neg (by omega)]
    cases h0:decide (((b/4503599627370496:Nat):Int)=0) with
    | true=>exact exact1 hb hm he h0 h1
    | false=>exact exact3 hb hm he h0 h1
end Go.Proofs.YtbfpmofhopglfaaDoor.G
end
section
namespace Go.Proofs.YtbfpmofhopglfaaDoor.G
open Go.Proofs.YtbfpmofhopglfaaDoor.U Go.RowKit
section
open Go.Proofs.YtbfpmofhopglfaaDoor.R Go.Proofs.YtbfpmofhopglfaaDoor.H
theorem rbit0_k {k K:Nat} (h1:SzN k K) (hs:K≤2000000000):CSpec Tryd.prog 136 #[.string (M.B k),.int .i64 0] (.int .i64 ((k%2:Nat):Int)):=fun w _ =>
  (gantref1_bit.calls (M.B k) 0 _ w (SB.bit0_spec h1 hs)).mono fun e w' h=>⟨h.1,h.2.below⟩
theorem rhalf_k {k K:Nat} (h1:SzN k K) (hs:K≤2000000000):CSpec Tryd.prog 137 #[.string (M.B k)] (.string (M.B (k/2))):=fun w _=>by
  obtain ⟨i,hi⟩:=ev_some (SB.halvedB h1 hs)
  exact gantref1_halved.calls i _ _ w hi
end
def flS (r0 r1:Row) (s:Bool) (e k d L i:Nat):St:=⟨slots 78 0 [(2,.p 0 0),(3,.c (.bool s)),(4,.c (.int .i64 (e:Int))),(8,.c (.string (M.B k))),(9,.c (.string (M.B d))),(44,.c (.int .i64 (L:Int))),(45,.c (.int .i64 (i:Int)))],[some r0,some r1]⟩
def flU (r0 r1:Row) (s:Bool) (e k d:Nat):St:=⟨slots 78 0 [(2,.p 0 0),(3,.c (.bool s)),(4,.c (.int .i64 (e:Int))),(8,.c (.string (M.B k))),(9,.c (.string (M.B d)))],[some r0,some r1]⟩
def flT (r0 r1:Row) (s:Bool) (k d L i:Nat):St:=⟨slots 78 0 [(2,.p 0 0),(3,.c (.bool s)),(8,.c (.string (M.B k))),(9,.c (.string (M.B d))),(53,.c (.int .i64 (L:Int))),(54,.c (.int .i64 (i:Int)))],[some r0,some r1]⟩
def flV (r0 r1:Row) (s:Bool) (k d:Nat):St:=⟨slots 78 0 [(2,.p 0 0),(3,.c (.bool s)),(8,.c (.string (M.B k))),(9,.c (.string (M.B d)))],[some r0,some r1]⟩
theorem add64 {a c:Nat} (ha:a+c < 9223372036854775808):V.c (.int .i64 (IntKind.wrap .i64 ((a:Int)+(c:Int)))) = .c (.int .i64 ((a+c:Nat):Int)):=by
  rw [show (a:Int)+(c:Int)=((a+c:Nat):Int) by omega,wi64 ha]
theorem fl_a {r0 r1:Row} {s:Bool} {e k d L i K:Nat} (hf:Flat [some r0,some r1]) (hL:L≤3000) (hz:SzN k K) (hK:K≤300) (hl:decide ((i:Int) < (L:Int))=true)  : TSpec Tryd.prog (loopOf Tryd.f22 2) (flS r0 r1 s e k d L i) (.normal) (flS r0 r1 s e (k+k) d L (i+1)):=by
  exact tspec_dim (mask 78 0 [2,3,4,8,9,44,45]) 2 (sc:=[(13,0,.is (.c (.bool true))),(14,2,.fix (.string (M.B (k+k)))),(15,0,.is (.c (.int .i64 ((↑(i+(1:Nat)):Int)))))]) (sb:=[]) (by kernel_rfl) (hP (isB hl) (hC (rplus_k hz hz (by omega)) (hP (add64 (a:=i) (c:=1) (by have:=of_decide_eq_true hl; omega)) hN))) hf
theorem fl_b {r0 r1:Row} {s:Bool} {e k d L i K:Nat} (hf:Flat [some r0,some r1]) (hL:L≤3000) (hz:SzN k K) (hK:K≤300) (hl:decide ((i:Int) < (L:Int))=false) (hiL:i≤L)  : TSpec Tryd.prog (loopOf Tryd.f22 2) (flS r0 r1 s e k d L i) (.exit 2) (flU r0 r1 s e k d):=by
  exact tspec_dim (mask 78 0 [2,3,4,8,9]) 2 (sc:=[(13,0,.is (.c (.bool false)))]) (sb:=[]) (by kernel_rfl) (hP (isB hl) hN) hf
theorem fl_c {r0 r1:Row} {s:Bool} {e k d L i K:Nat} (hf:Flat [some r0,some r1]) (hL:L≤3000) (hz:SzN k K) (hK:K≤300) (hl:decide ((i:Int) < (L:Int))=true) (hd:SzN d K) (hb:decide (((k%2:Nat):Int)=1)=true)  : TSpec Tryd.prog (loopOf Tryd.f22 4) (flT r0 r1 s k d L i) (.normal) (flT r0 r1 s k (d+d) L (i+1)):=by
  exact tspec_dim (mask 78 0 [2,3,8,9,53,54]) 2 (sc:=[(17,0,.is (.c (.bool true))),(18,1,.fix (.int .i64 ((↑(k%(2:Nat)):Int)))),(18,2,.is (.c (.bool true))),(19,2,.fix (.string (M.B (d+d)))),(21,0,.is (.c (.int .i64 ((↑(i+(1:Nat)):Int)))))]) (sb:=[]) (by kernel_rfl) (hP (isB hl) (hC (rbit0_k hz (by omega)) (hP (isB hb) (hC (rplus_k hd hd (by omega)) (hP (add64 (a:=i) (c:=1) (by have:=of_decide_eq_true hl; omega)) hN))))) hf
theorem fl_d {r0 r1:Row} {s:Bool} {e k d L i K:Nat} (hf:Flat [some r0,some r1]) (hL:L≤3000) (hz:SzN k K) (hK:K≤300) (hl:decide ((i:Int) < (L:Int))=true) (hd:SzN d K) (hb:decide (((k%2:Nat):Int)=1)=false) (h0:((M.B k).toList==ByteArray.toList ⟨#[]⟩)=true)  : TSpec Tryd.prog (loopOf Tryd.f22 4) (flT r0 r1 s k d L i) (.normal) (flT r0 r1 s k (d+d) L (i+1)):=by
  exact tspec_dim (mask 78 0 [2,3,8,9,53,54]) 2 (sc:=[(17,0,.is (.c (.bool true))),(18,1,.fix (.int .i64 ((↑(k%(2:Nat)):Int)))),(18,2,.is (.c (.bool false))),(18,5,.is (.c (.bool true))),(19,2,.fix (.string (M.B (d+d)))),(21,0,.is (.c (.int .i64 ((↑(i+(1:Nat)):Int)))))]) (sb:=[]) (by kernel_rfl) (hP (isB hl) (hC (rbit0_k hz (by omega)) (hP (isB hb) (hP (isB h0) (hC (rplus_k hd hd (by omega)) (hP (add64 (a:=i) (c:=1) (by have:=of_decide_eq_true hl; omega)) hN)))))) hf
theorem fl_e {r0 r1:Row} {s:Bool} {e k d L i K:Nat} (hf:Flat [some r0,some r1]) (hL:L≤3000) (hz:SzN k K) (hK:K≤300) (hl:decide ((i:Int) < (L:Int))=true) (hb:decide (((k%2:Nat):Int)=1)=false) (h0:((M.B k).toList==ByteArray.toList ⟨#[]⟩)=false)  : TSpec Tryd.prog (loopOf Tryd.f22 4) (flT r0 r1 s k d L i) (.normal) (flT r0 r1 s (k/2) d L (i+1)):=by
  exact tspec_dim (mask 78 0 [2,3,8,9,53,54]) 2 (sc:=[(17,0,.is (.c (.bool true))),(18,1,.fix (.int .i64 ((↑(k%(2:Nat)):Int)))),(18,2,.is (.c (.bool false))),(18,5,.is (.c (.bool false))),(20,1,.fix (.string (M.B (k/(2:Nat))))),(21,0,.is (.c (.int .i64 ((↑(i+(1:Nat)):Int)))))]) (sb:=[]) (by kernel_rfl) (hP (isB hl) (hC (rbit0_k hz (by omega)) (hP (isB hb) (hP (isB h0) (hC (rhalf_k hz (by omega)) (hP (add64 (a:=i) (c:=1) (by have:=of_decide_eq_true hl; omega)) hN)))))) hf
theorem fl_f {r0 r1:Row} {s:Bool} {e k d L i K:Nat} (hf:Flat [some r0,some r1]) (hL:L≤3000) (hz:SzN k K) (hK:K≤300) (hl:decide ((i:Int) < (L:Int))=false) (hiL:i≤L)  : TSpec Tryd.prog (loopOf Tryd.f22 4) (flT r0 r1 s k d L i) (.exit 4) (flV r0 r1 s k d):=by
  exact tspec_dim (mask 78 0 [2,3,8,9]) 2 (sc:=[(17,0,.is (.c (.bool false)))]) (sb:=[]) (by kernel_rfl) (hP (isB hl) hN) hf
theorem fl_l2 {r0 r1:Row} (hf:Flat [some r0,some r1]) (s:Bool) (e d L:Nat) (hL:L≤3000):∀ n i k,i+n=L→SzN (k*2^n) 300→Rounds Tryd.prog (loopOf Tryd.f22 2) 2 (flS r0 r1 s e k d L i) .normal (flU r0 r1 s e (k*2^n) d)
  | 0,i,k,h,hz=>by
    rw [Nat.pow_zero,Nat.mul_one] at *
    exact .stop (fl_b hf hL hz (by decide) (decide_eq_false (by omega)) (by omega))
  | n+1,i,k,h,hz=>by
    have e1:k*2^(n+1)=(k+k)*2^n:=by rw [Nat.pow_succ]; grind
    have hk:SzN k 300:=Nat.lt_of_le_of_lt (Nat.le_mul_of_pos_right k (Nat.pow_pos (by decide))) hz
    rw [e1] at hz ⊢
    exact .step (fl_a hf hL hk (by decide) (decide_eq_true (by omega))) (fl_l2 hf s e d L hL n (i+1) (k+k) (by omega) hz)
theorem half_pw {q:Rat} {n:Nat}:q/2/((2^n:Nat):Rat)=q/((2^(n+1):Nat):Rat):=by
  have h:((2^n:Nat):Rat)≠0:=pwn_s
  rw [Nat.pow_succ,Rat.natCast_mul]
  show q/2/((2^n:Nat):Rat)=q/(((2^n:Nat):Rat)*2)
  generalize ((2^n:Nat):Rat)=p at *
  grind
theorem fl_l4 {r0 r1:Row} (hf:Flat [some r0,some r1]) (s:Bool) (L:Nat) (hL:L≤3000):∀ n i k d,i+n=L→SzN k 300→SzN (d*2^n) 300→d≠0 → ∃ k' d',Rounds Tryd.prog (loopOf Tryd.f22 4) 4 (flT r0 r1 s k d L i) .normal (flV r0 r1 s k' d')∧SzN k' 300∧SzN d' 300∧d' ≠ 0∧(k':Rat)/(d':Rat)=(k:Rat)/(d:Rat)/((2^n:Nat):Rat)∧(k' = 0↔k=0)
  | 0,i,k,d,h,hz,hd,h0=>by
    rw [Nat.pow_zero,Nat.mul_one] at *
    refine ⟨k,d,.stop (fl_f (e:=0) hf hL hz (by decide) (decide_eq_false (by omega)) (by omega)),hz,hd,h0,?_,Iff.rfl⟩
    show _=(k:Rat)/(d:Rat)/1
    grind
  | n+1,i,k,d,h,hz,hd,h0=>by
    have e1:d*2^(n+1)=(d+d)*2^n:=by rw [Nat.pow_succ]; grind
    have hd2:SzN d 300:=Nat.lt_of_le_of_lt (Nat.le_mul_of_pos_right d (Nat.pow_pos (by decide))) hd
    have hl:decide ((i:Int) < (L:Int))=true:=decide_eq_true (by omega)
    by_cases hb:k%2=1
    · rw [e1] at hd
      obtain ⟨k',d',hr,p1,p2,p3,p4,p5⟩:=fl_l4 hf s L hL n (i+1) k (d+d) (by omega) hz hd (by omega)
      refine ⟨k',d',.step (fl_c (e:=0) hf hL hz (by decide) hl hd2 (decide_eq_true (by omega))) hr,p1,p2,p3,?_,p5⟩
      rw [p4,half_d,half_pw]
    have hbb:decide (((k%2:Nat):Int)=1)=false:=decide_eq_false (by omega)
    by_cases hk:k=0
    · subst hk
      rw [e1] at hd
      obtain ⟨k',d',hr,p1,p2,p3,p4,p5⟩:=fl_l4 hf s L hL n (i+1) 0 (d+d) (by omega) hz hd (by omega)
      refine ⟨k',d',.step (fl_d (e:=0) hf hL hz (by decide) hl hd2 hbb (by rw [str_eq]; exact decide_eq_true (B_nil rfl))) hr,p1,p2,p3,?_,p5⟩
      rw [p4,half_d,half_pw]
    have hd3:SzN (d*2^n) 300:=by
      refine Nat.lt_of_le_of_lt (Nat.mul_le_mul_left d ?_) hd
      exact Nat.pow_le_pow_right (by decide) (by omega)
    obtain ⟨k',d',hr,p1,p2,p3,p4,p5⟩:=fl_l4 hf s L hL n (i+1) (k/2) d (by omega) (Nat.lt_of_le_of_lt (Nat.div_le_self _ _) hz) hd3 h0
    refine ⟨k',d',.step (fl_e (e:=0) hf hL hz (by decide) hl hbb (by rw [str_eq]; exact decide_eq_false (B_ne hk))) hr,p1,p2,p3,?_,by omega⟩
    rw [p4,half_n (by omega),half_pw]
def flR0:Row:=⟨true,[.c (.bool false),.c (.string ⟨#[]⟩),.c (.string ⟨#[]⟩)]⟩
def f8 (m:Nat):List Int:=[((m/72057594037927936%256:Nat):Int),((m/281474976710656%256:Nat):Int),((m/1099511627776%256:Nat):Int),((m/4294967296%256:Nat):Int),((m/16777216%256:Nat):Int),((m/65536%256:Nat):Int),((m/256%256:Nat):Int),((m/1%256:Nat):Int)]
def flR1 (m:Nat):Row:=⟨true,(f8 m).map fun n=>.c (.int .u8 n)⟩
theorem fl_flat (m:Nat):Flat [some flR0,some (flR1 m)]:=flatB_flat (by rfl)
theorem V_f8 {m:Nat} (h:m < 18446744073709551616):M.V (strOfNums (f8 m))=m:=by
  have hr:M.InR 256 (f8 m):=by
    intro x hx
    unfold f8 at hx
    simp only [List.mem_cons,List.not_mem_nil,or_false] at hx
    omega
  have:=M.V_strOfNums hr
  have e:M.bv (f8 m)=(m:Int):=by
    simp only [M.bv,f8,List.reverse_cons,List.reverse_nil,List.nil_append,List.cons_append,M.lv]
    omega
  rw [e] at this
  exact_mod_cast this
theorem bare8 {m:Nat} (h:m < 18446744073709551616):CSpec Tryd.prog 134 #[.string (strOfNums (f8 m))] (.string (M.B m)):=by
  have:=rbarer_k (a:=strOfNums (f8 m))
  rwa [V_f8 h] at this
theorem fdivn {x:Nat} (k:Nat) (hk:k≤64):Int.fdiv (x:Int) (2^min (Int.toNat (k:Int)) (IntKind.bits .u64))=((x/2^k:Nat):Int):=by
  rw [show min (Int.toNat (k:Int)) (IntKind.bits .u64)=k by simp [IntKind.bits]; omega,Int.fdiv_eq_ediv_of_nonneg _ (Int.le_of_lt (Int.pow_pos (by decide))),Int.natCast_ediv,Int.natCast_pow]
  rfl
theorem wu8 (x:Nat):IntKind.wrap .u8 (x:Int)=((x%256:Nat):Int):=by
  rw [IntKind.wrap_u8]
  rfl
theorem flm_p {b:Nat} (h:decide ((0:Int) < ((b/4503599627370496:Nat):Int))=true):FlM b=b%4503599627370496+4503599627370496:=by
  have:=of_decide_eq_true h
  unfold FlM
  rw [if_neg (by omega)]
theorem flm_n {b:Nat} (h:decide ((0:Int) < ((b/4503599627370496:Nat):Int))=false):FlM b=b%4503599627370496:=by
  have:=of_decide_eq_false h
  unfold FlM
  rw [if_pos (by omega)]
theorem fle_p {b:Nat} (h:decide ((0:Int) < ((b/4503599627370496:Nat):Int))=true):FlE b=b/4503599627370496:=by
  have:=of_decide_eq_true h
  unfold FlE
  rw [if_neg (by omega)]
theorem fle_n {b:Nat} (h:decide ((0:Int) < ((b/4503599627370496:Nat):Int))=false):FlE b=1:=by
  have:=of_decide_eq_false h
  unfold FlE
  rw [if_pos (by omega)]
theorem fq (x k:Nat) (hk:k≤64):V.c (.int .u64 (Int.fdiv (x:Int) (2^min (Int.toNat (k:Int)) (IntKind.bits .u64)))) = .c (.int .u64 ((x/2^k:Nat):Int)):=vU_of (fdivn k hk)
theorem w8 (x:Nat):V.c (.int .u8 (IntKind.wrap .u8 (x:Int))) = .c (.int .u8 ((x%256:Nat):Int)):=congrArg (fun x=>V.c (.int .u8 x)) (wu8 x)
theorem shr63 {b:Nat} (h:b < 9223372036854775808):V.c (.int .u64 (Int.fdiv (b:Int) (2^min (Int.toNat 63) (IntKind.bits .u64)))) = .c (.int .u64 0) :=
  vU_of (by
    have:=fdivn (x:=b) 63 (by decide)
    rw [show b/2^63=0 from Nat.div_eq_of_lt h] at this
    exact this)
theorem wu64 {x y:Nat} (h:x+y < 18446744073709551616):IntKind.wrap .u64 ((x:Int)+(y:Int))=((x+y:Nat):Int):=by
  rw [IntKind.wrap_u64]
  omega
theorem wi64i {x:Int} (h0:-9223372036854775808≤x) (h1:x < 9223372036854775808):IntKind.wrap .i64 x=x:=by
  rw [IntKind.wrap_i64]
  omega
theorem max0 (a c:Nat):(if ((a:Int) - (c:Int)) > 0 then ((a:Int) - (c:Int)) else (0:Int))=((a - c:Nat):Int):=by split<;>omega
theorem flt1 {b k1 k d:Nat} (hb:b≤9218868437227405312) (hm:FlM b < 9007199254740992) (he:FlE b≤2047) (hz:SzN k 300) (hd:SzN d 300) (hd0:d≠0) (l2:TSpec Tryd.prog (.block 2 (.loop (loopOf Tryd.f22 2))) (flS flR0 (flR1 (FlM b)) false (b/4503599627370496) (FlM b) 1 (FlE b - 1075) 0) .normal (flU flR0 (flR1 (FlM b)) false (b/4503599627370496) k1 1)) (l4:TSpec Tryd.prog (.block 4 (.loop (loopOf Tryd.f22 4))) (flT flR0 (flR1 (FlM b)) false k1 1 (1075 - FlE b) 0) .normal (flV flR0 (flR1 (FlM b)) false k d)) (h0:decide ((0:Int) < (↑(b/(4503599627370496:Nat)):Int))=true):CSpec Tryd.prog 22 #[(.int .u64 ((b:Nat):Int))] (Rv (mkRat (sgn false k) d)):=by
  exact fn_ok Tryd.func22 (sc:=[(1,1,.is (.c (.int .u64 (0:Int)))),(1,4,.is (.c (.int .u64 ((↑(b/(4503599627370496:Nat)):Int))))),(1,5,.is (.c (.int .u64 ((↑(b/(4503599627370496:Nat)):Int))))),(1,6,.is (.c (.int .i64 ((↑(b/(4503599627370496:Nat)):Int))))),(1,8,.is (.c (.int .u64 ((↑(b%(4503599627370496:Nat)):Int))))),(2,1,.is (.c (.bool true))),(3,1,.is (.c (.int .u64 ((↑(b%(4503599627370496:Nat)+(4503599627370496:Nat)):Int))))),(3,2,.is (.c (.int .u64 ((↑(FlM b):Int))))),(1009,6,.is (.c (.int .u64 ((↑(FlM b/(72057594037927936:Nat)):Int))))),(1009,7,.is (.c (.int .u8 ((↑(FlM b/(72057594037927936:Nat)%(256:Nat)):Int))))),(2009,6,.is (.c (.int .u64 ((↑(FlM b/(281474976710656:Nat)):Int))))),(2009,7,.is (.c (.int .u8 ((↑(FlM b/(281474976710656:Nat)%(256:Nat)):Int))))),(3009,6,.is (.c (.int .u64 ((↑(FlM b/(1099511627776:Nat)):Int))))),(3009,7,.is (.c (.int .u8 ((↑(FlM b/(1099511627776:Nat)%(256:Nat)):Int))))),(4009,6,.is (.c (.int .u64 ((↑(FlM b/(4294967296:Nat)):Int))))),(4009,7,.is (.c (.int .u8 ((↑(FlM b/(4294967296:Nat)%(256:Nat)):Int))))),(5009,6,.is (.c (.int .u64 ((↑(FlM b/(16777216:Nat)):Int))))),(5009,7,.is (.c (.int .u8 ((↑(FlM b/(16777216:Nat)%(256:Nat)):Int))))),(6009,6,.is (.c (.int .u64 ((↑(FlM b/(65536:Nat)):Int))))),(6009,7,.is (.c (.int .u8 ((↑(FlM b/(65536:Nat)%(256:Nat)):Int))))),(7009,6,.is (.c (.int .u64 ((↑(FlM b/(256:Nat)):Int))))),(7009,7,.is (.c (.int .u8 ((↑(FlM b/(256:Nat)%(256:Nat)):Int))))),(8009,6,.is (.c (.int .u64 ((↑(FlM b/(1:Nat)):Int))))),(8009,7,.is (.c (.int .u8 ((↑(FlM b/(1:Nat)%(256:Nat)):Int))))),(11,1,.fix (.string (strOfNums (f8 (FlM b))))),(11,2,.fix (.string (M.B (FlM b)))),(11,4,.is (.c (.string (M.B (1:Nat))))),(12,0,.is (.c (.int .i64 ((↑(FlE b):Int))))),(12,1,.is (.c (.int .i64 ((↑(FlE b):Int) - (1075:Int))))),(12,2,.is (.c (.int .i64 ((↑(FlE b - (1075:Nat)):Int))))),(2,99999,.mask (mask 78 0 [2,3,4,8,9,44,45])),(16,0,.is (.c (.int .i64 ((↑(FlE b):Int))))),(16,1,.is (.c (.int .i64 ((1075:Int) - (↑(FlE b):Int))))),(16,2,.is (.c (.int .i64 ((↑((1075:Nat) - FlE b):Int))))),(4,99999,.mask (mask 78 0 [2,3,8,9,53,54])),(22,8,.fix (Rv (mkRat (sgn false k) d)))]) (sb:=[(2,.normal,flU flR0 (flR1 (FlM b)) false (b/4503599627370496) k1 1),(4,.normal,flV flR0 (flR1 (FlM b)) false k d)]) (by kernel_rfl) (hP (shr63 (b:=b) (by omega)) (hP (shr52 (b:=b)) (hP (vU_of ((u64and (x:=b/4503599627370496) 11 (by omega) (by decide)).trans (ncg (Nat.mod_eq_of_lt (by omega))))) (hP (vI_of (wi64 (k:=b/4503599627370496) (by omega))) (hP (vU_of (u64and (x:=b) 52 (by omega) (by decide))) (hP (isB h0) (hP (vU_of (wu64 (x:=b%4503599627370496) (y:=4503599627370496) (by omega))) (hP (vU_of (ncg (flm_p h0).symm)) (hP (show (0:Int)≤(8:Int)∧(8:Int)≤(8:Int)∧(8:Int)≤(281474976710656:Int)∧(8:Int) < (9223372036854775808:Int) by decide) (hP (fq (FlM b) 56 (by decide)) (hP (w8 (FlM b/72057594037927936)) (hP (show (0:Int)≤(0:Int)∧(0:Int) < (8:Int) by decide) (hP (fq (FlM b) 48 (by decide)) (hP (w8 (FlM b/281474976710656)) (hP (show (0:Int)≤(1:Int)∧(1:Int) < (8:Int) by decide) (hP (fq (FlM b) 40 (by decide)) (hP (w8 (FlM b/1099511627776)) (hP (show (0:Int)≤(2:Int)∧(2:Int) < (8:Int) by decide) (hP (fq (FlM b) 32 (by decide)) (hP (w8 (FlM b/4294967296)) (hP (show (0:Int)≤(3:Int)∧(3:Int) < (8:Int) by decide) (hP (fq (FlM b) 24 (by decide)) (hP (w8 (FlM b/16777216)) (hP (show (0:Int)≤(4:Int)∧(4:Int) < (8:Int) by decide) (hP (fq (FlM b) 16 (by decide)) (hP (w8 (FlM b/65536)) (hP (show (0:Int)≤(5:Int)∧(5:Int) < (8:Int) by decide) (hP (fq (FlM b) 8 (by decide)) (hP (w8 (FlM b/256)) (hP (show (0:Int)≤(6:Int)∧(6:Int) < (8:Int) by decide) (hP (fq (FlM b) 0 (by decide)) (hP (w8 (FlM b/1)) (hP (show (0:Int)≤(7:Int)∧(7:Int) < (8:Int) by decide) (hP (show ∃ xs:List Int,strOfNums (f8 (FlM b))=strOfNums xs∧xs.length=8∧(((f8 (FlM b)).map fun n=>V.c (.int .u8 n)).drop 0).take 8=xs.map fun n=>V.c (.int .u8 n) from ⟨_,rfl,rfl,rfl⟩) (hC (bare8 (m:=FlM b) (by omega)) (hP (congrArg (fun x=>V.c (.string x)) B_one1.symm) (hP (vI_of (ncg (fle_p h0).symm)) (hP (vI_of (wi64i (x:=(FlE b:Int) - 1075) (by omega) (by omega))) (hP (vI_of (max0 (FlE b) 1075)) (hP (flatB_flat (m:=[some ⟨Bool.true,nv [[.bool false],[.string ({ data:=#[] })],[.string ({ data:=#[] })]]⟩,some ⟨Bool.true,nv [[.int .u8 ((↑(FlM b/(72057594037927936:Nat)%(256:Nat)):Int))],[.int .u8 ((↑(FlM b/(281474976710656:Nat)%(256:Nat)):Int))],[.int .u8 ((↑(FlM b/(1099511627776:Nat)%(256:Nat)):Int))],[.int .u8 ((↑(FlM b/(4294967296:Nat)%(256:Nat)):Int))],[.int .u8 ((↑(FlM b/(16777216:Nat)%(256:Nat)):Int))],[.int .u8 ((↑(FlM b/(65536:Nat)%(256:Nat)):Int))],[.int .u8 ((↑(FlM b/(256:Nat)%(256:Nat)):Int))],[.int .u8 ((↑(FlM b/(1:Nat)%(256:Nat)):Int))]]⟩]) rfl) (hP (l2) (hP (vI_of (ncg (fle_p h0).symm)) (hP (vI_of (wi64i (x:=1075 - (FlE b:Int)) (by omega) (by omega))) (hP (vI_of (max0 1075 (FlE b))) (hP (flatB_flat (m:=[some ⟨Bool.true,nv [[.bool false],[.string ({ data:=#[] })],[.string ({ data:=#[] })]]⟩,some ⟨Bool.true,nv [[.int .u8 ((↑(FlM b/(72057594037927936:Nat)%(256:Nat)):Int))],[.int .u8 ((↑(FlM b/(281474976710656:Nat)%(256:Nat)):Int))],[.int .u8 ((↑(FlM b/(1099511627776:Nat)%(256:Nat)):Int))],[.int .u8 ((↑(FlM b/(4294967296:Nat)%(256:Nat)):Int))],[.int .u8 ((↑(FlM b/(16777216:Nat)%(256:Nat)):Int))],[.int .u8 ((↑(FlM b/(65536:Nat)%(256:Nat)):Int))],[.int .u8 ((↑(FlM b/(256:Nat)%(256:Nat)):Int))],[.int .u8 ((↑(FlM b/(1:Nat)%(256:Nat)):Int))]]⟩]) rfl) (hP (l4) (hC (rat_k (s:=false) hz hd (by decide +kernel) hd0) hN)))))))))))))))))))))))))))))))))))))))))))))))
theorem flt2 {b k1 k d:Nat} (hb:b≤9218868437227405312) (hm:FlM b < 9007199254740992) (he:FlE b≤2047) (hz:SzN k 300) (hd:SzN d 300) (hd0:d≠0) (l2:TSpec Tryd.prog (.block 2 (.loop (loopOf Tryd.f22 2))) (flS flR0 (flR1 (FlM b)) false (FlE b) (FlM b) 1 (FlE b - 1075) 0) .normal (flU flR0 (flR1 (FlM b)) false (FlE b) k1 1)) (l4:TSpec Tryd.prog (.block 4 (.loop (loopOf Tryd.f22 4))) (flT flR0 (flR1 (FlM b)) false k1 1 (1075 - FlE b) 0) .normal (flV flR0 (flR1 (FlM b)) false k d)) (h0:decide ((0:Int) < (↑(b/(4503599627370496:Nat)):Int))=false):CSpec Tryd.prog 22 #[(.int .u64 ((b:Nat):Int))] (Rv (mkRat (sgn false k) d)):=by
  exact fn_ok Tryd.func22 (sc:=[(1,1,.is (.c (.int .u64 (0:Int)))),(1,4,.is (.c (.int .u64 ((↑(b/(4503599627370496:Nat)):Int))))),(1,5,.is (.c (.int .u64 ((↑(b/(4503599627370496:Nat)):Int))))),(1,6,.is (.c (.int .i64 ((↑(b/(4503599627370496:Nat)):Int))))),(1,8,.is (.c (.int .u64 ((↑(b%(4503599627370496:Nat)):Int))))),(1,11,.is (.c (.int .u64 ((↑(FlM b):Int))))),(2,1,.is (.c (.bool false))),(4,0,.is (.c (.int .i64 ((↑(FlE b):Int))))),(1009,6,.is (.c (.int .u64 ((↑(FlM b/(72057594037927936:Nat)):Int))))),(1009,7,.is (.c (.int .u8 ((↑(FlM b/(72057594037927936:Nat)%(256:Nat)):Int))))),(2009,6,.is (.c (.int .u64 ((↑(FlM b/(281474976710656:Nat)):Int))))),(2009,7,.is (.c (.int .u8 ((↑(FlM b/(281474976710656:Nat)%(256:Nat)):Int))))),(3009,6,.is (.c (.int .u64 ((↑(FlM b/(1099511627776:Nat)):Int))))),(3009,7,.is (.c (.int .u8 ((↑(FlM b/(1099511627776:Nat)%(256:Nat)):Int))))),(4009,6,.is (.c (.int .u64 ((↑(FlM b/(4294967296:Nat)):Int))))),(4009,7,.is (.c (.int .u8 ((↑(FlM b/(4294967296:Nat)%(256:Nat)):Int))))),(5009,6,.is (.c (.int .u64 ((↑(FlM b/(16777216:Nat)):Int))))),(5009,7,.is (.c (.int .u8 ((↑(FlM b/(16777216:Nat)%(256:Nat)):Int))))),(6009,6,.is (.c (.int .u64 ((↑(FlM b/(65536:Nat)):Int))))),(6009,7,.is (.c (.int .u8 ((↑(FlM b/(65536:Nat)%(256:Nat)):Int))))),(7009,6,.is (.c (.int .u64 ((↑(FlM b/(256:Nat)):Int))))),(7009,7,.is (.c (.int .u8 ((↑(FlM b/(256:Nat)%(256:Nat)):Int))))),(8009,6,.is (.c (.int .u64 ((↑(FlM b/(1:Nat)):Int))))),(8009,7,.is (.c (.int .u8 ((↑(FlM b/(1:Nat)%(256:Nat)):Int))))),(11,1,.fix (.string (strOfNums (f8 (FlM b))))),(11,2,.fix (.string (M.B (FlM b)))),(11,4,.is (.c (.string (M.B (1:Nat))))),(12,1,.is (.c (.int .i64 ((↑(FlE b):Int) - (1075:Int))))),(12,2,.is (.c (.int .i64 ((↑(FlE b - (1075:Nat)):Int))))),(2,99999,.mask (mask 78 0 [2,3,4,8,9,44,45])),(16,1,.is (.c (.int .i64 ((1075:Int) - (↑(FlE b):Int))))),(16,2,.is (.c (.int .i64 ((↑((1075:Nat) - FlE b):Int))))),(4,99999,.mask (mask 78 0 [2,3,8,9,53,54])),(22,8,.fix (Rv (mkRat (sgn false k) d)))]) (sb:=[(2,.normal,flU flR0 (flR1 (FlM b)) false (FlE b) k1 1),(4,.normal,flV flR0 (flR1 (FlM b)) false k d)]) (by kernel_rfl) (hP (shr63 (b:=b) (by omega)) (hP (shr52 (b:=b)) (hP (vU_of ((u64and (x:=b/4503599627370496) 11 (by omega) (by decide)).trans (ncg (Nat.mod_eq_of_lt (by omega))))) (hP (vI_of (wi64 (k:=b/4503599627370496) (by omega))) (hP (vU_of (u64and (x:=b) 52 (by omega) (by decide))) (hP (vU_of (ncg (flm_n h0).symm)) (hP (isB h0) (hP (vI_of (ncg (fle_n h0).symm)) (hP (show (0:Int)≤(8:Int)∧(8:Int)≤(8:Int)∧(8:Int)≤(281474976710656:Int)∧(8:Int) < (9223372036854775808:Int) by decide) (hP (fq (FlM b) 56 (by decide)) (hP (w8 (FlM b/72057594037927936)) (hP (show (0:Int)≤(0:Int)∧(0:Int) < (8:Int) by decide) (hP (fq (FlM b) 48 (by decide)) (hP (w8 (FlM b/281474976710656)) (hP (show (0:Int)≤(1:Int)∧(1:Int) < (8:Int) by decide) (hP (fq (FlM b) 40 (by decide)) (hP (w8 (FlM b/1099511627776)) (hP (show (0:Int)≤(2:Int)∧(2:Int) < (8:Int) by decide) (hP (fq (FlM b) 32 (by decide)) (hP (w8 (FlM b/4294967296)) (hP (show (0:Int)≤(3:Int)∧(3:Int) < (8:Int) by decide) (hP (fq (FlM b) 24 (by decide)) (hP (w8 (FlM b/16777216)) (hP (show (0:Int)≤(4:Int)∧(4:Int) < (8:Int) by decide) (hP (fq (FlM b) 16 (by decide)) (hP (w8 (FlM b/65536)) (hP (show (0:Int)≤(5:Int)∧(5:Int) < (8:Int) by decide) (hP (fq (FlM b) 8 (by decide)) (hP (w8 (FlM b/256)) (hP (show (0:Int)≤(6:Int)∧(6:Int) < (8:Int) by decide) (hP (fq (FlM b) 0 (by decide)) (hP (w8 (FlM b/1)) (hP (show (0:Int)≤(7:Int)∧(7:Int) < (8:Int) by decide) (hP (show ∃ xs:List Int,strOfNums (f8 (FlM b))=strOfNums xs∧xs.length=8∧(((f8 (FlM b)).map fun n=>V.c (.int .u8 n)).drop 0).take 8=xs.map fun n=>V.c (.int .u8 n) from ⟨_,rfl,rfl,rfl⟩) (hC (bare8 (m:=FlM b) (by omega)) (hP (congrArg (fun x=>V.c (.string x)) B_one1.symm) (hP (vI_of (wi64i (x:=(FlE b:Int) - 1075) (by omega) (by omega))) (hP (vI_of (max0 (FlE b) 1075)) (hP (flatB_flat (m:=[some ⟨Bool.true,nv [[.bool false],[.string ({ data:=#[] })],[.string ({ data:=#[] })]]⟩,some ⟨Bool.true,nv [[.int .u8 ((↑(FlM b/(72057594037927936:Nat)%(256:Nat)):Int))],[.int .u8 ((↑(FlM b/(281474976710656:Nat)%(256:Nat)):Int))],[.int .u8 ((↑(FlM b/(1099511627776:Nat)%(256:Nat)):Int))],[.int .u8 ((↑(FlM b/(4294967296:Nat)%(256:Nat)):Int))],[.int .u8 ((↑(FlM b/(16777216:Nat)%(256:Nat)):Int))],[.int .u8 ((↑(FlM b/(65536:Nat)%(256:Nat)):Int))],[.int .u8 ((↑(FlM b/(256:Nat)%(256:Nat)):Int))],[.int .u8 ((↑(FlM b/(1:Nat)%(256:Nat)):Int))]]⟩]) rfl) (hP (l2) (hP (vI_of (wi64i (x:=1075 - (FlE b:Int)) (by omega) (by omega))) (hP (vI_of (max0 1075 (FlE b))) (hP (flatB_flat (m:=[some ⟨Bool.true,nv [[.bool false],[.string ({ data:=#[] })],[.string ({ data:=#[] })]]⟩,some ⟨Bool.true,nv [[.int .u8 ((↑(FlM b/(72057594037927936:Nat)%(256:Nat)):Int))],[.int .u8 ((↑(FlM b/(281474976710656:Nat)%(256:Nat)):Int))],[.int .u8 ((↑(FlM b/(1099511627776:Nat)%(256:Nat)):Int))],[.int .u8 ((↑(FlM b/(4294967296:Nat)%(256:Nat)):Int))],[.int .u8 ((↑(FlM b/(16777216:Nat)%(256:Nat)):Int))],[.int .u8 ((↑(FlM b/(65536:Nat)%(256:Nat)):Int))],[.int .u8 ((↑(FlM b/(256:Nat)%(256:Nat)):Int))],[.int .u8 ((↑(FlM b/(1:Nat)%(256:Nat)):Int))]]⟩]) rfl) (hP (l4) (hC (rat_k (s:=false) hz hd (by decide +kernel) hd0) hN)))))))))))))))))))))))))))))))))))))))))))))
theorem fl_fin {b k d:Nat} (h:(k:Rat)/(d:Rat)=((FlM b*2^(FlE b - 1075):Nat):Rat)/((1:Nat):Rat)/((2^(1075 - FlE b):Nat):Rat)):(k:Rat)/(d:Rat)=Fl b:=by
  rw [h]
  unfold Fl
  have e1:((1:Nat):Rat)=1:=rfl
  rw [e1,Rat.natCast_mul]
  split
  · rename_i g
    rw [show 1075 - FlE b=0 by omega]
    have e2:((2^0:Nat):Rat)=1:=rfl
    rw [e2]
    grind
  rename_i g
  rw [show FlE b - 1075=0 by omega]
  have e2:((2^0:Nat):Rat)=1:=rfl
  rw [e2]
  grind
theorem pw_lt {m a b d:Nat} (hm:m < 2^a) (h:a+b≤8*d):m*2^b < 256^d:=by
  have e:256^d=2^(8*d):=by rw [Nat.pow_mul]
  rw [e]
  refine Nat.lt_of_lt_of_le (Nat.mul_lt_mul_of_pos_right hm (Nat.pow_pos (by decide))) ?_
  rw [← Nat.pow_add]
  exact Nat.pow_le_pow_right (by decide) h
theorem szn_of {m a b d:Nat} (hm:m < 2^a) (h:a+b≤8*d):SzN (m*2^b) d:=by
  unfold SzN
  exact pw_lt hm h
theorem fl_big {b:Nat} (hb:b≤9218868437227405312):SzN (FlM b*2^(FlE b - 1075)) 300 :=
  szn_of (a:=53) (FlM_lt b) (by have:=FlE_le hb; omega)
theorem flt_k {b:Nat} (hb:b≤9218868437227405312):CSpec Tryd.prog 22 #[.int .u64 (b:Int)] (Rv (Fl b)):=by
  have hm:=FlM_lt b
  have he:=FlE_le hb
  have hz:=fl_big hb
  have l2:=fun e=>(fl_l2 (fl_flat (FlM b)) false e 1 (FlE b - 1075) (by omega) (FlE b - 1075) 0 (FlM b) (by omega) hz).spec
  have hp:SzN (1*2^(1075 - FlE b)) 300:=szn_of (a:=1) (by decide) (by omega)
  obtain ⟨k,d,hr,z1,z2,d0,hq,_⟩:=fl_l4 (fl_flat (FlM b)) false (1075 - FlE b) (by omega) (1075 - FlE b) 0 _ 1 (by omega) hz hp (by decide)
  have l4:=hr.spec
  have e:mkRat (sgn false k) d=Fl b:=by
    rw [Rat.mkRat_eq_div]
    show ((k:Int):Rat)/(d:Rat)=Fl b
    rw [Rat.intCast_natCast]
    exact fl_fin hq
  rw [← e]
  cases h0:decide ((0:Int) < ((b/4503599627370496:Nat):Int)) with
  | true=>exact flt1 hb hm he z1 z2 d0 (l2 _) l4 h0
  | false=>exact flt2 hb hm he z1 z2 d0 (l2 _) l4 h0
end Go.Proofs.YtbfpmofhopglfaaDoor.G
end
section
namespace Go.Proofs.YtbfpmofhopglfaaDoor.G
open Go.Proofs.YtbfpmofhopglfaaDoor.U Go.RowKit
theorem fl_div (M E k:Nat):(if k≤E then (M:Rat)*((2^(E - k):Nat):Rat) else (M:Rat)/((2^(k - E):Nat):Rat))=((M*2^E:Nat):Rat)/((2^k:Nat):Rat):=by
  have hk:((2^k:Nat):Rat)≠0:=pwn_s
  have hE:((2^E:Nat):Rat)≠0:=pwn_s
  split
  · rename_i h
    have e:2^E=2^(E - k)*2^k:=by rw [← Nat.pow_add]; congr 1; omega
    rw [e,Rat.natCast_mul,Rat.natCast_mul]
    generalize ((2^(E - k):Nat):Rat)=p at *
    generalize ((2^k:Nat):Rat)=q at *
    grind
  rename_i h
  have e:2^k=2^(k - E)*2^E:=by rw [← Nat.pow_add]; congr 1; omega
  have hq:((2^(k - E):Nat):Rat)≠0:=pwn_s
  rw [e,Rat.natCast_mul,Rat.natCast_mul]
  generalize ((2^(k - E):Nat):Rat)=p at *
  generalize ((2^E:Nat):Rat)=q at *
  grind
theorem FlN_lt (b:Nat):FlM b*2^(FlE b) < FlM (b+1)*2^(FlE (b+1)):=by
  by_cases h:(b+1)%4503599627370496=0
  · have h1:(b+1)/4503599627370496=b/4503599627370496+1:=by omega
    have h2:b%4503599627370496=4503599627370495:=by omega
    have e1:FlE (b+1)=b/4503599627370496+1:=by unfold FlE; rw [if_neg (by omega),h1]
    have e2:FlM (b+1)=4503599627370496:=by unfold FlM; rw [if_neg (by omega),h]
    rw [e1,e2]
    by_cases g:b/4503599627370496=0
    · have e3:FlE b=1:=by unfold FlE; rw [if_pos g]
      have e4:FlM b=4503599627370495:=by unfold FlM; rw [if_pos g,h2]
      rw [e3,e4,g]
      decide
    have e3:FlE b=b/4503599627370496:=by unfold FlE; rw [if_neg g]
    have e4:FlM b=9007199254740991:=by unfold FlM; rw [if_neg g,h2]
    rw [e3,e4,Nat.pow_succ]
    have:=Nat.pow_pos (n:=b/4503599627370496) (show 0 < 2 by decide)
    generalize 2^(b/4503599627370496)=q at *
    omega
  have h1:(b+1)/4503599627370496=b/4503599627370496:=by omega
  have h2:(b+1)%4503599627370496=b%4503599627370496+1:=by omega
  have e1:FlE (b+1)=FlE b:=by unfold FlE; rw [h1]
  have e2:FlM (b+1)=FlM b+1:=by unfold FlM; rw [h1,h2]; split<;>omega
  rw [e1,e2]
  exact Nat.mul_lt_mul_of_pos_right (Nat.lt_succ_self _) (Nat.pow_pos (by decide))
theorem Fl_lt (b:Nat):Fl b < Fl (b+1):=by
  unfold Fl
  rw [fl_div,fl_div,Rat.div_def,Rat.div_def]
  have h:=FlN_lt b
  have hp:(0:Rat) < ((2^1075:Nat):Rat):=by
    have:=Nat.pow_pos (n:=1075) (show 0 < 2 by decide)
    exact Rat.natCast_pos.2 this
  exact Rat.mul_lt_mul_of_pos_right (Rat.natCast_lt_natCast.2 h) (Rat.inv_pos.2 hp)
theorem Fl_zero:Fl 0=0:=by
  unfold Fl
  rw [fl_div]
  have:FlM 0=0:=rfl
  rw [this,Nat.zero_mul]
  show (0:Rat)/_=0
  grind
theorem Fl_mono {a b:Nat} (h:a≤b):Fl a≤Fl b:=by
  obtain ⟨k,rfl⟩:=Nat.exists_eq_add_of_le h
  induction k with
  | zero=>exact Rat.le_refl
  | succ k ih=>exact Rat.le_trans (ih (Nat.le_add_right _ _)) (Rat.le_of_lt (Fl_lt (a+k)))
def hf2 (x y:Rat):Rat:=((1:Int):Rat)/((2:Int):Rat)*(x+y)
theorem mkhalf_k:CSpec Tryd.prog 132 #[.int .i64 1,.int .i64 2] (.tuple #[Rv (((1:Int):Rat)/((2:Int):Rat)),.int .i64 0]):=make_k (by decide) (by decide) (by decide) (by decide) (by decide)
theorem vT_of {a b:Bool} (h:a=b):V.c (.bool a)=V.c (.bool b):=by rw [h]
theorem fl0_s:Sz (Fl 0) 160:=fl_s (by decide)
theorem shr63b {b:Nat} (h:b < 9223372036854775808):V.c (.int .u64 (Int.fdiv ((b+9223372036854775808:Nat):Int) (2^min (Int.toNat 63) (IntKind.bits .u64)))) = .c (.int .u64 1) :=
  vU_of (by
    have:=fdivn (x:=b+9223372036854775808) 63 (by decide)
    rw [show (b+9223372036854775808)/2^63=1 by show (b+9223372036854775808)/9223372036854775808=1; omega] at this
    exact this)
theorem anotN {x:Nat} (hx:x < 18446744073709551616):IntKind.wrap .u64 ((BitVec.toNat (BitVec.ofInt (IntKind.bits .u64) (x:Int) &&& ~~~ BitVec.ofInt (IntKind.bits .u64) 9223372036854775808):Nat):Int)=((x%9223372036854775808:Nat):Int):=by
  have e2:BitVec.toNat (~~~ BitVec.ofInt (IntKind.bits .u64) 9223372036854775808)=2^63 - 1:=by decide
  have e:BitVec.toNat (BitVec.ofInt (IntKind.bits .u64) (x:Int) &&& ~~~ BitVec.ofInt (IntKind.bits .u64) 9223372036854775808)=x%2^63:=by
    rw [BitVec.toNat_and,e2,BitVec.ofInt_natCast,BitVec.toNat_ofNat,Nat.mod_eq_of_lt (show x < 2^IntKind.bits .u64 from hx),Nat.and_two_pow_sub_one_eq_mod]
  rw [e,IntKind.wrap_u64]
  omega
theorem anot63 {m:Nat} (h:m < 9223372036854775808):IntKind.wrap .u64 ((BitVec.toNat (BitVec.ofInt (IntKind.bits .u64) (m:Int) &&& ~~~ BitVec.ofInt (IntKind.bits .u64) 9223372036854775808):Nat):Int)=(m:Int):=by
  rw [anotN (by omega),Nat.mod_eq_of_lt h]
theorem anot63b {m:Nat} (h:m < 9223372036854775808):IntKind.wrap .u64 ((BitVec.toNat (BitVec.ofInt (IntKind.bits .u64) ((m+9223372036854775808:Nat):Int) &&& ~~~ BitVec.ofInt (IntKind.bits .u64) 9223372036854775808):Nat):Int)=(m:Int):=by
  rw [anotN (by omega),show (m+9223372036854775808)%9223372036854775808=m by omega]
theorem su64 {a:Nat} (h:0 < a) (ha:a < 18446744073709551616):IntKind.wrap .u64 ((a:Int) - 1)=((a - 1:Nat):Int):=by
  rw [IntKind.wrap_u64]
  omega
theorem le_hf {m:Nat}:hf2 (Fl m) (Fl (m - 1))≤hf2 (Fl m) (Fl (m+1)):=by
  have h:=Fl_mono (a:=m - 1) (b:=m+1) (by omega)
  unfold hf2
  have e:((1:Int):Rat)/((2:Int):Rat)=(1:Rat)/2:=rfl
  rw [e]
  grind
theorem fromi0_k {m:Nat} (hm:m < 9223372036854775808) (hg:decide ((9218868437227405312:Int)≤(m:Int))=true)  : CSpec Tryd.prog 21 #[(.int .u64 ((m:Nat):Int))] (.tuple #[ag [[.bool false],[.string ({ data:=#[] })],[.string ({ data:=#[] })],[.bool false],[.string ({ data:=#[] })],[.string ({ data:=#[] })]],.int .i64 (3:Int)]):=by
  exact fn_ok Tryd.func21 (sc:=[(1,1,.is (.c (.int .u64 (0:Int)))),(1,4,.is (.c (.int .u64 (↑m:Int)))),(2,1,.is (.c (.bool true)))]) (sb:=[]) (by kernel_rfl) (hP (shr63 (b:=m) (by omega)) (hP (vU_of (anot63 (m:=m) (by omega))) (hP (isB hg) hN)))
theorem fromi1_k {m:Nat} (hm:m < 9223372036854775808) (hg:decide ((9218868437227405312:Int)≤(m:Int))=true)  : CSpec Tryd.prog 21 #[(.int .u64 ((m+9223372036854775808:Nat):Int))] (.tuple #[ag [[.bool false],[.string ({ data:=#[] })],[.string ({ data:=#[] })],[.bool false],[.string ({ data:=#[] })],[.string ({ data:=#[] })]],.int .i64 (3:Int)]):=by
  exact fn_ok Tryd.func21 (sc:=[(1,1,.is (.c (.int .u64 (1:Int)))),(1,4,.is (.c (.int .u64 (↑m:Int)))),(2,1,.is (.c (.bool true)))]) (sb:=[]) (by kernel_rfl) (hP (shr63b (b:=m) (by omega)) (hP (vU_of (anot63b (m:=m) (by omega))) (hP (isB hg) hN)))
theorem fromz0_k {m:Nat} (hm:m < 9223372036854775808) (hi:m < 9218868437227405312) (hg:decide ((9218868437227405312:Int)≤(m:Int))=false)(hz:decide ((0:Int) < (m:Int))=false) (h14:-((↑(1:Int):Rat)/(↑(2:Int):Rat)*(Fl m+Fl (m+(1:Nat))))≤(↑(1:Int):Rat)/(↑(2:Int):Rat)*(Fl m+Fl (m+(1:Nat)))):CSpec Tryd.prog 21 #[(.int .u64 ((m:Nat):Int))] (.tuple #[ag [rc (-((↑(1:Int):Rat)/(↑(2:Int):Rat)*(Fl m+Fl (m+(1:Nat))))),rc ((↑(1:Int):Rat)/(↑(2:Int):Rat)*(Fl m+Fl (m+(1:Nat))))],.int .i64 (0:Int)]):=by
  have s0:=(fl_s (b:=m) (by omega))
  have s1:=(isR_s s0)
  have s2:=(fl_s (b:=m+(1:Nat)) (by omega))
  have s3:=(isR_s s2)
  have s4:=(int_s (n:=(1:Int)) (by decide +kernel))
  have s5:=(int_s (n:=(2:Int)) (by decide +kernel))
  have s6:=(div_s s4 s5)
  have s7:=(isR_s s6)
  have s8:=(add_s s0 s2)
  have s9:=(isR_s s8)
  have s10:=(mul_s s6 s8)
  have s11:=(isR_s s10)
  have s12:=(neg_s s10)
  have s13:=(isR_s s12)
  exact fn_ok Tryd.func21 (sc:=[(1,1,.is (.c (.int .u64 (0:Int)))),(1,4,.is (.c (.int .u64 (↑m:Int)))),(2,1,.is (.c (.bool false))),(4,0,.fix (.tuple #[Rv ((↑(1:Int):Rat)/(↑(2:Int):Rat)),.int .i64 (0:Int)])),(5,1,.fix (Rv (Fl m))),(5,3,.is (.c (.int .u64 ((↑(m+(1:Nat)):Int))))),(5,4,.fix (Rv (Fl (m+(1:Nat))))),(6,3,.fix (Rv (Fl m+Fl (m+(1:Nat))))),(6,4,.fix (Rv ((↑(1:Int):Rat)/(↑(2:Int):Rat)*(Fl m+Fl (m+(1:Nat)))))),(7,1,.fix (Rv (-((↑(1:Int):Rat)/(↑(2:Int):Rat)*(Fl m+Fl (m+(1:Nat))))))),(8,1,.is (.c (.bool false))),(12,2,.fix (.tuple #[ag [rc (-((↑(1:Int):Rat)/(↑(2:Int):Rat)*(Fl m+Fl (m+(1:Nat))))),rc ((↑(1:Int):Rat)/(↑(2:Int):Rat)*(Fl m+Fl (m+(1:Nat))))],.int .i64 (0:Int)]))]) (sb:=[]) (by kernel_rfl) (hP (shr63 (b:=m) (by omega)) (hP (vU_of (anot63 (m:=m) (by omega))) (hP (isB hg) (hC (make_k (n:=(1:Int)) (m:=(2:Int)) (by decide +kernel) (by decide +kernel) (by decide +kernel) (by decide +kernel) (by decide +kernel)) (hC (exact_k (b:=m) (by omega)) (hP (vU_of (wu64 (x:=m) (y:=1) (by omega))) (hC (exact_k (b:=m+(1:Nat)) (by omega)) (hC (add_k s1 s3 (by decide +kernel)) (hC (mul_k s7 s9 (by decide +kernel)) (hC (neg_k s11 (by decide +kernel)) (hP (isB hz) (hC (smakea_k s13 (by decide +kernel) s11 (by decide +kernel) h14) hN))))))))))))
theorem fromz1_k {m:Nat} (hm:m < 9223372036854775808) (hi:m < 9218868437227405312) (hg:decide ((9218868437227405312:Int)≤(m:Int))=false)(hz:decide ((0:Int) < (m:Int))=false) (h16:-((↑(1:Int):Rat)/(↑(2:Int):Rat)*(Fl m+Fl (m+(1:Nat)))) ≤ - -((↑(1:Int):Rat)/(↑(2:Int):Rat)*(Fl m+Fl (m+(1:Nat))))):CSpec Tryd.prog 21 #[(.int .u64 ((m+9223372036854775808:Nat):Int))] (.tuple #[ag [rc (-((↑(1:Int):Rat)/(↑(2:Int):Rat)*(Fl m+Fl (m+(1:Nat))))),rc (- -((↑(1:Int):Rat)/(↑(2:Int):Rat)*(Fl m+Fl (m+(1:Nat)))))],.int .i64 (0:Int)]):=by
  have s0:=(fl_s (b:=m) (by omega))
  have s1:=(isR_s s0)
  have s2:=(fl_s (b:=m+(1:Nat)) (by omega))
  have s3:=(isR_s s2)
  have s4:=(int_s (n:=(1:Int)) (by decide +kernel))
  have s5:=(int_s (n:=(2:Int)) (by decide +kernel))
  have s6:=(div_s s4 s5)
  have s7:=(isR_s s6)
  have s8:=(add_s s0 s2)
  have s9:=(isR_s s8)
  have s10:=(mul_s s6 s8)
  have s11:=(isR_s s10)
  have s12:=(neg_s s10)
  have s13:=(isR_s s12)
  have s14:=(neg_s s12)
  have s15:=(isR_s s14)
  exact fn_ok Tryd.func21 (sc:=[(1,1,.is (.c (.int .u64 (1:Int)))),(1,4,.is (.c (.int .u64 (↑m:Int)))),(2,1,.is (.c (.bool false))),(4,0,.fix (.tuple #[Rv ((↑(1:Int):Rat)/(↑(2:Int):Rat)),.int .i64 (0:Int)])),(5,1,.fix (Rv (Fl m))),(5,3,.is (.c (.int .u64 ((↑(m+(1:Nat)):Int))))),(5,4,.fix (Rv (Fl (m+(1:Nat))))),(6,3,.fix (Rv (Fl m+Fl (m+(1:Nat))))),(6,4,.fix (Rv ((↑(1:Int):Rat)/(↑(2:Int):Rat)*(Fl m+Fl (m+(1:Nat)))))),(7,1,.fix (Rv (-((↑(1:Int):Rat)/(↑(2:Int):Rat)*(Fl m+Fl (m+(1:Nat))))))),(8,1,.is (.c (.bool false))),(11,1,.fix (Rv (-((↑(1:Int):Rat)/(↑(2:Int):Rat)*(Fl m+Fl (m+(1:Nat))))))),(11,3,.fix (Rv (- -((↑(1:Int):Rat)/(↑(2:Int):Rat)*(Fl m+Fl (m+(1:Nat))))))),(12,2,.fix (.tuple #[ag [rc (-((↑(1:Int):Rat)/(↑(2:Int):Rat)*(Fl m+Fl (m+(1:Nat))))),rc (- -((↑(1:Int):Rat)/(↑(2:Int):Rat)*(Fl m+Fl (m+(1:Nat)))))],.int .i64 (0:Int)]))]) (sb:=[]) (by kernel_rfl) (hP (shr63b (b:=m) (by omega)) (hP (vU_of (anot63b (m:=m) (by omega))) (hP (isB hg) (hC (make_k (n:=(1:Int)) (m:=(2:Int)) (by decide +kernel) (by decide +kernel) (by decide +kernel) (by decide +kernel) (by decide +kernel)) (hC (exact_k (b:=m) (by omega)) (hP (vU_of (wu64 (x:=m) (y:=1) (by omega))) (hC (exact_k (b:=m+(1:Nat)) (by omega)) (hC (add_k s1 s3 (by decide +kernel)) (hC (mul_k s7 s9 (by decide +kernel)) (hC (neg_k s11 (by decide +kernel)) (hP (isB hz) (hC (neg_k s11 (by decide +kernel)) (hC (neg_k s13 (by decide +kernel)) (hC (smakea_k s13 (by decide +kernel) s15 (by decide +kernel) h16) hN))))))))))))))
theorem fromp0_k {m:Nat} (hm:m < 9223372036854775808) (hi:m < 9218868437227405312) (hg:decide ((9218868437227405312:Int)≤(m:Int))=false)(hz:decide ((0:Int) < (m:Int))=true) (h18:(↑(1:Int):Rat)/(↑(2:Int):Rat)*(Fl m+Fl (m - (1:Nat)))≤(↑(1:Int):Rat)/(↑(2:Int):Rat)*(Fl m+Fl (m+(1:Nat)))):CSpec Tryd.prog 21 #[(.int .u64 ((m:Nat):Int))] (.tuple #[ag [rc ((↑(1:Int):Rat)/(↑(2:Int):Rat)*(Fl m+Fl (m - (1:Nat)))),rc ((↑(1:Int):Rat)/(↑(2:Int):Rat)*(Fl m+Fl (m+(1:Nat))))],.int .i64 (0:Int)]):=by
  have s0:=(fl_s (b:=m) (by omega))
  have s1:=(isR_s s0)
  have s2:=(fl_s (b:=m+(1:Nat)) (by omega))
  have s3:=(isR_s s2)
  have s4:=(int_s (n:=(1:Int)) (by decide +kernel))
  have s5:=(int_s (n:=(2:Int)) (by decide +kernel))
  have s6:=(div_s s4 s5)
  have s7:=(isR_s s6)
  have s8:=(add_s s0 s2)
  have s9:=(isR_s s8)
  have s10:=(mul_s s6 s8)
  have s11:=(isR_s s10)
  have s12:=(fl_s (b:=m - (1:Nat)) (by omega))
  have s13:=(isR_s s12)
  have s14:=(add_s s0 s12)
  have s15:=(isR_s s14)
  have s16:=(mul_s s6 s14)
  have s17:=(isR_s s16)
  exact fn_ok Tryd.func21 (sc:=[(1,1,.is (.c (.int .u64 (0:Int)))),(1,4,.is (.c (.int .u64 (↑m:Int)))),(2,1,.is (.c (.bool false))),(4,0,.fix (.tuple #[Rv ((↑(1:Int):Rat)/(↑(2:Int):Rat)),.int .i64 (0:Int)])),(5,1,.fix (Rv (Fl m))),(5,3,.is (.c (.int .u64 ((↑(m+(1:Nat)):Int))))),(5,4,.fix (Rv (Fl (m+(1:Nat))))),(6,3,.fix (Rv (Fl m+Fl (m+(1:Nat))))),(6,4,.fix (Rv ((↑(1:Int):Rat)/(↑(2:Int):Rat)*(Fl m+Fl (m+(1:Nat)))))),(7,1,.fix (Rv (-((↑(1:Int):Rat)/(↑(2:Int):Rat)*(Fl m+Fl (m+(1:Nat))))))),(8,1,.is (.c (.bool true))),(9,3,.is (.c (.int .u64 ((↑(m - (1:Nat)):Int))))),(9,4,.fix (Rv (Fl (m - (1:Nat))))),(9,5,.fix (Rv (Fl m+Fl (m - (1:Nat))))),(9,6,.fix (Rv ((↑(1:Int):Rat)/(↑(2:Int):Rat)*(Fl m+Fl (m - (1:Nat)))))),(12,2,.fix (.tuple #[ag [rc ((↑(1:Int):Rat)/(↑(2:Int):Rat)*(Fl m+Fl (m - (1:Nat)))),rc ((↑(1:Int):Rat)/(↑(2:Int):Rat)*(Fl m+Fl (m+(1:Nat))))],.int .i64 (0:Int)]))]) (sb:=[]) (by kernel_rfl) (hP (shr63 (b:=m) (by omega)) (hP (vU_of (anot63 (m:=m) (by omega))) (hP (isB hg) (hC (make_k (n:=(1:Int)) (m:=(2:Int)) (by decide +kernel) (by decide +kernel) (by decide +kernel) (by decide +kernel) (by decide +kernel)) (hC (exact_k (b:=m) (by omega)) (hP (vU_of (wu64 (x:=m) (y:=1) (by omega))) (hC (exact_k (b:=m+(1:Nat)) (by omega)) (hC (add_k s1 s3 (by decide +kernel)) (hC (mul_k s7 s9 (by decide +kernel)) (hC (neg_k s11 (by decide +kernel)) (hP (isB hz) (hP (vU_of (su64 (a:=m) (by have:=of_decide_eq_true hz; omega) (by omega))) (hC (exact_k (b:=m - (1:Nat)) (by omega)) (hC (add_k s1 s13 (by decide +kernel)) (hC (mul_k s7 s15 (by decide +kernel)) (hC (smakea_k s17 (by decide +kernel) s11 (by decide +kernel) h18) hN))))))))))))))))
theorem fromp1_k {m:Nat} (hm:m < 9223372036854775808) (hi:m < 9218868437227405312) (hg:decide ((9218868437227405312:Int)≤(m:Int))=false)(hz:decide ((0:Int) < (m:Int))=true) (h22:-((↑(1:Int):Rat)/(↑(2:Int):Rat)*(Fl m+Fl (m+(1:Nat)))) ≤ -((↑(1:Int):Rat)/(↑(2:Int):Rat)*(Fl m+Fl (m - (1:Nat))))):CSpec Tryd.prog 21 #[(.int .u64 ((m+9223372036854775808:Nat):Int))] (.tuple #[ag [rc (-((↑(1:Int):Rat)/(↑(2:Int):Rat)*(Fl m+Fl (m+(1:Nat))))),rc (-((↑(1:Int):Rat)/(↑(2:Int):Rat)*(Fl m+Fl (m - (1:Nat)))))],.int .i64 (0:Int)]):=by
  have s0:=(fl_s (b:=m) (by omega))
  have s1:=(isR_s s0)
  have s2:=(fl_s (b:=m+(1:Nat)) (by omega))
  have s3:=(isR_s s2)
  have s4:=(int_s (n:=(1:Int)) (by decide +kernel))
  have s5:=(int_s (n:=(2:Int)) (by decide +kernel))
  have s6:=(div_s s4 s5)
  have s7:=(isR_s s6)
  have s8:=(add_s s0 s2)
  have s9:=(isR_s s8)
  have s10:=(mul_s s6 s8)
  have s11:=(isR_s s10)
  have s12:=(fl_s (b:=m - (1:Nat)) (by omega))
  have s13:=(isR_s s12)
  have s14:=(add_s s0 s12)
  have s15:=(isR_s s14)
  have s16:=(mul_s s6 s14)
  have s17:=(isR_s s16)
  have s18:=(neg_s s10)
  have s19:=(isR_s s18)
  have s20:=(neg_s s16)
  have s21:=(isR_s s20)
  exact fn_ok Tryd.func21 (sc:=[(1,1,.is (.c (.int .u64 (1:Int)))),(1,4,.is (.c (.int .u64 (↑m:Int)))),(2,1,.is (.c (.bool false))),(4,0,.fix (.tuple #[Rv ((↑(1:Int):Rat)/(↑(2:Int):Rat)),.int .i64 (0:Int)])),(5,1,.fix (Rv (Fl m))),(5,3,.is (.c (.int .u64 ((↑(m+(1:Nat)):Int))))),(5,4,.fix (Rv (Fl (m+(1:Nat))))),(6,3,.fix (Rv (Fl m+Fl (m+(1:Nat))))),(6,4,.fix (Rv ((↑(1:Int):Rat)/(↑(2:Int):Rat)*(Fl m+Fl (m+(1:Nat)))))),(7,1,.fix (Rv (-((↑(1:Int):Rat)/(↑(2:Int):Rat)*(Fl m+Fl (m+(1:Nat))))))),(8,1,.is (.c (.bool true))),(9,3,.is (.c (.int .u64 ((↑(m - (1:Nat)):Int))))),(9,4,.fix (Rv (Fl (m - (1:Nat))))),(9,5,.fix (Rv (Fl m+Fl (m - (1:Nat))))),(9,6,.fix (Rv ((↑(1:Int):Rat)/(↑(2:Int):Rat)*(Fl m+Fl (m - (1:Nat)))))),(11,1,.fix (Rv (-((↑(1:Int):Rat)/(↑(2:Int):Rat)*(Fl m+Fl (m+(1:Nat))))))),(11,3,.fix (Rv (-((↑(1:Int):Rat)/(↑(2:Int):Rat)*(Fl m+Fl (m - (1:Nat))))))),(12,2,.fix (.tuple #[ag [rc (-((↑(1:Int):Rat)/(↑(2:Int):Rat)*(Fl m+Fl (m+(1:Nat))))),rc (-((↑(1:Int):Rat)/(↑(2:Int):Rat)*(Fl m+Fl (m - (1:Nat)))))],.int .i64 (0:Int)]))]) (sb:=[]) (by kernel_rfl) (hP (shr63b (b:=m) (by omega)) (hP (vU_of (anot63b (m:=m) (by omega))) (hP (isB hg) (hC (make_k (n:=(1:Int)) (m:=(2:Int)) (by decide +kernel) (by decide +kernel) (by decide +kernel) (by decide +kernel) (by decide +kernel)) (hC (exact_k (b:=m) (by omega)) (hP (vU_of (wu64 (x:=m) (y:=1) (by omega))) (hC (exact_k (b:=m+(1:Nat)) (by omega)) (hC (add_k s1 s3 (by decide +kernel)) (hC (mul_k s7 s9 (by decide +kernel)) (hC (neg_k s11 (by decide +kernel)) (hP (isB hz) (hP (vU_of (su64 (a:=m) (by have:=of_decide_eq_true hz; omega) (by omega))) (hC (exact_k (b:=m - (1:Nat)) (by omega)) (hC (add_k s1 s13 (by decide +kernel)) (hC (mul_k s7 s15 (by decide +kernel)) (hC (neg_k s11 (by decide +kernel)) (hC (neg_k s17 (by decide +kernel)) (hC (smakea_k s19 (by decide +kernel) s21 (by decide +kernel) h22) hN))))))))))))))))))
theorem fone_k:CSpec Tryd.prog 21 #[.int .u64 4607182418800017408] (.tuple #[ag [rc ((18014398509481983:Rat)/18014398509481984),rc ((9007199254740993:Rat)/9007199254740992)],.int .i64 0]):=by
  have h:=fromp0_k (m:=4607182418800017408) (by decide) (by decide) (by decide) (by decide) (by decide +kernel)
  rw [show ((1:Int):Rat)/((2:Int):Rat)*(Fl 4607182418800017408+Fl (4607182418800017408 - 1))=(18014398509481983:Rat)/18014398509481984 by decide +kernel,show ((1:Int):Rat)/((2:Int):Rat)*(Fl 4607182418800017408+Fl (4607182418800017408+1))=(9007199254740993:Rat)/9007199254740992 by decide +kernel] at h
  exact h
theorem cz0_s:Sz (18014398509481983:Rat) 8:=⟨by decide +kernel,by decide +kernel⟩
theorem cz1_s:Sz (18014398509481984:Rat) 8:=⟨by decide +kernel,by decide +kernel⟩
theorem cz2_s:Sz (9007199254740993:Rat) 8:=⟨by decide +kernel,by decide +kernel⟩
theorem cz3_s:Sz (9007199254740992:Rat) 8:=⟨by decide +kernel,by decide +kernel⟩
theorem shr52p {m:Nat}:V.c (.int .u64 (Int.fdiv ((m+9223372036854775808:Nat):Int) (2^min (Int.toNat 52) (IntKind.bits .u64)))) = .c (.int .u64 ((m/4503599627370496+2048:Nat):Int)) :=
  shr52.trans (vU_of (ncg (by omega)))
theorem borderBegun_k    : CSpec Tryd.prog 20 #[] (.bool true):=by
  have s0:=cz0_s
  have s1:=cz1_s
  have s2:=(div_s s0 s1)
  have s3:=cz2_s
  have s4:=cz3_s
  have s5:=(div_s s3 s4)
  have s6:=(isS_s s2 s5 (by decide +kernel) (by decide +kernel))
  have s7:=(int_s (n:=(1:Int)) (by decide +kernel))
  have s8:=(div_s s7 s7)
  have s9:=(isR_s s8)
  have s10:=(int_s (n:=(2:Int)) (by decide +kernel))
  have s11:=(div_s s10 s7)
  have s12:=(isR_s s11)
  exact fn_ok Tryd.func20 (sc:=[(1,0,.fix (.tuple #[ag [rc (18014398509481983/18014398509481984:Rat),rc (9007199254740993/9007199254740992:Rat)],.int .i64 (0:Int)])),(2,0,.fix (.bool true)),(2,7,.fix (Rv ((↑(1:Int):Rat)/(↑(1:Int):Rat)))),(2,8,.fix (.bool true)),(2,12,.fix (Rv ((↑(2:Int):Rat)/(↑(1:Int):Rat)))),(2,13,.fix (.bool false))]) (sb:=[]) (by kernel_rfl) (hC fone_k (hC spanBegun_k (hC (num_k (n:=(1:Int)) (m:=(1:Int)) (by decide +kernel) (by decide +kernel) (by decide +kernel) (by decide +kernel) (by decide +kernel)) (hC (shas_k s6 s2 s5 (by decide +kernel) (by decide +kernel) s9 (by decide +kernel)) (hC (num_k (n:=(2:Int)) (m:=(1:Int)) (by decide +kernel) (by decide +kernel) (by decide +kernel) (by decide +kernel) (by decide +kernel)) (hC (shas_k s6 s2 s5 (by decide +kernel) (by decide +kernel) s12 (by decide +kernel)) hN))))))
theorem bfi0 {m:Nat} (hm:m < 9223372036854775808) (hg:decide ((9218868437227405312:Int)≤(m:Int))=true) (hq:decide (((m/4503599627370496:Nat):Int)=2047)=true)  : CSpec Tryd.prog 3 #[(.int .u64 ((m:Nat):Int))] (.bool true):=by
  exact fn_ok Tryd.func3 (sc:=[(1,0,.fix (.bool true)),(3,1,.fix (.tuple #[ag [[.bool false],[.string ({ data:=#[] })],[.string ({ data:=#[] })],[.bool false],[.string ({ data:=#[] })],[.string ({ data:=#[] })]],.int .i64 (3:Int)])),(4,1,.is (.c (.int .u64 ((↑(m/(4503599627370496:Nat)):Int))))),(4,2,.is (.c (.int .u64 ((↑(m/(4503599627370496:Nat)):Int))))),(4,3,.is (.c (.bool true)))]) (sb:=[]) (by kernel_rfl) (hC borderBegun_k (hC (fromi0_k hm hg) (hP (shr52 (b:=m)) (hP (vU_of ((u64and (x:=m/4503599627370496) 11 (by omega) (by decide)).trans (ncg (j:=m/4503599627370496) (by show _%2048=_; omega)))) (hP (isB hq) hN)))))
theorem bfi1 {m:Nat} (hm:m < 9223372036854775808) (hg:decide ((9218868437227405312:Int)≤(m:Int))=true) (hq:decide (((m/4503599627370496:Nat):Int)=2047)=true)  : CSpec Tryd.prog 3 #[(.int .u64 ((m+9223372036854775808:Nat):Int))] (.bool true):=by
  exact fn_ok Tryd.func3 (sc:=[(1,0,.fix (.bool true)),(3,1,.fix (.tuple #[ag [[.bool false],[.string ({ data:=#[] })],[.string ({ data:=#[] })],[.bool false],[.string ({ data:=#[] })],[.string ({ data:=#[] })]],.int .i64 (3:Int)])),(4,1,.is (.c (.int .u64 ((↑(m/(4503599627370496:Nat)+(2048:Nat)):Int))))),(4,2,.is (.c (.int .u64 ((↑(m/(4503599627370496:Nat)):Int))))),(4,3,.is (.c (.bool true)))]) (sb:=[]) (by kernel_rfl) (hC borderBegun_k (hC (fromi1_k hm hg) (hP (shr52p (m:=m)) (hP (vU_of ((u64and (x:=m/4503599627370496+2048) 11 (by omega) (by decide)).trans (ncg (j:=m/4503599627370496) (by show _%2048=_; omega)))) (hP (isB hq) hN)))))
theorem bfz0 {m:Nat} (hm:m < 9223372036854775808) (hi:m < 9218868437227405312) (hg:decide ((9218868437227405312:Int)≤(m:Int))=false)(hz:decide ((0:Int) < (m:Int))=false) (hq:decide (((m/4503599627370496:Nat):Int)=2047)=false) (h0:-((↑(1:Int):Rat)/(↑(2:Int):Rat)*(Fl m+Fl (m+(1:Nat))))≤(↑(1:Int):Rat)/(↑(2:Int):Rat)*(Fl m+Fl (m+(1:Nat)))) (h15:-((↑(1:Int):Rat)/(↑(2:Int):Rat)*(Fl m+Fl (m+(1:Nat))))=((↑(1:Int):Rat)/(↑(2:Int):Rat)*(-Fl (m+(1:Nat))+Fl m):Rat)):CSpec Tryd.prog 3 #[(.int .u64 ((m:Nat):Int))] (.bool true):=by
  have s1:=(fl_s (b:=m+(1:Nat)) (by omega))
  have s2:=(isR_s s1)
  have s3:=(neg_s s1)
  have s4:=(isR_s s3)
  have s5:=(fl_s (b:=m) (by omega))
  have s6:=(isR_s s5)
  have s7:=(int_s (n:=(1:Int)) (by decide +kernel))
  have s8:=(int_s (n:=(2:Int)) (by decide +kernel))
  have s9:=(div_s s7 s8)
  have s10:=(isR_s s9)
  have s11:=(add_s s3 s5)
  have s12:=(isR_s s11)
  have s13:=(add_s s5 s1)
  have s14:=(isR_s s13)
  exact fn_ok Tryd.func3 (sc:=[(1,0,.fix (.bool true)),(3,1,.fix (.tuple #[ag [rc (-((↑(1:Int):Rat)/(↑(2:Int):Rat)*(Fl m+Fl (m+(1:Nat))))),rc ((↑(1:Int):Rat)/(↑(2:Int):Rat)*(Fl m+Fl (m+(1:Nat))))],.int .i64 (0:Int)])),(4,1,.is (.c (.int .u64 ((↑(m/(4503599627370496:Nat)):Int))))),(4,2,.is (.c (.int .u64 ((↑(m/(4503599627370496:Nat)):Int))))),(4,3,.is (.c (.bool false))),(6,1,.is (.c (.int .u64 (↑m:Int)))),(7,1,.fix (Rv (Fl m))),(7,3,.is (.c (.int .u64 ((↑(m+(1:Nat)):Int))))),(7,4,.fix (Rv (Fl (m+(1:Nat))))),(8,1,.fix (Rv (-Fl (m+(1:Nat))))),(9,1,.is (.c (.bool false))),(11,0,.fix (Rv ((↑(1:Int):Rat)/(↑(2:Int):Rat)))),(11,3,.fix (Rv (-Fl (m+(1:Nat))+Fl m))),(11,4,.fix (Rv ((↑(1:Int):Rat)/(↑(2:Int):Rat)*(-Fl (m+(1:Nat))+Fl m)))),(11,5,.fix (Rv ((↑(1:Int):Rat)/(↑(2:Int):Rat)))),(11,8,.fix (Rv (Fl m+Fl (m+(1:Nat))))),(11,9,.fix (Rv ((↑(1:Int):Rat)/(↑(2:Int):Rat)*(Fl m+Fl (m+(1:Nat)))))),(12,1,.is (.c (.int .u64 (0:Int)))),(14,7,.eqs)]) (sb:=[]) (by kernel_rfl) (hC borderBegun_k (hC (fromz0_k hm hi hg hz h0) (hP (shr52 (b:=m)) (hP (vU_of ((u64and (x:=m/4503599627370496) 11 (by omega) (by decide)).trans (ncg (j:=m/4503599627370496) (by show _%2048=_; omega)))) (hP (isB hq) (hP (vU_of (anot63 (m:=m) (by omega))) (hC (flt_k (b:=m) (by omega)) (hP (vU_of (wu64 (x:=m) (y:=1) (by omega))) (hC (flt_k (b:=m+(1:Nat)) (by omega)) (hC (neg_k s2 (by decide +kernel)) (hP (isB hz) (hC (num_k (n:=(1:Int)) (m:=(2:Int)) (by decide +kernel) (by decide +kernel) (by decide +kernel) (by decide +kernel) (by decide +kernel)) (hC (add_k s4 s6 (by decide +kernel)) (hC (mul_k s10 s12 (by decide +kernel)) (hC (num_k (n:=(1:Int)) (m:=(2:Int)) (by decide +kernel) (by decide +kernel) (by decide +kernel) (by decide +kernel) (by decide +kernel)) (hC (add_k s6 s2 (by decide +kernel)) (hC (mul_k s10 s14 (by decide +kernel)) (hP (shr63 (b:=m) (by omega)) (hP (agc (lc (rcc h15) (lc (Eq.refl (rc ((↑(1:Int):Rat)/(↑(2:Int):Rat)*(Fl m+Fl (m+(1:Nat)))))) (Eq.refl [])))) hN)))))))))))))))))))
theorem bfz1 {m:Nat} (hm:m < 9223372036854775808) (hi:m < 9218868437227405312) (hg:decide ((9218868437227405312:Int)≤(m:Int))=false)(hz:decide ((0:Int) < (m:Int))=false) (hq:decide (((m/4503599627370496:Nat):Int)=2047)=false) (h0:-((↑(1:Int):Rat)/(↑(2:Int):Rat)*(Fl m+Fl (m+(1:Nat)))) ≤ - -((↑(1:Int):Rat)/(↑(2:Int):Rat)*(Fl m+Fl (m+(1:Nat))))) (h19:- -((↑(1:Int):Rat)/(↑(2:Int):Rat)*(Fl m+Fl (m+(1:Nat))))=(-((↑(1:Int):Rat)/(↑(2:Int):Rat)*(-Fl (m+(1:Nat))+Fl m)):Rat)):CSpec Tryd.prog 3 #[(.int .u64 ((m+9223372036854775808:Nat):Int))] (.bool true):=by
  have s1:=(fl_s (b:=m+(1:Nat)) (by omega))
  have s2:=(isR_s s1)
  have s3:=(neg_s s1)
  have s4:=(isR_s s3)
  have s5:=(fl_s (b:=m) (by omega))
  have s6:=(isR_s s5)
  have s7:=(int_s (n:=(1:Int)) (by decide +kernel))
  have s8:=(int_s (n:=(2:Int)) (by decide +kernel))
  have s9:=(div_s s7 s8)
  have s10:=(isR_s s9)
  have s11:=(add_s s3 s5)
  have s12:=(isR_s s11)
  have s13:=(add_s s5 s1)
  have s14:=(isR_s s13)
  have s15:=(mul_s s9 s13)
  have s16:=(isR_s s15)
  have s17:=(mul_s s9 s11)
  have s18:=(isR_s s17)
  exact fn_ok Tryd.func3 (sc:=[(1,0,.fix (.bool true)),(3,1,.fix (.tuple #[ag [rc (-((↑(1:Int):Rat)/(↑(2:Int):Rat)*(Fl m+Fl (m+(1:Nat))))),rc (- -((↑(1:Int):Rat)/(↑(2:Int):Rat)*(Fl m+Fl (m+(1:Nat)))))],.int .i64 (0:Int)])),(4,1,.is (.c (.int .u64 ((↑(m/(4503599627370496:Nat)+(2048:Nat)):Int))))),(4,2,.is (.c (.int .u64 ((↑(m/(4503599627370496:Nat)):Int))))),(4,3,.is (.c (.bool false))),(6,1,.is (.c (.int .u64 (↑m:Int)))),(7,1,.fix (Rv (Fl m))),(7,3,.is (.c (.int .u64 ((↑(m+(1:Nat)):Int))))),(7,4,.fix (Rv (Fl (m+(1:Nat))))),(8,1,.fix (Rv (-Fl (m+(1:Nat))))),(9,1,.is (.c (.bool false))),(11,0,.fix (Rv ((↑(1:Int):Rat)/(↑(2:Int):Rat)))),(11,3,.fix (Rv (-Fl (m+(1:Nat))+Fl m))),(11,4,.fix (Rv ((↑(1:Int):Rat)/(↑(2:Int):Rat)*(-Fl (m+(1:Nat))+Fl m)))),(11,5,.fix (Rv ((↑(1:Int):Rat)/(↑(2:Int):Rat)))),(11,8,.fix (Rv (Fl m+Fl (m+(1:Nat))))),(11,9,.fix (Rv ((↑(1:Int):Rat)/(↑(2:Int):Rat)*(Fl m+Fl (m+(1:Nat)))))),(12,1,.is (.c (.int .u64 (1:Int)))),(13,1,.fix (Rv (-((↑(1:Int):Rat)/(↑(2:Int):Rat)*(Fl m+Fl (m+(1:Nat))))))),(13,3,.fix (Rv (-((↑(1:Int):Rat)/(↑(2:Int):Rat)*(-Fl (m+(1:Nat))+Fl m))))),(14,7,.eqs)]) (sb:=[]) (by kernel_rfl) (hC borderBegun_k (hC (fromz1_k hm hi hg hz h0) (hP (shr52p (m:=m)) (hP (vU_of ((u64and (x:=m/4503599627370496+2048) 11 (by omega) (by decide)).trans (ncg (j:=m/4503599627370496) (by show _%2048=_; omega)))) (hP (isB hq) (hP (vU_of (anot63b (m:=m) (by omega))) (hC (flt_k (b:=m) (by omega)) (hP (vU_of (wu64 (x:=m) (y:=1) (by omega))) (hC (flt_k (b:=m+(1:Nat)) (by omega)) (hC (neg_k s2 (by decide +kernel)) (hP (isB hz) (hC (num_k (n:=(1:Int)) (m:=(2:Int)) (by decide +kernel) (by decide +kernel) (by decide +kernel) (by decide +kernel) (by decide +kernel)) (hC (add_k s4 s6 (by decide +kernel)) (hC (mul_k s10 s12 (by decide +kernel)) (hC (num_k (n:=(1:Int)) (m:=(2:Int)) (by decide +kernel) (by decide +kernel) (by decide +kernel) (by decide +kernel) (by decide +kernel)) (hC (add_k s6 s2 (by decide +kernel)) (hC (mul_k s10 s14 (by decide +kernel)) (hP (shr63b (b:=m) (by omega)) (hC (neg_k s16 (by decide +kernel)) (hC (neg_k s18 (by decide +kernel)) (hP (agc (lc (Eq.refl (rc (-((↑(1:Int):Rat)/(↑(2:Int):Rat)*(Fl m+Fl (m+(1:Nat))))))) (lc (rcc h19) (Eq.refl [])))) hN)))))))))))))))))))))
theorem bfp0 {m:Nat} (hm:m < 9223372036854775808) (hi:m < 9218868437227405312) (hg:decide ((9218868437227405312:Int)≤(m:Int))=false)(hz:decide ((0:Int) < (m:Int))=true) (hq:decide (((m/4503599627370496:Nat):Int)=2047)=false) (h0:(↑(1:Int):Rat)/(↑(2:Int):Rat)*(Fl m+Fl (m - (1:Nat)))≤(↑(1:Int):Rat)/(↑(2:Int):Rat)*(Fl m+Fl (m+(1:Nat)))) (h15:(↑(1:Int):Rat)/(↑(2:Int):Rat)*(Fl m+Fl (m - (1:Nat)))=((↑(1:Int):Rat)/(↑(2:Int):Rat)*(Fl (m - (1:Nat))+Fl m):Rat)):CSpec Tryd.prog 3 #[(.int .u64 ((m:Nat):Int))] (.bool true):=by
  have s1:=(fl_s (b:=m+(1:Nat)) (by omega))
  have s2:=(isR_s s1)
  have s3:=(fl_s (b:=m - (1:Nat)) (by omega))
  have s4:=(isR_s s3)
  have s5:=(fl_s (b:=m) (by omega))
  have s6:=(isR_s s5)
  have s7:=(int_s (n:=(1:Int)) (by decide +kernel))
  have s8:=(int_s (n:=(2:Int)) (by decide +kernel))
  have s9:=(div_s s7 s8)
  have s10:=(isR_s s9)
  have s11:=(add_s s3 s5)
  have s12:=(isR_s s11)
  have s13:=(add_s s5 s1)
  have s14:=(isR_s s13)
  exact fn_ok Tryd.func3 (sc:=[(1,0,.fix (.bool true)),(3,1,.fix (.tuple #[ag [rc ((↑(1:Int):Rat)/(↑(2:Int):Rat)*(Fl m+Fl (m - (1:Nat)))),rc ((↑(1:Int):Rat)/(↑(2:Int):Rat)*(Fl m+Fl (m+(1:Nat))))],.int .i64 (0:Int)])),(4,1,.is (.c (.int .u64 ((↑(m/(4503599627370496:Nat)):Int))))),(4,2,.is (.c (.int .u64 ((↑(m/(4503599627370496:Nat)):Int))))),(4,3,.is (.c (.bool false))),(6,1,.is (.c (.int .u64 (↑m:Int)))),(7,1,.fix (Rv (Fl m))),(7,3,.is (.c (.int .u64 ((↑(m+(1:Nat)):Int))))),(7,4,.fix (Rv (Fl (m+(1:Nat))))),(8,1,.fix (Rv (-Fl (m+(1:Nat))))),(9,1,.is (.c (.bool true))),(10,1,.is (.c (.int .u64 ((↑(m - (1:Nat)):Int))))),(10,2,.fix (Rv (Fl (m - (1:Nat))))),(11,0,.fix (Rv ((↑(1:Int):Rat)/(↑(2:Int):Rat)))),(11,3,.fix (Rv (Fl (m - (1:Nat))+Fl m))),(11,4,.fix (Rv ((↑(1:Int):Rat)/(↑(2:Int):Rat)*(Fl (m - (1:Nat))+Fl m)))),(11,5,.fix (Rv ((↑(1:Int):Rat)/(↑(2:Int):Rat)))),(11,8,.fix (Rv (Fl m+Fl (m+(1:Nat))))),(11,9,.fix (Rv ((↑(1:Int):Rat)/(↑(2:Int):Rat)*(Fl m+Fl (m+(1:Nat)))))),(12,1,.is (.c (.int .u64 (0:Int)))),(14,7,.eqs)]) (sb:=[]) (by kernel_rfl) (hC borderBegun_k (hC (fromp0_k hm hi hg hz h0) (hP (shr52 (b:=m)) (hP (vU_of ((u64and (x:=m/4503599627370496) 11 (by omega) (by decide)).trans (ncg (j:=m/4503599627370496) (by show _%2048=_; omega)))) (hP (isB hq) (hP (vU_of (anot63 (m:=m) (by omega))) (hC (flt_k (b:=m) (by omega)) (hP (vU_of (wu64 (x:=m) (y:=1) (by omega))) (hC (flt_k (b:=m+(1:Nat)) (by omega)) (hC (neg_k s2 (by decide +kernel)) (hP (isB hz) (hP (vU_of (su64 (a:=m) (by have:=of_decide_eq_true hz; omega) (by omega))) (hC (flt_k (b:=m - (1:Nat)) (by omega)) (hC (num_k (n:=(1:Int)) (m:=(2:Int)) (by decide +kernel) (by decide +kernel) (by decide +kernel) (by decide +kernel) (by decide +kernel)) (hC (add_k s4 s6 (by decide +kernel)) (hC (mul_k s10 s12 (by decide +kernel)) (hC (num_k (n:=(1:Int)) (m:=(2:Int)) (by decide +kernel) (by decide +kernel) (by decide +kernel) (by decide +kernel) (by decide +kernel)) (hC (add_k s6 s2 (by decide +kernel)) (hC (mul_k s10 s14 (by decide +kernel)) (hP (shr63 (b:=m) (by omega)) (hP (agc (lc (rcc h15) (lc (Eq.refl (rc ((↑(1:Int):Rat)/(↑(2:Int):Rat)*(Fl m+Fl (m+(1:Nat)))))) (Eq.refl [])))) hN)))))))))))))))))))))
theorem bfp1 {m:Nat} (hm:m < 9223372036854775808) (hi:m < 9218868437227405312) (hg:decide ((9218868437227405312:Int)≤(m:Int))=false)(hz:decide ((0:Int) < (m:Int))=true) (hq:decide (((m/4503599627370496:Nat):Int)=2047)=false) (h0:-((↑(1:Int):Rat)/(↑(2:Int):Rat)*(Fl m+Fl (m+(1:Nat)))) ≤ -((↑(1:Int):Rat)/(↑(2:Int):Rat)*(Fl m+Fl (m - (1:Nat))))) (h19:-((↑(1:Int):Rat)/(↑(2:Int):Rat)*(Fl m+Fl (m - (1:Nat))))=(-((↑(1:Int):Rat)/(↑(2:Int):Rat)*(Fl (m - (1:Nat))+Fl m)):Rat)):CSpec Tryd.prog 3 #[(.int .u64 ((m+9223372036854775808:Nat):Int))] (.bool true):=by
  have s1:=(fl_s (b:=m+(1:Nat)) (by omega))
  have s2:=(isR_s s1)
  have s3:=(fl_s (b:=m - (1:Nat)) (by omega))
  have s4:=(isR_s s3)
  have s5:=(fl_s (b:=m) (by omega))
  have s6:=(isR_s s5)
  have s7:=(int_s (n:=(1:Int)) (by decide +kernel))
  have s8:=(int_s (n:=(2:Int)) (by decide +kernel))
  have s9:=(div_s s7 s8)
  have s10:=(isR_s s9)
  have s11:=(add_s s3 s5)
  have s12:=(isR_s s11)
  have s13:=(add_s s5 s1)
  have s14:=(isR_s s13)
  have s15:=(mul_s s9 s13)
  have s16:=(isR_s s15)
  have s17:=(mul_s s9 s11)
  have s18:=(isR_s s17)
  exact fn_ok Tryd.func3 (sc:=[(1,0,.fix (.bool true)),(3,1,.fix (.tuple #[ag [rc (-((↑(1:Int):Rat)/(↑(2:Int):Rat)*(Fl m+Fl (m+(1:Nat))))),rc (-((↑(1:Int):Rat)/(↑(2:Int):Rat)*(Fl m+Fl (m - (1:Nat)))))],.int .i64 (0:Int)])),(4,1,.is (.c (.int .u64 ((↑(m/(4503599627370496:Nat)+(2048:Nat)):Int))))),(4,2,.is (.c (.int .u64 ((↑(m/(4503599627370496:Nat)):Int))))),(4,3,.is (.c (.bool false))),(6,1,.is (.c (.int .u64 (↑m:Int)))),(7,1,.fix (Rv (Fl m))),(7,3,.is (.c (.int .u64 ((↑(m+(1:Nat)):Int))))),(7,4,.fix (Rv (Fl (m+(1:Nat))))),(8,1,.fix (Rv (-Fl (m+(1:Nat))))),(9,1,.is (.c (.bool true))),(10,1,.is (.c (.int .u64 ((↑(m - (1:Nat)):Int))))),(10,2,.fix (Rv (Fl (m - (1:Nat))))),(11,0,.fix (Rv ((↑(1:Int):Rat)/(↑(2:Int):Rat)))),(11,3,.fix (Rv (Fl (m - (1:Nat))+Fl m))),(11,4,.fix (Rv ((↑(1:Int):Rat)/(↑(2:Int):Rat)*(Fl (m - (1:Nat))+Fl m)))),(11,5,.fix (Rv ((↑(1:Int):Rat)/(↑(2:Int):Rat)))),(11,8,.fix (Rv (Fl m+Fl (m+(1:Nat))))),(11,9,.fix (Rv ((↑(1:Int):Rat)/(↑(2:Int):Rat)*(Fl m+Fl (m+(1:Nat)))))),(12,1,.is (.c (.int .u64 (1:Int)))),(13,1,.fix (Rv (-((↑(1:Int):Rat)/(↑(2:Int):Rat)*(Fl m+Fl (m+(1:Nat))))))),(13,3,.fix (Rv (-((↑(1:Int):Rat)/(↑(2:Int):Rat)*(Fl (m - (1:Nat))+Fl m))))),(14,7,.eqs)]) (sb:=[]) (by kernel_rfl) (hC borderBegun_k (hC (fromp1_k hm hi hg hz h0) (hP (shr52p (m:=m)) (hP (vU_of ((u64and (x:=m/4503599627370496+2048) 11 (by omega) (by decide)).trans (ncg (j:=m/4503599627370496) (by show _%2048=_; omega)))) (hP (isB hq) (hP (vU_of (anot63b (m:=m) (by omega))) (hC (flt_k (b:=m) (by omega)) (hP (vU_of (wu64 (x:=m) (y:=1) (by omega))) (hC (flt_k (b:=m+(1:Nat)) (by omega)) (hC (neg_k s2 (by decide +kernel)) (hP (isB hz) (hP (vU_of (su64 (a:=m) (by have:=of_decide_eq_true hz; omega) (by omega))) (hC (flt_k (b:=m - (1:Nat)) (by omega)) (hC (num_k (n:=(1:Int)) (m:=(2:Int)) (by decide +kernel) (by decide +kernel) (by decide +kernel) (by decide +kernel) (by decide +kernel)) (hC (add_k s4 s6 (by decide +kernel)) (hC (mul_k s10 s12 (by decide +kernel)) (hC (num_k (n:=(1:Int)) (m:=(2:Int)) (by decide +kernel) (by decide +kernel) (by decide +kernel) (by decide +kernel) (by decide +kernel)) (hC (add_k s6 s2 (by decide +kernel)) (hC (mul_k s10 s14 (by decide +kernel)) (hP (shr63b (b:=m) (by omega)) (hC (neg_k s16 (by decide +kernel)) (hC (neg_k s18 (by decide +kernel)) (hP (agc (lc (Eq.refl (rc (-((↑(1:Int):Rat)/(↑(2:Int):Rat)*(Fl m+Fl (m+(1:Nat))))))) (lc (rcc h19) (Eq.refl [])))) hN)))))))))))))))))))))))
theorem hf_a (x y:Rat) (hx:x=0):-(((1:Int):Rat)/((2:Int):Rat)*(x+y))=((1:Int):Rat)/((2:Int):Rat)*(-y+x):=by
  subst hx
  generalize ((1:Int):Rat)/((2:Int):Rat)=h
  grind
theorem hf_c (x y:Rat):((1:Int):Rat)/((2:Int):Rat)*(x+y)=((1:Int):Rat)/((2:Int):Rat)*(y+x):=by rw [Rat.add_comm]
theorem hf_0 (m:Nat):0≤((1:Int):Rat)/((2:Int):Rat)*(Fl m+Fl (m+1)):=by
  have h1:=Fl_mono (a:=0) (b:=m) (by omega)
  have h2:=Fl_mono (a:=0) (b:=m+1) (by omega)
  rw [Fl_zero] at h1 h2
  have e:((1:Int):Rat)/((2:Int):Rat)=(1:Rat)/2:=rfl
  rw [e]
  grind
theorem hf_m (m:Nat):((1:Int):Rat)/((2:Int):Rat)*(Fl m+Fl (m - 1))≤((1:Int):Rat)/((2:Int):Rat)*(Fl m+Fl (m+1)):=le_hf
theorem bf_m {m:Nat} (hm:m < 9223372036854775808):CSpec Tryd.prog 3 #[.int .u64 (m:Int)] (.bool true)∧CSpec Tryd.prog 3 #[.int .u64 ((m+9223372036854775808:Nat):Int)] (.bool true):=by
  by_cases hi:m < 9218868437227405312
  · have hg:decide ((9218868437227405312:Int)≤(m:Int))=false:=decide_eq_false (by omega)
    have hq:decide (((m/4503599627370496:Nat):Int)=2047)=false:=decide_eq_false (by omega)
    have p0:=hf_0 m
    by_cases h0:m=0
    · have hz:decide ((0:Int) < (m:Int))=false:=decide_eq_false (by omega)
      have e0:Fl m=0:=by rw [h0,Fl_zero]
      have ea:=hf_a (Fl m) (Fl (m+1)) e0
      exact ⟨bfz0 hm hi hg hz hq (by generalize ((1:Int):Rat)/((2:Int):Rat)*(Fl m+Fl (m+1))=q at *; grind) ea,bfz1 hm hi hg hz hq (by generalize ((1:Int):Rat)/((2:Int):Rat)*(Fl m+Fl (m+1))=q at *; grind) (by rw [ea])⟩
    have hz:decide ((0:Int) < (m:Int))=true:=decide_eq_true (by omega)
    have hl:=hf_m m
    exact ⟨bfp0 hm hi hg hz hq hl (hf_c _ _),bfp1 hm hi hg hz hq (Rat.neg_le_neg hl) (by rw [hf_c])⟩
  have hg:decide ((9218868437227405312:Int)≤(m:Int))=true:=decide_eq_true (by omega)
  have hq:decide (((m/4503599627370496:Nat):Int)=2047)=true:=decide_eq_true (by omega)
  exact ⟨bfi0 hm hg hq,bfi1 hm hg hq⟩
theorem borderFrom_law (n:Int) (hn:(0:Int)≤n∧n≤18446744073709551615):CSpec Tryd.prog 3 #[.int .u64 n] (.bool true):=by
  obtain ⟨b,rfl⟩:=Int.eq_ofNat_of_zero_le hn.1
  by_cases h:b < 9223372036854775808
  · exact (bf_m h).1
  have:=(bf_m (m:=b - 9223372036854775808) (by omega)).2
  rwa [show b - 9223372036854775808+9223372036854775808=b by omega] at this
end Go.Proofs.YtbfpmofhopglfaaDoor.G
end
