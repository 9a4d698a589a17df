import Derived.Test.YtbfpmofhopglfaaGreatDoorYKA
import Derived.Test.YtbfpmofhopglfaaGreatDoorYRC
import Derived.Test.YtbfpmofhopglfaaGreatDoorYPC
set_option maxRecDepth 100000
set_option linter.unusedVariables false
section
namespace Go.Proofs.YtbfpmofhopglfaaGreatDoor.G
open Go.Proofs.YtbfpmofhopglfaaGreatDoor.U Go.RowKit
def SzN (m K:Nat):Prop:=m < 256^K
end Go.Proofs.YtbfpmofhopglfaaGreatDoor.G
end
section
namespace Go.Proofs.YtbfpmofhopglfaaGreatDoor.G
open Go.Proofs.YtbfpmofhopglfaaGreatDoor.U Go.RowKit Go.Proofs.YtbfpmofhopglfaaGreatDoor.A Go.Proofs.YtbfpmofhopglfaaGreatDoor.B Go.Proofs.YtbfpmofhopglfaaGreatDoor.C Go.Proofs.YtbfpmofhopglfaaGreatDoor.R Go.Proofs.YtbfpmofhopglfaaGreatDoor.H
theorem rbarer_k {a:ByteArray}:CSpec Tryz.prog 48 #[.string a] (.string (M.B (M.V a))):=fun w _=>(gantref1_Bare.calls a _ w (SB.bare_spec a)).mono fun e w' h=>⟨h.1,h.2.below⟩
theorem rcommonr_k {a b:ByteArray} (ha:a.size≤2000000000) (hb:b.size≤2000000000):CSpec Tryz.prog 89 #[.string a,.string b] (.string (M.B (Nat.gcd (M.V a) (M.V b)))):=fun w _=>by
  obtain ⟨k,hk⟩:=ev_some (SB.common_spec a b (by omega) (by omega))
  exact gantref1_Common.calls k a b _ w hk
section
variable {k l K L:Nat}
theorem SzN.size (h:SzN k K):(M.B k).size≤K:=M.size_B_le h
theorem rbare_k:CSpec Tryz.prog 48 #[.string (M.B k)] (.string (M.B k)):=by
  have:=rbarer_k (a:=M.B k)
  rwa [M.V_B] at this
theorem rcommon_k (h1:SzN k K) (h2:SzN l L) (hs:K+L≤2000000000):CSpec Tryz.prog 89 #[.string (M.B k),.string (M.B l)] (.string (M.B (Nat.gcd k l))):=by
  have:=rcommonr_k (a:=M.B k) (b:=M.B l) (by have:=h1.size; omega) (by have:=h2.size; omega)
  rwa [M.V_B,M.V_B] at this
theorem rplus_k (h1:SzN k K) (h2:SzN l L) (hs:K+L≤17179869184):CSpec Tryz.prog 49 #[.string (M.B k),.string (M.B l)] (.string (M.B (k+l))):=fun w _=>by
  obtain ⟨i,hi⟩:=ev_some (SB.plus_spec (M.B k) (M.B l) (by have:=h1.size; omega) (by have:=h2.size; omega))
  rw [M.V_B,M.V_B] at hi
  exact gantref1_Plus.calls i _ _ _ w hi
theorem rshare_k (h1:SzN k K) (h2:SzN l L) (hs:K+L≤17179869184) (h0:l≠0):CSpec Tryz.prog 90 #[.string (M.B k),.string (M.B l)] (.tuple #[.string (M.B (k/l)),.string (M.B (k%l))]):=fun w _=>by
  obtain ⟨i,hi⟩:=ev_some (SB.share_spec (M.B k) (M.B l) (by have:=h1.size; omega) (by have:=h2.size; omega) (by rw [M.V_B]; exact h0))
  rw [M.V_B,M.V_B] at hi
  exact gantref1_Share.calls i _ _ _ _ w hi
end
end Go.Proofs.YtbfpmofhopglfaaGreatDoor.G
end
section
namespace Go.Proofs.YtbfpmofhopglfaaGreatDoor.G
open Go.Proofs.YtbfpmofhopglfaaGreatDoor.U Go.RowKit
theorem str_eq (a b:ByteArray):(a.toList==b.toList)=decide (a=b):=by
  have:=str_neq a b
  by_cases h:a=b
  · subst h; simp
  rw [decide_eq_true h] at this
  rw [decide_eq_false h]
  simpa using this
open Classical in
section
variable {s t:Bool} {k d l e K L D E:Nat}
theorem gcdn_s (h:SzN d L) (hd:d≠0):SzN (Nat.gcd k d) L:=Nat.lt_of_le_of_lt (Nat.gcd_le_right _ (by omega)) h
end
theorem rat1 {s:Bool} {k d K D:Nat} (h1':SzN k K) (h2':SzN d D) (k1:K+D≤2000000000) (hd:d≠0) (h0:(ByteArray.toList (M.B k)==ByteArray.toList { data:=#[] })=true):CSpec Tryz.prog 52 #[(rv s (M.B k) (M.B d))] (ag [[.bool false],[.string ({ data:=#[] })],[.string ({ data:=#[(1:UInt8)] })]]):=by
  exact fn_ok Tryz.func52 (sc:=[(1,2,.fix (.string (M.B k))),(1,3,.is (.c (.bool true)))]) (sb:=[]) (by kernel_rfl) (hC (rbare_k (k:=k)) (hP (isB h0) hN))
theorem rat2 {s:Bool} {k d K D:Nat} (h1':SzN k K) (h2':SzN d D) (k1:K+D≤2000000000) (hd:d≠0) (h0:(ByteArray.toList (M.B k)==ByteArray.toList { data:=#[] })=false) (h2:Nat.gcd k d≠(0:Nat)):CSpec Tryz.prog 52 #[(rv s (M.B k) (M.B d))] (ag [[.bool s],[.string (M.B (k/Nat.gcd k d))],[.string (M.B (d/Nat.gcd k d))]]):=by
  have s1:=(gcdn_s (k:=k) h2' hd)
  exact fn_ok Tryz.func52 (sc:=[(1,2,.fix (.string (M.B k))),(1,3,.is (.c (.bool false))),(3,4,.fix (.string (M.B (Nat.gcd k d)))),(4,3,.fix (.tuple #[.string (M.B (k/Nat.gcd k d)),.string (M.B (k%Nat.gcd k d))])),(5,3,.fix (.tuple #[.string (M.B (d/Nat.gcd k d)),.string (M.B (d%Nat.gcd k d))]))]) (sb:=[]) (by kernel_rfl) (hC (rbare_k (k:=k)) (hP (isB h0) (hC (rcommon_k h1' h2' k1) (hC (rshare_k h1' s1 (by omega) h2) (hC (rshare_k h2' s1 (by omega) h2) hN)))))
theorem rat_k {s:Bool} {k d K D:Nat} (h1':SzN k K) (h2':SzN d D) (k1:K+D≤2000000000) (hd:d≠0):CSpec Tryz.prog 52 #[rv s (M.B k) (M.B d)] (Rv (mkRat (sgn s k) d)):=by
  by_cases h:k=0
  · have e:mkRat (sgn s k) d=0:=(Rat.mkRat_eq_zero hd).2 (by rw [h]; cases s<;>rfl)
    rw [e,Rv_zero]
    exact rat1 h1' h2' k1 hd (by rw [str_eq]; exact decide_eq_true (B_nil h))
  rw [rv_mk s k d h hd]
  exact rat2 h1' h2' k1 hd (by rw [str_eq]; exact decide_eq_false (B_ne h)) (fun hg=>h (Nat.eq_zero_of_gcd_eq_zero_left hg))
end Go.Proofs.YtbfpmofhopglfaaGreatDoor.G
end
section
namespace Go.Proofs.YtbfpmofhopglfaaGreatDoor.G
open Go.Proofs.YtbfpmofhopglfaaGreatDoor.U Go.RowKit
def FlM (b:Nat):Nat:=if b/4503599627370496=0 then b%4503599627370496 else b%4503599627370496+4503599627370496
def FlE (b:Nat):Nat:=if b/4503599627370496=0 then 1 else b/4503599627370496
def Fl (b:Nat):Rat:=if 1075≤FlE b then (FlM b:Rat)*((2^(FlE b - 1075):Nat):Rat) else (FlM b:Rat)/((2^(1075 - FlE b):Nat):Rat)
theorem FlM_lt (b:Nat):FlM b < 9007199254740992:=by
  unfold FlM
  split<;>omega
theorem FlE_pos (b:Nat):1≤FlE b:=by
  unfold FlE
  split<;>omega
theorem FlE_le {b:Nat} (h:b≤9218868437227405312):FlE b≤2047:=by
  unfold FlE
  split
  · decide
  exact (Nat.div_le_iff_le_mul_add_pred (by decide)).2 (by omega)
theorem natR_z {n K:Nat} (h:n < 256^K) (hK:1≤K):Sz (n:Rat) K:=by
  refine ⟨?_,?_⟩
  · show (n:Rat).num.natAbs < _
    rw [Rat.num_natCast,Int.natAbs_natCast]
    exact h
  rw [Rat.den_natCast]
  exact Nat.one_lt_pow (by omega) (by decide)
theorem pow2_z {k K:Nat} (h:k < 8*K):Sz ((2^k:Nat):Rat) K:=by
  refine natR_z ?_ (by omega)
  rw [show (256:Nat)^K=2^(8*K) by rw [Nat.pow_mul]]
  exact Nat.pow_lt_pow_right (by decide) h
theorem flm_s (b:Nat):Sz (FlM b:Rat) 8:=natR_z (Nat.lt_of_lt_of_le (FlM_lt b) (by decide)) (by decide)
theorem fl_s {b:Nat} (h:b≤9218868437227405312):Sz (Fl b) 160:=by
  have h1:=FlE_le h
  have h2:=FlE_pos b
  unfold Fl
  split
  · exact (mul_s (flm_s b) (pow2_z (K:=135) (by omega))).mono (by decide)
  exact (div_s (flm_s b) (pow2_z (K:=135) (by omega))).mono (by decide)
theorem half_n {n:Nat} {d:Rat} (h:n%2=0):((n/2:Nat):Rat)/d=(n:Rat)/d/2:=by
  obtain ⟨k,rfl⟩:∃ k,n=2*k:=⟨n/2,by omega⟩
  rw [Nat.mul_div_cancel_left _ (by decide),Rat.natCast_mul]
  show (k:Rat)/d=2*(k:Rat)/d/2
  grind
theorem half_d {n:Rat} {d:Nat}:n/((d+d:Nat):Rat)=n/(d:Rat)/2:=by
  rw [Rat.natCast_add]
  by_cases h:(d:Rat)=0
  · rw [h,Rat.add_zero]
    simp [Rat.div_def]
  grind
end Go.Proofs.YtbfpmofhopglfaaGreatDoor.G
end
section
namespace Go.Proofs.YtbfpmofhopglfaaGreatDoor.G
open Go.Proofs.YtbfpmofhopglfaaGreatDoor.U Go.RowKit
theorem vI_of {i j:Int} (h:i=j):V.c (.int .i64 i)=V.c (.int .i64 j):=by rw [h]
theorem vU_of {i j:Int} (h:i=j):V.c (.int .u64 i)=V.c (.int .u64 j):=by rw [h]
theorem wi64 {k:Nat} (h:k < 9223372036854775808):IntKind.wrap .i64 (k:Int)=k:=by
  rw [IntKind.wrap_i64]
  omega
theorem be_rep0:∀ h:Nat,M.be (List.replicate h 0)=0
  | 0=>rfl
  | h+1=>by rw [List.replicate_succ,M.be_cons,be_rep0 h]; simp
theorem pw_str (n:Nat):M.B (2^n)=strOfNums (((2^(n%8):Nat):Int)::List.replicate (n/8) (0:Int)):=by
  have hl:(strOfNums (((2^(n%8):Nat):Int)::List.replicate (n/8) (0:Int))).data.toList=UInt8.ofNat (2^(n%8))::List.replicate (n/8) 0:=by
    unfold strOfNums
    rw [List.map_cons,List.map_replicate,Int.toNat_natCast]
    rfl
  have hc:(UInt8.ofNat (2^(n%8))).toNat=2^(n%8):=by
    rw [UInt8.toNat_ofNat']
    have:2^(n%8) < 2^8:=Nat.pow_lt_pow_right (by decide) (Nat.mod_lt _ (by decide))
    exact Nat.mod_eq_of_lt this
  have hv:M.V (strOfNums (((2^(n%8):Nat):Int)::List.replicate (n/8) (0:Int)))=2^n:=by
    unfold M.V
    rw [hl,M.be_cons,be_rep0,List.length_replicate,hc,Nat.add_zero]
    rw [show (256:Nat)^(n/8)=2^(8*(n/8)) by rw [Nat.pow_mul],← Nat.pow_add]
    congr 1
    omega
  rw [← hv]
  refine M.B_V ?_
  rw [hl]
  intro c h
  simp only [List.head?_cons,Option.some.injEq] at h
  subst h
  intro h0
  rw [h0] at hc
  have:=Nat.pow_pos (n:=n%8) (show 0 < 2 by decide)
  rw [← hc] at this
  exact absurd this (by decide)
theorem shl1 {r:Nat} (h:r < 8):V.c (.int .u8 (IntKind.wrap .u8 ((1:Int)*(2:Int)^min (Int.toNat (r:Int)) (IntKind.bits .u8)))) = .c (.int .u8 ((2^r:Nat):Int)):=by
  have:r=0∨r=1∨r=2∨r=3∨r=4∨r=5∨r=6∨r=7:=by omega
  rcases this with rfl | rfl | rfl | rfl | rfl | rfl | rfl | rfl<;>rfl
theorem nof1_k:CSpec Tryz.prog 64 #[.int .i64 1] (.string ⟨#[1]⟩):=by
  have:=of_c 1 (by decide)
  rwa [show M.B (Int.toNat 1)=⟨#[1]⟩ from B_one1] at this
theorem power0 {n:Nat} (hn:n≤1100)  : CSpec Tryz.prog 87 #[(.int .i64 ((n:Nat):Int))] (ag [[.bool false],[.string (M.B ((2:Nat)^n))],[.string ({ data:=#[(1:UInt8)] })]]):=by
  exact fn_ok Tryz.func87 (sc:=[(1,1,.is (.c (.int .i64 ((↑(n/(8:Nat)):Int))))),(1,2,.is (.c (.int .i64 ((↑(n/(8:Nat)+(1:Nat)):Int))))),(2,2,.is (.c (.int .i64 ((↑(n%(8:Nat)):Int))))),(2,3,.is (.c (.int .u8 ((↑((2:Nat)^(n%(8:Nat))):Int))))),(2,5,.fix (.tuple #[])),(3,1,.fix (.string (M.B ((2:Nat)^n)))),(3,2,.fix (.string ({ data:=#[(1:UInt8)] })))]) (sb:=[]) (by kernel_rfl) (hP (vI_of (show IntKind.wrap .i64 (Int.tdiv (n:Int) 8)=_ from wi64 (k:=n/8) (by omega))) (hP (vI_of (wi64 (k:=n/8+1) (by omega))) (hP (show (0:Int)≤(↑(n/(8:Nat)+(1:Nat)):Int)∧(↑(n/(8:Nat)+(1:Nat)):Int)≤(↑(n/(8:Nat)+(1:Nat)):Int)∧(1:Int)*(↑(n/(8:Nat)+(1:Nat)):Int)≤(281474976710656:Int)∧(↑(n/(8:Nat)+(1:Nat)):Int) < (9223372036854775808:Int) by omega) (hP (show V.c (Value.int .i64 (Int.tmod (↑n:Int) (8:Int))) = .c (.int .i64 ((↑(n%(8:Nat)):Int))) from (rfl)) (hP (show V.c (Value.int .u8 (IntKind.wrap .u8 ((1:Int)*(2:Int)^min (Int.toNat (↑(n%(8:Nat)):Int)) (IntKind.bits .u8)))) = .c (.int .u8 ((↑((2:Nat)^(n%(8:Nat))):Int))) from (shl1 (Nat.mod_lt _ (by decide)))) (hP (show (0:Int)≤(0:Int)∧(0:Int) < (↑(Int.toNat (↑(n/(8:Nat)+(1:Nat)):Int)):Int) by omega) (hP (show 0+[V.c (.int .u8 ((2^(n%8):Nat):Int))].length≤(List.replicate (n/8+1) (V.c (.int .u8 0))).length by simp) (hP (show ∃ xs:List Int,M.B (2^n)=strOfNums xs∧xs.length=n/8+1∧((V.c (.int .u8 ((2^(n%8):Nat):Int))::List.replicate (n/8) (V.c (.int .u8 0))).drop 0).take (n/8+1)=xs.map fun n=>.c (.int .u8 n) from ⟨_,pw_str n,by simp,by simp [List.take_of_length_le]⟩) (hC nof1_k hN)))))))))
theorem rv_nat (m:Nat):Rv (m:Rat)=rv false (M.B m) ⟨#[1]⟩:=by
  show rv (decide ((m:Rat).num < 0)) (M.B (m:Rat).num.natAbs) (M.B (m:Rat).den)=_
  rw [Rat.num_natCast,Rat.den_natCast,Int.natAbs_natCast,decide_eq_false (by omega),B_one1]
  rfl
theorem power_k {n:Nat} (hn:n≤1100):CSpec Tryz.prog 87 #[.int .i64 (n:Int)] (Rv ((2^n:Nat):Rat)):=by
  rw [rv_nat]
  exact power0 hn
theorem ofn_k {m:Nat} (h:m < 9223372036854775808):CSpec Tryz.prog 19 #[.int .i64 (m:Int)] (Rv (m:Rat)):=by
  have:=of_k (n:=(m:Int)) (by omega) (by omega)
  rwa [Rat.intCast_natCast] at this
theorem pwr_s {n:Nat} (h:n≤1100):Sz ((2^n:Nat):Rat) 140:=pow2_z (by omega)
theorem pwn_s {n:Nat}:((2^n:Nat):Rat)≠0:=by
  have:=Nat.pow_pos (n:=n) (show 0 < 2 by decide)
  intro h
  have h2:(2^n:Nat)=0:=by exact_mod_cast h
  omega
theorem u64and {x:Nat} (k:Nat) (hx:x < 18446744073709551616) (hk:k≤64):IntKind.wrap .u64 ((BitVec.toNat (BitVec.ofInt (IntKind.bits .u64) (x:Int) &&& BitVec.ofInt (IntKind.bits .u64) (((2^k - 1:Nat)):Int)):Nat):Int)=((x%2^k:Nat):Int):=by
  have hp:2^k≤2^64:=Nat.pow_le_pow_right (by decide) hk
  have e:BitVec.toNat (BitVec.ofInt (IntKind.bits .u64) (x:Int) &&& BitVec.ofInt (IntKind.bits .u64) (((2^k - 1:Nat)):Int))=x%2^k:=by
    rw [BitVec.toNat_and,BitVec.ofInt_natCast,BitVec.ofInt_natCast,BitVec.toNat_ofNat,BitVec.toNat_ofNat,Nat.mod_eq_of_lt (show x < 2^IntKind.bits .u64 from hx),Nat.mod_eq_of_lt (show 2^k - 1 < 2^IntKind.bits .u64 by show 2^k - 1 < 2^64; omega),Nat.and_two_pow_sub_one_eq_mod]
  rw [e,IntKind.wrap_u64]
  have:x%2^k < 18446744073709551616:=Nat.lt_of_le_of_lt (Nat.mod_le _ _) hx
  omega
theorem u64or {x:Nat} (k:Nat) (hx:x < 2^k) (hk:k < 64):IntKind.wrap .u64 ((BitVec.toNat (BitVec.ofInt (IntKind.bits .u64) (x:Int) ||| BitVec.ofInt (IntKind.bits .u64) ((2^k:Nat):Int)):Nat):Int)=((x+2^k:Nat):Int):=by
  have hp:2^k*2≤2^64:=by rw [← Nat.pow_succ]; exact Nat.pow_le_pow_right (by decide) hk
  have e:BitVec.toNat (BitVec.ofInt (IntKind.bits .u64) (x:Int) ||| BitVec.ofInt (IntKind.bits .u64) ((2^k:Nat):Int))=x+2^k:=by
    have h1:x < 2^IntKind.bits .u64:=by show x < 2^64; omega
    have h2:2^k < 2^IntKind.bits .u64:=by show 2^k < 2^64; omega
    rw [BitVec.toNat_or,BitVec.ofInt_natCast,BitVec.ofInt_natCast,BitVec.toNat_ofNat,BitVec.toNat_ofNat,Nat.mod_eq_of_lt h1,Nat.mod_eq_of_lt h2,Nat.or_comm]
    have:=Nat.two_pow_add_eq_or_of_lt hx 1
    rw [Nat.mul_one] at this
    omega
  rw [e,IntKind.wrap_u64]
  have hp':2^k*2≤18446744073709551616:=hp
  omega
theorem flm_t {b:Nat} (h:decide (((b/4503599627370496:Nat):Int)=0)=true):FlM b=b%4503599627370496:=by
  have:=of_decide_eq_true h
  unfold FlM
  rw [if_pos (by omega)]
theorem flm_f {b:Nat} (h:decide (((b/4503599627370496:Nat):Int)=0)=false):FlM b=b%4503599627370496+4503599627370496:=by
  have:=of_decide_eq_false h
  unfold FlM
  rw [if_neg (by omega)]
theorem fle_t {b:Nat} (h:decide (((b/4503599627370496:Nat):Int)=0)=true):FlE b=1:=by
  have:=of_decide_eq_true h
  unfold FlE
  rw [if_pos (by omega)]
theorem fle_f {b:Nat} (h:decide (((b/4503599627370496:Nat):Int)=0)=false):FlE b=b/4503599627370496:=by
  have:=of_decide_eq_false h
  unfold FlE
  rw [if_neg (by omega)]
theorem shr52 {b:Nat}:V.c (.int .u64 (Int.fdiv (b:Int) (2^min (Int.toNat 52) (IntKind.bits .u64)))) = .c (.int .u64 ((b/4503599627370496:Nat):Int)) :=
  vU_of (by show Int.fdiv (b:Int) 4503599627370496=_; rw [Int.fdiv_eq_ediv_of_nonneg _ (by decide)]; rfl)
theorem ncg {i j:Nat} (h:i=j):(i:Int)=(j:Int):=by rw [h]
theorem sub64 {a c:Nat} (h:c≤a) (ha:a < 9223372036854775808):IntKind.wrap .i64 ((a:Int) - (c:Int))=((a - c:Nat):Int):=by
  rw [show (a:Int) - (c:Int)=((a - c:Nat):Int) by omega,wi64 (by omega)]
theorem exact1 {b:Nat} (hb:b≤9218868437227405312) (hm:FlM b < 9007199254740992) (he:FlE b≤2047) (h0:decide ((↑(b/(4503599627370496:Nat)):Int)=(0:Int))=true) (h1:decide ((1075:Int)≤(↑(FlE b):Int))=false):CSpec Tryz.prog 43 #[(.int .u64 ((b:Nat):Int))] (Rv ((↑(FlM b):Rat)/(↑((2:Nat)^((1075:Nat) - FlE b)):Rat))):=by
  have s2:=(flm_s b)
  have s3:=(isR_s s2)
  have s4:=(pwr_s (n:=(1075:Nat) - FlE b) (by omega))
  have s5:=(isR_s s4)
  have s6:=(pwn_s (n:=(1075:Nat) - FlE b))
  exact fn_ok Tryz.func43 (sc:=[(1,1,.is (.c (.int .u64 ((↑(b/(4503599627370496:Nat)):Int))))),(1,2,.is (.c (.int .i64 ((↑(b/(4503599627370496:Nat)):Int))))),(1,4,.is (.c (.int .u64 ((↑(b%(4503599627370496:Nat)):Int))))),(2,1,.is (.c (.bool true))),(5,0,.is (.c (.int .u64 ((↑(FlM b):Int))))),(5,1,.is (.c (.int .i64 ((↑(FlM b):Int))))),(5,2,.fix (Rv ((↑(FlM b):Rat)))),(6,0,.is (.c (.int .i64 ((↑(FlE b):Int))))),(6,1,.is (.c (.bool false))),(8,1,.is (.c (.int .i64 ((↑(FlE b):Int))))),(8,2,.is (.c (.int .i64 ((↑((1075:Nat) - FlE b):Int))))),(8,3,.fix (Rv ((↑((2:Nat)^((1075:Nat) - FlE b)):Rat)))),(8,4,.fix (.tuple #[Rv ((↑(FlM b):Rat)/(↑((2:Nat)^((1075:Nat) - FlE b)):Rat)),.int .i64 (0:Int)]))]) (sb:=[]) (by kernel_rfl) (hP (shr52 (b:=b)) (hP (vI_of (wi64 (k:=b/4503599627370496) (by omega))) (hP (vU_of (u64and (x:=b) 52 (by omega) (by decide))) (hP (isB h0) (hP (vU_of (ncg (flm_t h0).symm)) (hP (vI_of (wi64 (k:=FlM b) (Nat.lt_trans hm (by decide)))) (hC (ofn_k (m:=FlM b) (by omega)) (hP (vI_of (ncg (fle_t h0).symm)) (hP (isB h1) (hP (vI_of (ncg (fle_t h0).symm)) (hP (vI_of (sub64 (a:=1075) (c:=FlE b) (by have:=of_decide_eq_false h1; omega) (by decide))) (hC (power_k (n:=(1075:Nat) - FlE b) (by omega)) (hC (div_k s3 s5 (by decide +kernel) s6) hN)))))))))))))
theorem exact2 {b:Nat} (hb:b≤9218868437227405312) (hm:FlM b < 9007199254740992) (he:FlE b≤2047) (h0:decide ((↑(b/(4503599627370496:Nat)):Int)=(0:Int))=false) (h1:decide ((1075:Int)≤(↑(FlE b):Int))=true):CSpec Tryz.prog 43 #[(.int .u64 ((b:Nat):Int))] (Rv ((↑(FlM b):Rat)*(↑((2:Nat)^(FlE b - (1075:Nat))):Rat))):=by
  have s2:=(flm_s b)
  have s3:=(isR_s s2)
  have s4:=(pwr_s (n:=FlE b - (1075:Nat)) (by omega))
  have s5:=(isR_s s4)
  exact fn_ok Tryz.func43 (sc:=[(1,1,.is (.c (.int .u64 ((↑(b/(4503599627370496:Nat)):Int))))),(1,2,.is (.c (.int .i64 ((↑(b/(4503599627370496:Nat)):Int))))),(1,4,.is (.c (.int .u64 ((↑(b%(4503599627370496:Nat)):Int))))),(2,1,.is (.c (.bool false))),(4,1,.is (.c (.int .u64 ((↑(b%(4503599627370496:Nat)+(4503599627370496:Nat)):Int))))),(5,0,.is (.c (.int .u64 ((↑(FlM b):Int))))),(5,1,.is (.c (.int .i64 ((↑(FlM b):Int))))),(5,2,.fix (Rv ((↑(FlM b):Rat)))),(6,0,.is (.c (.int .i64 ((↑(FlE b):Int))))),(6,1,.is (.c (.bool true))),(7,1,.is (.c (.int .i64 ((↑(FlE b):Int))))),(7,2,.is (.c (.int .i64 ((↑(FlE b - (1075:Nat)):Int))))),(7,3,.fix (Rv ((↑((2:Nat)^(FlE b - (1075:Nat))):Rat)))),(7,4,.fix (Rv ((↑(FlM b):Rat)*(↑((2:Nat)^(FlE b - (1075:Nat))):Rat))))]) (sb:=[]) (by kernel_rfl) (hP (shr52 (b:=b)) (hP (vI_of (wi64 (k:=b/4503599627370496) (by omega))) (hP (vU_of (u64and (x:=b) 52 (by omega) (by decide))) (hP (isB h0) (hP (vU_of (u64or (x:=b%4503599627370496) 52 (Nat.mod_lt _ (by decide)) (by decide))) (hP (vU_of (ncg (flm_f h0).symm)) (hP (vI_of (wi64 (k:=FlM b) (Nat.lt_trans hm (by decide)))) (hC (ofn_k (m:=FlM b) (by omega)) (hP (vI_of (ncg (fle_f h0).symm)) (hP (isB h1) (hP (vI_of (ncg (fle_f h0).symm)) (hP (vI_of (sub64 (a:=FlE b) (c:=1075) (by have:=of_decide_eq_true h1; omega) (by have:=FlE_le hb; omega))) (hC (power_k (n:=FlE b - (1075:Nat)) (by omega)) (hC (mul_k s3 s5 (by decide +kernel)) hN))))))))))))))
theorem exact3 {b:Nat} (hb:b≤9218868437227405312) (hm:FlM b < 9007199254740992) (he:FlE b≤2047) (h0:decide ((↑(b/(4503599627370496:Nat)):Int)=(0:Int))=false) (h1:decide ((1075:Int)≤(↑(FlE b):Int))=false):CSpec Tryz.prog 43 #[(.int .u64 ((b:Nat):Int))] (Rv ((↑(FlM b):Rat)/(↑((2:Nat)^((1075:Nat) - FlE b)):Rat))):=by
  have s2:=(flm_s b)
  have s3:=(isR_s s2)
  have s4:=(pwr_s (n:=(1075:Nat) - FlE b) (by omega))
  have s5:=(isR_s s4)
  have s6:=(pwn_s (n:=(1075:Nat) - FlE b))
  exact fn_ok Tryz.func43 (sc:=[(1,1,.is (.c (.int .u64 ((↑(b/(4503599627370496:Nat)):Int))))),(1,2,.is (.c (.int .i64 ((↑(b/(4503599627370496:Nat)):Int))))),(1,4,.is (.c (.int .u64 ((↑(b%(4503599627370496:Nat)):Int))))),(2,1,.is (.c (.bool false))),(4,1,.is (.c (.int .u64 ((↑(b%(4503599627370496:Nat)+(4503599627370496:Nat)):Int))))),(5,0,.is (.c (.int .u64 ((↑(FlM b):Int))))),(5,1,.is (.c (.int .i64 ((↑(FlM b):Int))))),(5,2,.fix (Rv ((↑(FlM b):Rat)))),(6,0,.is (.c (.int .i64 ((↑(FlE b):Int))))),(6,1,.is (.c (.bool false))),(8,1,.is (.c (.int .i64 ((↑(FlE b):Int))))),(8,2,.is (.c (.int .i64 ((↑((1075:Nat) - FlE b):Int))))),(8,3,.fix (Rv ((↑((2:Nat)^((1075:Nat) - FlE b)):Rat)))),(8,4,.fix (.tuple #[Rv ((↑(FlM b):Rat)/(↑((2:Nat)^((1075:Nat) - FlE b)):Rat)),.int .i64 (0:Int)]))]) (sb:=[]) (by kernel_rfl) (hP (shr52 (b:=b)) (hP (vI_of (wi64 (k:=b/4503599627370496) (by omega))) (hP (vU_of (u64and (x:=b) 52 (by omega) (by decide))) (hP (isB h0) (hP (vU_of (u64or (x:=b%4503599627370496) 52 (Nat.mod_lt _ (by decide)) (by decide))) (hP (vU_of (ncg (flm_f h0).symm)) (hP (vI_of (wi64 (k:=FlM b) (Nat.lt_trans hm (by decide)))) (hC (ofn_k (m:=FlM b) (by omega)) (hP (vI_of (ncg (fle_f h0).symm)) (hP (isB h1) (hP (vI_of (ncg (fle_f h0).symm)) (hP (vI_of (sub64 (a:=1075) (c:=FlE b) (by have:=of_decide_eq_false h1; omega) (by decide))) (hC (power_k (n:=(1075:Nat) - FlE b) (by omega)) (hC (div_k s3 s5 (by decide +kernel) s6) hN))))))))))))))
theorem exact_k {b:Nat} (hb:b≤9218868437227405312):CSpec Tryz.prog 43 #[.int .u64 (b:Int)] (Rv (Fl b)):=by
  have hm:=FlM_lt b
  have he:=FlE_le hb
  unfold Fl
  cases h1:decide ((1075:Int)≤((FlE b:Nat):Int)) with
  | true =>
    have h1':=of_decide_eq_true h1
    rw [if_pos (by omega)]
    cases h0:decide (((b/4503599627370496:Nat):Int)=0) with
    | true =>
      have:=fle_t h0
      omega
    | false=>exact exact2 hb hm he h0 h1
  | false =>
    have h1':=of_decide_eq_false h1
    rw [if_neg (by omega)]
    cases h0:decide (((b/4503599627370496:Nat):Int)=0) with
    | true=>exact exact1 hb hm he h0 h1
    | false=>exact exact3 hb hm he h0 h1
end Go.Proofs.YtbfpmofhopglfaaGreatDoor.G
end
section
namespace Go.Proofs.YtbfpmofhopglfaaGreatDoor.G
open Go.Proofs.YtbfpmofhopglfaaGreatDoor.U Go.RowKit
section
open Go.Proofs.YtbfpmofhopglfaaGreatDoor.R Go.Proofs.YtbfpmofhopglfaaGreatDoor.H
theorem rbit0_k {k K:Nat} (h1:SzN k K) (hs:K≤2000000000):CSpec Tryz.prog 50 #[.string (M.B k),.int .i64 0] (.int .i64 ((k%2:Nat):Int)):=fun w _ =>
  (gantref1_bit.calls (M.B k) 0 _ w (SB.bit0_spec h1 hs)).mono fun e w' h=>⟨h.1,h.2.below⟩
theorem rhalf_k {k K:Nat} (h1:SzN k K) (hs:K≤2000000000):CSpec Tryz.prog 51 #[.string (M.B k)] (.string (M.B (k/2))):=fun w _=>by
  obtain ⟨i,hi⟩:=ev_some (SB.halvedB h1 hs)
  exact gantref1_halved.calls i _ _ w hi
end
def flS (r0 r1:Row) (s:Bool) (e k d L i:Nat):St:=⟨slots 78 0 [(2,.p 0 0),(3,.c (.bool s)),(4,.c (.int .i64 (e:Int))),(8,.c (.string (M.B k))),(9,.c (.string (M.B d))),(44,.c (.int .i64 (L:Int))),(45,.c (.int .i64 (i:Int)))],[some r0,some r1]⟩
def flU (r0 r1:Row) (s:Bool) (e k d:Nat):St:=⟨slots 78 0 [(2,.p 0 0),(3,.c (.bool s)),(4,.c (.int .i64 (e:Int))),(8,.c (.string (M.B k))),(9,.c (.string (M.B d)))],[some r0,some r1]⟩
def flT (r0 r1:Row) (s:Bool) (k d L i:Nat):St:=⟨slots 78 0 [(2,.p 0 0),(3,.c (.bool s)),(8,.c (.string (M.B k))),(9,.c (.string (M.B d))),(53,.c (.int .i64 (L:Int))),(54,.c (.int .i64 (i:Int)))],[some r0,some r1]⟩
def flV (r0 r1:Row) (s:Bool) (k d:Nat):St:=⟨slots 78 0 [(2,.p 0 0),(3,.c (.bool s)),(8,.c (.string (M.B k))),(9,.c (.string (M.B d)))],[some r0,some r1]⟩
theorem add64 {a c:Nat} (ha:a+c < 9223372036854775808):V.c (.int .i64 (IntKind.wrap .i64 ((a:Int)+(c:Int)))) = .c (.int .i64 ((a+c:Nat):Int)):=by
  rw [show (a:Int)+(c:Int)=((a+c:Nat):Int) by omega,wi64 ha]
theorem fl_a {r0 r1:Row} {s:Bool} {e k d L i K:Nat} (hf:Flat [some r0,some r1]) (hL:L≤3000) (hz:SzN k K) (hK:K≤300) (hl:decide ((i:Int) < (L:Int))=true)  : TSpec Tryz.prog (loopOf Tryz.f9 2) (flS r0 r1 s e k d L i) (.normal) (flS r0 r1 s e (k+k) d L (i+1)):=by
  exact tspec_dim (mask 78 0 [2,3,4,8,9,44,45]) 2 (sc:=[(13,0,.is (.c (.bool true))),(14,2,.fix (.string (M.B (k+k)))),(15,0,.is (.c (.int .i64 ((↑(i+(1:Nat)):Int)))))]) (sb:=[]) (by kernel_rfl) (hP (isB hl) (hC (rplus_k hz hz (by omega)) (hP (add64 (a:=i) (c:=1) (by have:=of_decide_eq_true hl; omega)) hN))) hf
theorem fl_b {r0 r1:Row} {s:Bool} {e k d L i K:Nat} (hf:Flat [some r0,some r1]) (hL:L≤3000) (hz:SzN k K) (hK:K≤300) (hl:decide ((i:Int) < (L:Int))=false) (hiL:i≤L)  : TSpec Tryz.prog (loopOf Tryz.f9 2) (flS r0 r1 s e k d L i) (.exit 2) (flU r0 r1 s e k d):=by
  exact tspec_dim (mask 78 0 [2,3,4,8,9]) 2 (sc:=[(13,0,.is (.c (.bool false)))]) (sb:=[]) (by kernel_rfl) (hP (isB hl) hN) hf
theorem fl_c {r0 r1:Row} {s:Bool} {e k d L i K:Nat} (hf:Flat [some r0,some r1]) (hL:L≤3000) (hz:SzN k K) (hK:K≤300) (hl:decide ((i:Int) < (L:Int))=true) (hd:SzN d K) (hb:decide (((k%2:Nat):Int)=1)=true)  : TSpec Tryz.prog (loopOf Tryz.f9 4) (flT r0 r1 s k d L i) (.normal) (flT r0 r1 s k (d+d) L (i+1)):=by
  exact tspec_dim (mask 78 0 [2,3,8,9,53,54]) 2 (sc:=[(17,0,.is (.c (.bool true))),(18,1,.fix (.int .i64 ((↑(k%(2:Nat)):Int)))),(18,2,.is (.c (.bool true))),(19,2,.fix (.string (M.B (d+d)))),(21,0,.is (.c (.int .i64 ((↑(i+(1:Nat)):Int)))))]) (sb:=[]) (by kernel_rfl) (hP (isB hl) (hC (rbit0_k hz (by omega)) (hP (isB hb) (hC (rplus_k hd hd (by omega)) (hP (add64 (a:=i) (c:=1) (by have:=of_decide_eq_true hl; omega)) hN))))) hf
theorem fl_d {r0 r1:Row} {s:Bool} {e k d L i K:Nat} (hf:Flat [some r0,some r1]) (hL:L≤3000) (hz:SzN k K) (hK:K≤300) (hl:decide ((i:Int) < (L:Int))=true) (hd:SzN d K) (hb:decide (((k%2:Nat):Int)=1)=false) (h0:((M.B k).toList==ByteArray.toList ⟨#[]⟩)=true)  : TSpec Tryz.prog (loopOf Tryz.f9 4) (flT r0 r1 s k d L i) (.normal) (flT r0 r1 s k (d+d) L (i+1)):=by
  exact tspec_dim (mask 78 0 [2,3,8,9,53,54]) 2 (sc:=[(17,0,.is (.c (.bool true))),(18,1,.fix (.int .i64 ((↑(k%(2:Nat)):Int)))),(18,2,.is (.c (.bool false))),(18,5,.is (.c (.bool true))),(19,2,.fix (.string (M.B (d+d)))),(21,0,.is (.c (.int .i64 ((↑(i+(1:Nat)):Int)))))]) (sb:=[]) (by kernel_rfl) (hP (isB hl) (hC (rbit0_k hz (by omega)) (hP (isB hb) (hP (isB h0) (hC (rplus_k hd hd (by omega)) (hP (add64 (a:=i) (c:=1) (by have:=of_decide_eq_true hl; omega)) hN)))))) hf
theorem fl_e {r0 r1:Row} {s:Bool} {e k d L i K:Nat} (hf:Flat [some r0,some r1]) (hL:L≤3000) (hz:SzN k K) (hK:K≤300) (hl:decide ((i:Int) < (L:Int))=true) (hb:decide (((k%2:Nat):Int)=1)=false) (h0:((M.B k).toList==ByteArray.toList ⟨#[]⟩)=false)  : TSpec Tryz.prog (loopOf Tryz.f9 4) (flT r0 r1 s k d L i) (.normal) (flT r0 r1 s (k/2) d L (i+1)):=by
  exact tspec_dim (mask 78 0 [2,3,8,9,53,54]) 2 (sc:=[(17,0,.is (.c (.bool true))),(18,1,.fix (.int .i64 ((↑(k%(2:Nat)):Int)))),(18,2,.is (.c (.bool false))),(18,5,.is (.c (.bool false))),(20,1,.fix (.string (M.B (k/(2:Nat))))),(21,0,.is (.c (.int .i64 ((↑(i+(1:Nat)):Int)))))]) (sb:=[]) (by kernel_rfl) (hP (isB hl) (hC (rbit0_k hz (by omega)) (hP (isB hb) (hP (isB h0) (hC (rhalf_k hz (by omega)) (hP (add64 (a:=i) (c:=1) (by have:=of_decide_eq_true hl; omega)) hN)))))) hf
theorem fl_f {r0 r1:Row} {s:Bool} {e k d L i K:Nat} (hf:Flat [some r0,some r1]) (hL:L≤3000) (hz:SzN k K) (hK:K≤300) (hl:decide ((i:Int) < (L:Int))=false) (hiL:i≤L)  : TSpec Tryz.prog (loopOf Tryz.f9 4) (flT r0 r1 s k d L i) (.exit 4) (flV r0 r1 s k d):=by
  exact tspec_dim (mask 78 0 [2,3,8,9]) 2 (sc:=[(17,0,.is (.c (.bool false)))]) (sb:=[]) (by kernel_rfl) (hP (isB hl) hN) hf
theorem fl_l2 {r0 r1:Row} (hf:Flat [some r0,some r1]) (s:Bool) (e d L:Nat) (hL:L≤3000):∀ n i k,i+n=L→SzN (k*2^n) 300→Rounds Tryz.prog (loopOf Tryz.f9 2) 2 (flS r0 r1 s e k d L i) .normal (flU r0 r1 s e (k*2^n) d)
  | 0,i,k,h,hz=>by
    rw [Nat.pow_zero,Nat.mul_one] at *
    exact .stop (fl_b hf hL hz (by decide) (decide_eq_false (by omega)) (by omega))
  | n+1,i,k,h,hz=>by
    have e1:k*2^(n+1)=(k+k)*2^n:=by rw [Nat.pow_succ]; grind
    have hk:SzN k 300:=Nat.lt_of_le_of_lt (Nat.le_mul_of_pos_right k (Nat.pow_pos (by decide))) hz
    rw [e1] at hz ⊢
    exact .step (fl_a hf hL hk (by decide) (decide_eq_true (by omega))) (fl_l2 hf s e d L hL n (i+1) (k+k) (by omega) hz)
theorem half_pw {q:Rat} {n:Nat}:q/2/((2^n:Nat):Rat)=q/((2^(n+1):Nat):Rat):=by
  have h:((2^n:Nat):Rat)≠0:=pwn_s
  rw [Nat.pow_succ,Rat.natCast_mul]
  show q/2/((2^n:Nat):Rat)=q/(((2^n:Nat):Rat)*2)
  generalize ((2^n:Nat):Rat)=p at *
  grind
theorem fl_l4 {r0 r1:Row} (hf:Flat [some r0,some r1]) (s:Bool) (L:Nat) (hL:L≤3000):∀ n i k d,i+n=L→SzN k 300→SzN (d*2^n) 300→d≠0 → ∃ k' d',Rounds Tryz.prog (loopOf Tryz.f9 4) 4 (flT r0 r1 s k d L i) .normal (flV r0 r1 s k' d')∧SzN k' 300∧SzN d' 300∧d' ≠ 0∧(k':Rat)/(d':Rat)=(k:Rat)/(d:Rat)/((2^n:Nat):Rat)∧(k' = 0↔k=0)
  | 0,i,k,d,h,hz,hd,h0=>by
    rw [Nat.pow_zero,Nat.mul_one] at *
    refine ⟨k,d,.stop (fl_f (e:=0) hf hL hz (by decide) (decide_eq_false (by omega)) (by omega)),hz,hd,h0,?_,Iff.rfl⟩
    show _=(k:Rat)/(d:Rat)/1
    grind
  | n+1,i,k,d,h,hz,hd,h0=>by
    have e1:d*2^(n+1)=(d+d)*2^n:=by rw [Nat.pow_succ]; grind
    have hd2:SzN d 300:=Nat.lt_of_le_of_lt (Nat.le_mul_of_pos_right d (Nat.pow_pos (by decide))) hd
    have hl:decide ((i:Int) < (L:Int))=true:=decide_eq_true (by omega)
    by_cases hb:k%2=1
    · rw [e1] at hd
      obtain ⟨k',d',hr,p1,p2,p3,p4,p5⟩:=fl_l4 hf s L hL n (i+1) k (d+d) (by omega) hz hd (by omega)
      refine ⟨k',d',.step (fl_c (e:=0) hf hL hz (by decide) hl hd2 (decide_eq_true (by omega))) hr,p1,p2,p3,?_,p5⟩
      rw [p4,half_d,half_pw]
    have hbb:decide (((k%2:Nat):Int)=1)=false:=decide_eq_false (by omega)
    by_cases hk:k=0
    · subst hk
      rw [e1] at hd
      obtain ⟨k',d',hr,p1,p2,p3,p4,p5⟩:=fl_l4 hf s L hL n (i+1) 0 (d+d) (by omega) hz hd (by omega)
      refine ⟨k',d',.step (fl_d (e:=0) hf hL hz (by decide) hl hd2 hbb (by rw [str_eq]; exact decide_eq_true (B_nil rfl))) hr,p1,p2,p3,?_,p5⟩
      rw [p4,half_d,half_pw]
    have hd3:SzN (d*2^n) 300:=by
      refine Nat.lt_of_le_of_lt (Nat.mul_le_mul_left d ?_) hd
      exact Nat.pow_le_pow_right (by decide) (by omega)
    obtain ⟨k',d',hr,p1,p2,p3,p4,p5⟩:=fl_l4 hf s L hL n (i+1) (k/2) d (by omega) (Nat.lt_of_le_of_lt (Nat.div_le_self _ _) hz) hd3 h0
    refine ⟨k',d',.step (fl_e (e:=0) hf hL hz (by decide) hl hbb (by rw [str_eq]; exact decide_eq_false (B_ne hk))) hr,p1,p2,p3,?_,by omega⟩
    rw [p4,half_n (by omega),half_pw]
def flR0:Row:=⟨true,[.c (.bool false),.c (.string ⟨#[]⟩),.c (.string ⟨#[]⟩)]⟩
def f8 (m:Nat):List Int:=[((m/72057594037927936%256:Nat):Int),((m/281474976710656%256:Nat):Int),((m/1099511627776%256:Nat):Int),((m/4294967296%256:Nat):Int),((m/16777216%256:Nat):Int),((m/65536%256:Nat):Int),((m/256%256:Nat):Int),((m/1%256:Nat):Int)]
def flR1 (m:Nat):Row:=⟨true,(f8 m).map fun n=>.c (.int .u8 n)⟩
theorem fl_flat (m:Nat):Flat [some flR0,some (flR1 m)]:=flatB_flat (by rfl)
theorem V_f8 {m:Nat} (h:m < 18446744073709551616):M.V (strOfNums (f8 m))=m:=by
  have hr:M.InR 256 (f8 m):=by
    intro x hx
    unfold f8 at hx
    simp only [List.mem_cons,List.not_mem_nil,or_false] at hx
    omega
  have:=M.V_strOfNums hr
  have e:M.bv (f8 m)=(m:Int):=by
    simp only [M.bv,f8,List.reverse_cons,List.reverse_nil,List.nil_append,List.cons_append,M.lv]
    omega
  rw [e] at this
  exact_mod_cast this
theorem bare8 {m:Nat} (h:m < 18446744073709551616):CSpec Tryz.prog 48 #[.string (strOfNums (f8 m))] (.string (M.B m)):=by
  have:=rbarer_k (a:=strOfNums (f8 m))
  rwa [V_f8 h] at this
theorem fdivn {x:Nat} (k:Nat) (hk:k≤64):Int.fdiv (x:Int) (2^min (Int.toNat (k:Int)) (IntKind.bits .u64))=((x/2^k:Nat):Int):=by
  rw [show min (Int.toNat (k:Int)) (IntKind.bits .u64)=k by simp [IntKind.bits]; omega,Int.fdiv_eq_ediv_of_nonneg _ (Int.le_of_lt (Int.pow_pos (by decide))),Int.natCast_ediv,Int.natCast_pow]
  rfl
theorem wu8 (x:Nat):IntKind.wrap .u8 (x:Int)=((x%256:Nat):Int):=by
  rw [IntKind.wrap_u8]
  rfl
theorem flm_p {b:Nat} (h:decide ((0:Int) < ((b/4503599627370496:Nat):Int))=true):FlM b=b%4503599627370496+4503599627370496:=by
  have:=of_decide_eq_true h
  unfold FlM
  rw [if_neg (by omega)]
theorem flm_n {b:Nat} (h:decide ((0:Int) < ((b/4503599627370496:Nat):Int))=false):FlM b=b%4503599627370496:=by
  have:=of_decide_eq_false h
  unfold FlM
  rw [if_pos (by omega)]
theorem fle_p {b:Nat} (h:decide ((0:Int) < ((b/4503599627370496:Nat):Int))=true):FlE b=b/4503599627370496:=by
  have:=of_decide_eq_true h
  unfold FlE
  rw [if_neg (by omega)]
theorem fle_n {b:Nat} (h:decide ((0:Int) < ((b/4503599627370496:Nat):Int))=false):FlE b=1:=by
  have:=of_decide_eq_false h
  unfold FlE
  rw [if_pos (by omega)]
theorem fq (x k:Nat) (hk:k≤64):V.c (.int .u64 (Int.fdiv (x:Int) (2^min (Int.toNat (k:Int)) (IntKind.bits .u64)))) = .c (.int .u64 ((x/2^k:Nat):Int)):=vU_of (fdivn k hk)
theorem w8 (x:Nat):V.c (.int .u8 (IntKind.wrap .u8 (x:Int))) = .c (.int .u8 ((x%256:Nat):Int)):=congrArg (fun x=>V.c (.int .u8 x)) (wu8 x)
theorem shr63 {b:Nat} (h:b < 9223372036854775808):V.c (.int .u64 (Int.fdiv (b:Int) (2^min (Int.toNat 63) (IntKind.bits .u64)))) = .c (.int .u64 0) :=
  vU_of (by
    have:=fdivn (x:=b) 63 (by decide)
    rw [show b/2^63=0 from Nat.div_eq_of_lt h] at this
    exact this)
theorem shr63b {b:Nat} (h:b < 9223372036854775808):V.c (.int .u64 (Int.fdiv ((b+9223372036854775808:Nat):Int) (2^min (Int.toNat 63) (IntKind.bits .u64)))) = .c (.int .u64 1) :=
  vU_of (by
    have:=fdivn (x:=b+9223372036854775808) 63 (by decide)
    rw [show (b+9223372036854775808)/2^63=1 by show (b+9223372036854775808)/9223372036854775808=1; omega] at this
    exact this)
theorem shr52p {m:Nat}:V.c (.int .u64 (Int.fdiv ((m+9223372036854775808:Nat):Int) (2^min (Int.toNat 52) (IntKind.bits .u64)))) = .c (.int .u64 ((m/4503599627370496+2048:Nat):Int)) :=
  shr52.trans (vU_of (ncg (by omega)))
theorem wu64 {x y:Nat} (h:x+y < 18446744073709551616):IntKind.wrap .u64 ((x:Int)+(y:Int))=((x+y:Nat):Int):=by
  rw [IntKind.wrap_u64]
  omega
theorem wi64i {x:Int} (h0:-9223372036854775808≤x) (h1:x < 9223372036854775808):IntKind.wrap .i64 x=x:=by
  rw [IntKind.wrap_i64]
  omega
theorem max0 (a c:Nat):(if ((a:Int) - (c:Int)) > 0 then ((a:Int) - (c:Int)) else (0:Int))=((a - c:Nat):Int):=by split<;>omega
def flt_run (b:Nat):=PLift.up fun (r:List Ob) (t:Holds Tryz.prog r)=>(hP (show (0:Int)≤(8:Int)∧(8:Int)≤(8:Int)∧(8:Int)≤(281474976710656:Int)∧(8:Int) < (9223372036854775808:Int) by decide) (hP (fq (FlM b) 56 (by decide)) (hP (w8 (FlM b/72057594037927936)) (hP (show (0:Int)≤(0:Int)∧(0:Int) < (8:Int) by decide) (hP (fq (FlM b) 48 (by decide)) (hP (w8 (FlM b/281474976710656)) (hP (show (0:Int)≤(1:Int)∧(1:Int) < (8:Int) by decide) (hP (fq (FlM b) 40 (by decide)) (hP (w8 (FlM b/1099511627776)) (hP (show (0:Int)≤(2:Int)∧(2:Int) < (8:Int) by decide) (hP (fq (FlM b) 32 (by decide)) (hP (w8 (FlM b/4294967296)) (hP (show (0:Int)≤(3:Int)∧(3:Int) < (8:Int) by decide) (hP (fq (FlM b) 24 (by decide)) (hP (w8 (FlM b/16777216)) (hP (show (0:Int)≤(4:Int)∧(4:Int) < (8:Int) by decide) (hP (fq (FlM b) 16 (by decide)) (hP (w8 (FlM b/65536)) (hP (show (0:Int)≤(5:Int)∧(5:Int) < (8:Int) by decide) (hP (fq (FlM b) 8 (by decide)) (hP (w8 (FlM b/256)) (hP (show (0:Int)≤(6:Int)∧(6:Int) < (8:Int) by decide) (hP (fq (FlM b) 0 (by decide)) (hP (w8 (FlM b/1)) (hP (show (0:Int)≤(7:Int)∧(7:Int) < (8:Int) by decide) (hP (show ∃ xs:List Int,strOfNums (f8 (FlM b))=strOfNums xs∧xs.length=8∧(((f8 (FlM b)).map fun n=>V.c (.int .u8 n)).drop 0).take 8=xs.map fun n=>V.c (.int .u8 n) from ⟨_,rfl,rfl,rfl⟩) t))))))))))))))))))))))))))
noncomputable def flt_sc (b:Nat):Script:=[(1009,6,.is (.c (.int .u64 ((↑(FlM b/(72057594037927936:Nat)):Int))))),(1009,7,.is (.c (.int .u8 ((↑(FlM b/(72057594037927936:Nat)%(256:Nat)):Int))))),(2009,6,.is (.c (.int .u64 ((↑(FlM b/(281474976710656:Nat)):Int))))),(2009,7,.is (.c (.int .u8 ((↑(FlM b/(281474976710656:Nat)%(256:Nat)):Int))))),(3009,6,.is (.c (.int .u64 ((↑(FlM b/(1099511627776:Nat)):Int))))),(3009,7,.is (.c (.int .u8 ((↑(FlM b/(1099511627776:Nat)%(256:Nat)):Int))))),(4009,6,.is (.c (.int .u64 ((↑(FlM b/(4294967296:Nat)):Int))))),(4009,7,.is (.c (.int .u8 ((↑(FlM b/(4294967296:Nat)%(256:Nat)):Int))))),(5009,6,.is (.c (.int .u64 ((↑(FlM b/(16777216:Nat)):Int))))),(5009,7,.is (.c (.int .u8 ((↑(FlM b/(16777216:Nat)%(256:Nat)):Int))))),(6009,6,.is (.c (.int .u64 ((↑(FlM b/(65536:Nat)):Int))))),(6009,7,.is (.c (.int .u8 ((↑(FlM b/(65536:Nat)%(256:Nat)):Int))))),(7009,6,.is (.c (.int .u64 ((↑(FlM b/(256:Nat)):Int))))),(7009,7,.is (.c (.int .u8 ((↑(FlM b/(256:Nat)%(256:Nat)):Int))))),(8009,6,.is (.c (.int .u64 ((↑(FlM b/(1:Nat)):Int))))),(8009,7,.is (.c (.int .u8 ((↑(FlM b/(1:Nat)%(256:Nat)):Int)))))]
theorem flt1 {b k1 k d:Nat} (hb:b≤9218868437227405312) (hm:FlM b < 9007199254740992) (he:FlE b≤2047) (hz:SzN k 300) (hd:SzN d 300) (hd0:d≠0) (l2:TSpec Tryz.prog (.block 2 (.loop (loopOf Tryz.f9 2))) (flS flR0 (flR1 (FlM b)) false (b/4503599627370496) (FlM b) 1 (FlE b - 1075) 0) .normal (flU flR0 (flR1 (FlM b)) false (b/4503599627370496) k1 1)) (l4:TSpec Tryz.prog (.block 4 (.loop (loopOf Tryz.f9 4))) (flT flR0 (flR1 (FlM b)) false k1 1 (1075 - FlE b) 0) .normal (flV flR0 (flR1 (FlM b)) false k d)) (h0:decide ((0:Int) < (↑(b/(4503599627370496:Nat)):Int))=true):CSpec Tryz.prog 9 #[(.int .u64 ((b:Nat):Int))] (Rv (mkRat (sgn false k) d)):=by
  exact fn_ok Tryz.func9 (sc:=[(1,1,.is (.c (.int .u64 (0:Int)))),(1,4,.is (.c (.int .u64 ((↑(b/(4503599627370496:Nat)):Int))))),(1,5,.is (.c (.int .u64 ((↑(b/(4503599627370496:Nat)):Int))))),(1,6,.is (.c (.int .i64 ((↑(b/(4503599627370496:Nat)):Int))))),(1,8,.is (.c (.int .u64 ((↑(b%(4503599627370496:Nat)):Int))))),(2,1,.is (.c (.bool true))),(3,1,.is (.c (.int .u64 ((↑(b%(4503599627370496:Nat)+(4503599627370496:Nat)):Int))))),(3,2,.is (.c (.int .u64 ((↑(FlM b):Int))))),(11,1,.fix (.string (strOfNums (f8 (FlM b))))),(11,2,.fix (.string (M.B (FlM b)))),(11,4,.is (.c (.string (M.B (1:Nat))))),(12,0,.is (.c (.int .i64 ((↑(FlE b):Int))))),(12,1,.is (.c (.int .i64 ((↑(FlE b):Int) - (1075:Int))))),(12,2,.is (.c (.int .i64 ((↑(FlE b - (1075:Nat)):Int))))),(2,99999,.mask (mask 78 0 [2,3,4,8,9,44,45])),(16,0,.is (.c (.int .i64 ((↑(FlE b):Int))))),(16,1,.is (.c (.int .i64 ((1075:Int) - (↑(FlE b):Int))))),(16,2,.is (.c (.int .i64 ((↑((1075:Nat) - FlE b):Int))))),(4,99999,.mask (mask 78 0 [2,3,8,9,53,54])),(22,8,.fix (Rv (mkRat (sgn false k) d)))]++flt_sc b) (sb:=[(2,.normal,flU flR0 (flR1 (FlM b)) false (b/4503599627370496) k1 1),(4,.normal,flV flR0 (flR1 (FlM b)) false k d)]) (by kernel_rfl) (hP (shr63 (b:=b) (by omega)) (hP (shr52 (b:=b)) (hP (vU_of ((u64and (x:=b/4503599627370496) 11 (by omega) (by decide)).trans (ncg (Nat.mod_eq_of_lt (by omega))))) (hP (vI_of (wi64 (k:=b/4503599627370496) (by omega))) (hP (vU_of (u64and (x:=b) 52 (by omega) (by decide))) (hP (isB h0) (hP (vU_of (wu64 (x:=b%4503599627370496) (y:=4503599627370496) (by omega))) (hP (vU_of (ncg (flm_p h0).symm)) ((flt_run b).down _ (hC (bare8 (m:=FlM b) (by omega)) (hP (congrArg (fun x=>V.c (.string x)) B_one1.symm) (hP (vI_of (ncg (fle_p h0).symm)) (hP (vI_of (wi64i (x:=(FlE b:Int) - 1075) (by omega) (by omega))) (hP (vI_of (max0 (FlE b) 1075)) (hP (show Flat [some ⟨Bool.true,nv [[.bool false],[.string ({ data:=#[] })],[.string ({ data:=#[] })]]⟩,some ⟨Bool.true,nv [[.int .u8 ((↑(FlM b/(72057594037927936:Nat)%(256:Nat)):Int))],[.int .u8 ((↑(FlM b/(281474976710656:Nat)%(256:Nat)):Int))],[.int .u8 ((↑(FlM b/(1099511627776:Nat)%(256:Nat)):Int))],[.int .u8 ((↑(FlM b/(4294967296:Nat)%(256:Nat)):Int))],[.int .u8 ((↑(FlM b/(16777216:Nat)%(256:Nat)):Int))],[.int .u8 ((↑(FlM b/(65536:Nat)%(256:Nat)):Int))],[.int .u8 ((↑(FlM b/(256:Nat)%(256:Nat)):Int))],[.int .u8 ((↑(FlM b/(1:Nat)%(256:Nat)):Int))]]⟩] from (flk rfl (flk rfl trivial))) (hP (l2) (hP (vI_of (ncg (fle_p h0).symm)) (hP (vI_of (wi64i (x:=1075 - (FlE b:Int)) (by omega) (by omega))) (hP (vI_of (max0 1075 (FlE b))) (hP (show Flat [some ⟨Bool.true,nv [[.bool false],[.string ({ data:=#[] })],[.string ({ data:=#[] })]]⟩,some ⟨Bool.true,nv [[.int .u8 ((↑(FlM b/(72057594037927936:Nat)%(256:Nat)):Int))],[.int .u8 ((↑(FlM b/(281474976710656:Nat)%(256:Nat)):Int))],[.int .u8 ((↑(FlM b/(1099511627776:Nat)%(256:Nat)):Int))],[.int .u8 ((↑(FlM b/(4294967296:Nat)%(256:Nat)):Int))],[.int .u8 ((↑(FlM b/(16777216:Nat)%(256:Nat)):Int))],[.int .u8 ((↑(FlM b/(65536:Nat)%(256:Nat)):Int))],[.int .u8 ((↑(FlM b/(256:Nat)%(256:Nat)):Int))],[.int .u8 ((↑(FlM b/(1:Nat)%(256:Nat)):Int))]]⟩] from (flk rfl (flk rfl trivial))) (hP (l4) (hC (rat_k (s:=false) hz hd (by decide +kernel) hd0) hN))))))))))))))))))))))
theorem flt2 {b k1 k d:Nat} (hb:b≤9218868437227405312) (hm:FlM b < 9007199254740992) (he:FlE b≤2047) (hz:SzN k 300) (hd:SzN d 300) (hd0:d≠0) (l2:TSpec Tryz.prog (.block 2 (.loop (loopOf Tryz.f9 2))) (flS flR0 (flR1 (FlM b)) false (FlE b) (FlM b) 1 (FlE b - 1075) 0) .normal (flU flR0 (flR1 (FlM b)) false (FlE b) k1 1)) (l4:TSpec Tryz.prog (.block 4 (.loop (loopOf Tryz.f9 4))) (flT flR0 (flR1 (FlM b)) false k1 1 (1075 - FlE b) 0) .normal (flV flR0 (flR1 (FlM b)) false k d)) (h0:decide ((0:Int) < (↑(b/(4503599627370496:Nat)):Int))=false):CSpec Tryz.prog 9 #[(.int .u64 ((b:Nat):Int))] (Rv (mkRat (sgn false k) d)):=by
  exact fn_ok Tryz.func9 (sc:=[(1,1,.is (.c (.int .u64 (0:Int)))),(1,4,.is (.c (.int .u64 ((↑(b/(4503599627370496:Nat)):Int))))),(1,5,.is (.c (.int .u64 ((↑(b/(4503599627370496:Nat)):Int))))),(1,6,.is (.c (.int .i64 ((↑(b/(4503599627370496:Nat)):Int))))),(1,8,.is (.c (.int .u64 ((↑(b%(4503599627370496:Nat)):Int))))),(1,11,.is (.c (.int .u64 ((↑(FlM b):Int))))),(2,1,.is (.c (.bool false))),(4,0,.is (.c (.int .i64 ((↑(FlE b):Int))))),(11,1,.fix (.string (strOfNums (f8 (FlM b))))),(11,2,.fix (.string (M.B (FlM b)))),(11,4,.is (.c (.string (M.B (1:Nat))))),(12,1,.is (.c (.int .i64 ((↑(FlE b):Int) - (1075:Int))))),(12,2,.is (.c (.int .i64 ((↑(FlE b - (1075:Nat)):Int))))),(2,99999,.mask (mask 78 0 [2,3,4,8,9,44,45])),(16,1,.is (.c (.int .i64 ((1075:Int) - (↑(FlE b):Int))))),(16,2,.is (.c (.int .i64 ((↑((1075:Nat) - FlE b):Int))))),(4,99999,.mask (mask 78 0 [2,3,8,9,53,54])),(22,8,.fix (Rv (mkRat (sgn false k) d)))]++flt_sc b) (sb:=[(2,.normal,flU flR0 (flR1 (FlM b)) false (FlE b) k1 1),(4,.normal,flV flR0 (flR1 (FlM b)) false k d)]) (by kernel_rfl) (hP (shr63 (b:=b) (by omega)) (hP (shr52 (b:=b)) (hP (vU_of ((u64and (x:=b/4503599627370496) 11 (by omega) (by decide)).trans (ncg (Nat.mod_eq_of_lt (by omega))))) (hP (vI_of (wi64 (k:=b/4503599627370496) (by omega))) (hP (vU_of (u64and (x:=b) 52 (by omega) (by decide))) (hP (vU_of (ncg (flm_n h0).symm)) (hP (isB h0) (hP (vI_of (ncg (fle_n h0).symm)) ((flt_run b).down _ (hC (bare8 (m:=FlM b) (by omega)) (hP (congrArg (fun x=>V.c (.string x)) B_one1.symm) (hP (vI_of (wi64i (x:=(FlE b:Int) - 1075) (by omega) (by omega))) (hP (vI_of (max0 (FlE b) 1075)) (hP (show Flat [some ⟨Bool.true,nv [[.bool false],[.string ({ data:=#[] })],[.string ({ data:=#[] })]]⟩,some ⟨Bool.true,nv [[.int .u8 ((↑(FlM b/(72057594037927936:Nat)%(256:Nat)):Int))],[.int .u8 ((↑(FlM b/(281474976710656:Nat)%(256:Nat)):Int))],[.int .u8 ((↑(FlM b/(1099511627776:Nat)%(256:Nat)):Int))],[.int .u8 ((↑(FlM b/(4294967296:Nat)%(256:Nat)):Int))],[.int .u8 ((↑(FlM b/(16777216:Nat)%(256:Nat)):Int))],[.int .u8 ((↑(FlM b/(65536:Nat)%(256:Nat)):Int))],[.int .u8 ((↑(FlM b/(256:Nat)%(256:Nat)):Int))],[.int .u8 ((↑(FlM b/(1:Nat)%(256:Nat)):Int))]]⟩] from (flk rfl (flk rfl trivial))) (hP (l2) (hP (vI_of (wi64i (x:=1075 - (FlE b:Int)) (by omega) (by omega))) (hP (vI_of (max0 1075 (FlE b))) (hP (show Flat [some ⟨Bool.true,nv [[.bool false],[.string ({ data:=#[] })],[.string ({ data:=#[] })]]⟩,some ⟨Bool.true,nv [[.int .u8 ((↑(FlM b/(72057594037927936:Nat)%(256:Nat)):Int))],[.int .u8 ((↑(FlM b/(281474976710656:Nat)%(256:Nat)):Int))],[.int .u8 ((↑(FlM b/(1099511627776:Nat)%(256:Nat)):Int))],[.int .u8 ((↑(FlM b/(4294967296:Nat)%(256:Nat)):Int))],[.int .u8 ((↑(FlM b/(16777216:Nat)%(256:Nat)):Int))],[.int .u8 ((↑(FlM b/(65536:Nat)%(256:Nat)):Int))],[.int .u8 ((↑(FlM b/(256:Nat)%(256:Nat)):Int))],[.int .u8 ((↑(FlM b/(1:Nat)%(256:Nat)):Int))]]⟩] from (flk rfl (flk rfl trivial))) (hP (l4) (hC (rat_k (s:=false) hz hd (by decide +kernel) hd0) hN))))))))))))))))))))
theorem fl_fin {b k d:Nat} (h:(k:Rat)/(d:Rat)=((FlM b*2^(FlE b - 1075):Nat):Rat)/((1:Nat):Rat)/((2^(1075 - FlE b):Nat):Rat)):(k:Rat)/(d:Rat)=Fl b:=by
  rw [h]
  unfold Fl
  have e1:((1:Nat):Rat)=1:=rfl
  rw [e1,Rat.natCast_mul]
  split
  · rename_i g
    rw [show 1075 - FlE b=0 by omega]
    have e2:((2^0:Nat):Rat)=1:=rfl
    rw [e2]
    grind
  rename_i g
  rw [show FlE b - 1075=0 by omega]
  have e2:((2^0:Nat):Rat)=1:=rfl
  rw [e2]
  grind
theorem pw_lt {m a b d:Nat} (hm:m < 2^a) (h:a+b≤8*d):m*2^b < 256^d:=by
  have e:256^d=2^(8*d):=by rw [Nat.pow_mul]
  rw [e]
  refine Nat.lt_of_lt_of_le (Nat.mul_lt_mul_of_pos_right hm (Nat.pow_pos (by decide))) ?_
  rw [← Nat.pow_add]
  exact Nat.pow_le_pow_right (by decide) h
theorem szn_of {m a b d:Nat} (hm:m < 2^a) (h:a+b≤8*d):SzN (m*2^b) d:=by
  unfold SzN
  exact pw_lt hm h
theorem fl_big {b:Nat} (hb:b≤9218868437227405312):SzN (FlM b*2^(FlE b - 1075)) 300 :=
  szn_of (a:=53) (FlM_lt b) (by have:=FlE_le hb; omega)
theorem flt_k {b:Nat} (hb:b≤9218868437227405312):CSpec Tryz.prog 9 #[.int .u64 (b:Int)] (Rv (Fl b)):=by
  have hm:=FlM_lt b
  have he:=FlE_le hb
  have hz:=fl_big hb
  have l2:=fun e=>(fl_l2 (fl_flat (FlM b)) false e 1 (FlE b - 1075) (by omega) (FlE b - 1075) 0 (FlM b) (by omega) hz).spec
  have hp:SzN (1*2^(1075 - FlE b)) 300:=szn_of (a:=1) (by decide) (by omega)
  obtain ⟨k,d,hr,z1,z2,d0,hq,_⟩:=fl_l4 (fl_flat (FlM b)) false (1075 - FlE b) (by omega) (1075 - FlE b) 0 _ 1 (by omega) hz hp (by decide)
  have l4:=hr.spec
  have e:mkRat (sgn false k) d=Fl b:=by
    rw [Rat.mkRat_eq_div]
    show ((k:Int):Rat)/(d:Rat)=Fl b
    rw [Rat.intCast_natCast]
    exact fl_fin hq
  rw [← e]
  cases h0:decide ((0:Int) < ((b/4503599627370496:Nat):Int)) with
  | true=>exact flt1 hb hm he z1 z2 d0 (l2 _) l4 h0
  | false=>exact flt2 hb hm he z1 z2 d0 (l2 _) l4 h0
theorem fltn1 {b k1 k d:Nat} (hb:b≤9218868437227405312) (hm:FlM b < 9007199254740992) (he:FlE b≤2047) (hz:SzN k 300) (hd:SzN d 300) (hd0:d≠0) (l2:TSpec Tryz.prog (.block 2 (.loop (loopOf Tryz.f9 2))) (flS flR0 (flR1 (FlM b)) true (b/4503599627370496) (FlM b) 1 (FlE b - 1075) 0) .normal (flU flR0 (flR1 (FlM b)) true (b/4503599627370496) k1 1)) (l4:TSpec Tryz.prog (.block 4 (.loop (loopOf Tryz.f9 4))) (flT flR0 (flR1 (FlM b)) true k1 1 (1075 - FlE b) 0) .normal (flV flR0 (flR1 (FlM b)) true k d)) (h0:decide ((0:Int) < (↑(b/(4503599627370496:Nat)):Int))=true):CSpec Tryz.prog 9 #[(.int .u64 ((b+9223372036854775808:Nat):Int))] (Rv (mkRat (sgn (!ByteArray.toList (M.B k)==ByteArray.toList { data:=#[] }) k) d)):=by
  exact fn_ok Tryz.func9 (sc:=[(1,1,.is (.c (.int .u64 (1:Int)))),(1,4,.is (.c (.int .u64 ((↑(b/(4503599627370496:Nat)+(2048:Nat)):Int))))),(1,5,.is (.c (.int .u64 ((↑(b/(4503599627370496:Nat)):Int))))),(1,6,.is (.c (.int .i64 ((↑(b/(4503599627370496:Nat)):Int))))),(1,8,.is (.c (.int .u64 ((↑(b%(4503599627370496:Nat)):Int))))),(2,1,.is (.c (.bool true))),(3,1,.is (.c (.int .u64 ((↑(b%(4503599627370496:Nat)+(4503599627370496:Nat)):Int))))),(3,2,.is (.c (.int .u64 ((↑(FlM b):Int))))),(11,1,.fix (.string (strOfNums (f8 (FlM b))))),(11,2,.fix (.string (M.B (FlM b)))),(11,4,.is (.c (.string (M.B (1:Nat))))),(12,0,.is (.c (.int .i64 ((↑(FlE b):Int))))),(12,1,.is (.c (.int .i64 ((↑(FlE b):Int) - (1075:Int))))),(12,2,.is (.c (.int .i64 ((↑(FlE b - (1075:Nat)):Int))))),(2,99999,.mask (mask 78 0 [2,3,4,8,9,44,45])),(16,0,.is (.c (.int .i64 ((↑(FlE b):Int))))),(16,1,.is (.c (.int .i64 ((1075:Int) - (↑(FlE b):Int))))),(16,2,.is (.c (.int .i64 ((↑((1075:Nat) - FlE b):Int))))),(4,99999,.mask (mask 78 0 [2,3,8,9,53,54])),(22,8,.fix (Rv (mkRat (sgn (!ByteArray.toList (M.B k)==ByteArray.toList { data:=#[] }) k) d)))]++flt_sc b) (sb:=[(2,.normal,flU flR0 (flR1 (FlM b)) true (b/4503599627370496) k1 1),(4,.normal,flV flR0 (flR1 (FlM b)) true k d)]) (by kernel_rfl) (hP (shr63b (b:=b) (by omega)) (hP (shr52p (m:=b)) (hP (vU_of ((u64and (x:=b/4503599627370496+2048) 11 (by omega) (by decide)).trans (ncg (j:=b/4503599627370496) (by show _%2048=_; omega)))) (hP (vI_of (wi64 (k:=b/4503599627370496) (by omega))) (hP (vU_of ((u64and (x:=b+9223372036854775808) 52 (by omega) (by decide)).trans (ncg (j:=b%4503599627370496) (by show _%4503599627370496=_; omega)))) (hP (isB h0) (hP (vU_of (wu64 (x:=b%4503599627370496) (y:=4503599627370496) (by omega))) (hP (vU_of (ncg (flm_p h0).symm)) ((flt_run b).down _ (hC (bare8 (m:=FlM b) (by omega)) (hP (congrArg (fun x=>V.c (.string x)) B_one1.symm) (hP (vI_of (ncg (fle_p h0).symm)) (hP (vI_of (wi64i (x:=(FlE b:Int) - 1075) (by omega) (by omega))) (hP (vI_of (max0 (FlE b) 1075)) (hP (show Flat [some ⟨Bool.true,nv [[.bool false],[.string ({ data:=#[] })],[.string ({ data:=#[] })]]⟩,some ⟨Bool.true,nv [[.int .u8 ((↑(FlM b/(72057594037927936:Nat)%(256:Nat)):Int))],[.int .u8 ((↑(FlM b/(281474976710656:Nat)%(256:Nat)):Int))],[.int .u8 ((↑(FlM b/(1099511627776:Nat)%(256:Nat)):Int))],[.int .u8 ((↑(FlM b/(4294967296:Nat)%(256:Nat)):Int))],[.int .u8 ((↑(FlM b/(16777216:Nat)%(256:Nat)):Int))],[.int .u8 ((↑(FlM b/(65536:Nat)%(256:Nat)):Int))],[.int .u8 ((↑(FlM b/(256:Nat)%(256:Nat)):Int))],[.int .u8 ((↑(FlM b/(1:Nat)%(256:Nat)):Int))]]⟩] from (flk rfl (flk rfl trivial))) (hP (l2) (hP (vI_of (ncg (fle_p h0).symm)) (hP (vI_of (wi64i (x:=1075 - (FlE b:Int)) (by omega) (by omega))) (hP (vI_of (max0 1075 (FlE b))) (hP (show Flat [some ⟨Bool.true,nv [[.bool false],[.string ({ data:=#[] })],[.string ({ data:=#[] })]]⟩,some ⟨Bool.true,nv [[.int .u8 ((↑(FlM b/(72057594037927936:Nat)%(256:Nat)):Int))],[.int .u8 ((↑(FlM b/(281474976710656:Nat)%(256:Nat)):Int))],[.int .u8 ((↑(FlM b/(1099511627776:Nat)%(256:Nat)):Int))],[.int .u8 ((↑(FlM b/(4294967296:Nat)%(256:Nat)):Int))],[.int .u8 ((↑(FlM b/(16777216:Nat)%(256:Nat)):Int))],[.int .u8 ((↑(FlM b/(65536:Nat)%(256:Nat)):Int))],[.int .u8 ((↑(FlM b/(256:Nat)%(256:Nat)):Int))],[.int .u8 ((↑(FlM b/(1:Nat)%(256:Nat)):Int))]]⟩] from (flk rfl (flk rfl trivial))) (hP (l4) (hC (rat_k (s:=!ByteArray.toList (M.B k)==ByteArray.toList { data:=#[] }) hz hd (by decide +kernel) hd0) hN))))))))))))))))))))))
theorem fltn2 {b k1 k d:Nat} (hb:b≤9218868437227405312) (hm:FlM b < 9007199254740992) (he:FlE b≤2047) (hz:SzN k 300) (hd:SzN d 300) (hd0:d≠0) (l2:TSpec Tryz.prog (.block 2 (.loop (loopOf Tryz.f9 2))) (flS flR0 (flR1 (FlM b)) true (FlE b) (FlM b) 1 (FlE b - 1075) 0) .normal (flU flR0 (flR1 (FlM b)) true (FlE b) k1 1)) (l4:TSpec Tryz.prog (.block 4 (.loop (loopOf Tryz.f9 4))) (flT flR0 (flR1 (FlM b)) true k1 1 (1075 - FlE b) 0) .normal (flV flR0 (flR1 (FlM b)) true k d)) (h0:decide ((0:Int) < (↑(b/(4503599627370496:Nat)):Int))=false):CSpec Tryz.prog 9 #[(.int .u64 ((b+9223372036854775808:Nat):Int))] (Rv (mkRat (sgn (!ByteArray.toList (M.B k)==ByteArray.toList { data:=#[] }) k) d)):=by
  exact fn_ok Tryz.func9 (sc:=[(1,1,.is (.c (.int .u64 (1:Int)))),(1,4,.is (.c (.int .u64 ((↑(b/(4503599627370496:Nat)+(2048:Nat)):Int))))),(1,5,.is (.c (.int .u64 ((↑(b/(4503599627370496:Nat)):Int))))),(1,6,.is (.c (.int .i64 ((↑(b/(4503599627370496:Nat)):Int))))),(1,8,.is (.c (.int .u64 ((↑(b%(4503599627370496:Nat)):Int))))),(1,11,.is (.c (.int .u64 ((↑(FlM b):Int))))),(2,1,.is (.c (.bool false))),(4,0,.is (.c (.int .i64 ((↑(FlE b):Int))))),(11,1,.fix (.string (strOfNums (f8 (FlM b))))),(11,2,.fix (.string (M.B (FlM b)))),(11,4,.is (.c (.string (M.B (1:Nat))))),(12,1,.is (.c (.int .i64 ((↑(FlE b):Int) - (1075:Int))))),(12,2,.is (.c (.int .i64 ((↑(FlE b - (1075:Nat)):Int))))),(2,99999,.mask (mask 78 0 [2,3,4,8,9,44,45])),(16,1,.is (.c (.int .i64 ((1075:Int) - (↑(FlE b):Int))))),(16,2,.is (.c (.int .i64 ((↑((1075:Nat) - FlE b):Int))))),(4,99999,.mask (mask 78 0 [2,3,8,9,53,54])),(22,8,.fix (Rv (mkRat (sgn (!ByteArray.toList (M.B k)==ByteArray.toList { data:=#[] }) k) d)))]++flt_sc b) (sb:=[(2,.normal,flU flR0 (flR1 (FlM b)) true (FlE b) k1 1),(4,.normal,flV flR0 (flR1 (FlM b)) true k d)]) (by kernel_rfl) (hP (shr63b (b:=b) (by omega)) (hP (shr52p (m:=b)) (hP (vU_of ((u64and (x:=b/4503599627370496+2048) 11 (by omega) (by decide)).trans (ncg (j:=b/4503599627370496) (by show _%2048=_; omega)))) (hP (vI_of (wi64 (k:=b/4503599627370496) (by omega))) (hP (vU_of ((u64and (x:=b+9223372036854775808) 52 (by omega) (by decide)).trans (ncg (j:=b%4503599627370496) (by show _%4503599627370496=_; omega)))) (hP (vU_of (ncg (flm_n h0).symm)) (hP (isB h0) (hP (vI_of (ncg (fle_n h0).symm)) ((flt_run b).down _ (hC (bare8 (m:=FlM b) (by omega)) (hP (congrArg (fun x=>V.c (.string x)) B_one1.symm) (hP (vI_of (wi64i (x:=(FlE b:Int) - 1075) (by omega) (by omega))) (hP (vI_of (max0 (FlE b) 1075)) (hP (show Flat [some ⟨Bool.true,nv [[.bool false],[.string ({ data:=#[] })],[.string ({ data:=#[] })]]⟩,some ⟨Bool.true,nv [[.int .u8 ((↑(FlM b/(72057594037927936:Nat)%(256:Nat)):Int))],[.int .u8 ((↑(FlM b/(281474976710656:Nat)%(256:Nat)):Int))],[.int .u8 ((↑(FlM b/(1099511627776:Nat)%(256:Nat)):Int))],[.int .u8 ((↑(FlM b/(4294967296:Nat)%(256:Nat)):Int))],[.int .u8 ((↑(FlM b/(16777216:Nat)%(256:Nat)):Int))],[.int .u8 ((↑(FlM b/(65536:Nat)%(256:Nat)):Int))],[.int .u8 ((↑(FlM b/(256:Nat)%(256:Nat)):Int))],[.int .u8 ((↑(FlM b/(1:Nat)%(256:Nat)):Int))]]⟩] from (flk rfl (flk rfl trivial))) (hP (l2) (hP (vI_of (wi64i (x:=1075 - (FlE b:Int)) (by omega) (by omega))) (hP (vI_of (max0 1075 (FlE b))) (hP (show Flat [some ⟨Bool.true,nv [[.bool false],[.string ({ data:=#[] })],[.string ({ data:=#[] })]]⟩,some ⟨Bool.true,nv [[.int .u8 ((↑(FlM b/(72057594037927936:Nat)%(256:Nat)):Int))],[.int .u8 ((↑(FlM b/(281474976710656:Nat)%(256:Nat)):Int))],[.int .u8 ((↑(FlM b/(1099511627776:Nat)%(256:Nat)):Int))],[.int .u8 ((↑(FlM b/(4294967296:Nat)%(256:Nat)):Int))],[.int .u8 ((↑(FlM b/(16777216:Nat)%(256:Nat)):Int))],[.int .u8 ((↑(FlM b/(65536:Nat)%(256:Nat)):Int))],[.int .u8 ((↑(FlM b/(256:Nat)%(256:Nat)):Int))],[.int .u8 ((↑(FlM b/(1:Nat)%(256:Nat)):Int))]]⟩] from (flk rfl (flk rfl trivial))) (hP (l4) (hC (rat_k (s:=!ByteArray.toList (M.B k)==ByteArray.toList { data:=#[] }) hz hd (by decide +kernel) hd0) hN))))))))))))))))))))
theorem fltn_k {b:Nat} (hb:b≤9218868437227405312):CSpec Tryz.prog 9 #[.int .u64 ((b+9223372036854775808:Nat):Int)] (Rv (-Fl b)):=by
  have hm:=FlM_lt b
  have he:=FlE_le hb
  have hz:=fl_big hb
  have l2:=fun e=>(fl_l2 (fl_flat (FlM b)) true e 1 (FlE b - 1075) (by omega) (FlE b - 1075) 0 (FlM b) (by omega) hz).spec
  have hp:SzN (1*2^(1075 - FlE b)) 300:=szn_of (a:=1) (by decide) (by omega)
  obtain ⟨k,d,hr,z1,z2,d0,hq,_⟩:=fl_l4 (fl_flat (FlM b)) true (1075 - FlE b) (by omega) (1075 - FlE b) 0 _ 1 (by omega) hz hp (by decide)
  have l4:=hr.spec
  have e:mkRat (sgn (!(M.B k).toList==ByteArray.toList ⟨#[]⟩) k) d = -Fl b:=by
    have e1:sgn (!(M.B k).toList==ByteArray.toList ⟨#[]⟩) k = -(k:Int):=by
      rw [str_neq]
      by_cases hk:k=0
      · subst hk
        simp [sgn]
      rw [decide_eq_true (B_ne hk)]
      simp [sgn]
    rw [e1,Rat.mkRat_eq_div,← fl_fin hq,Rat.intCast_neg]
    show -((k:Int):Rat)/(d:Rat) = -((k:Rat)/(d:Rat))
    rw [Rat.intCast_natCast,Rat.div_def,Rat.div_def,Rat.neg_mul]
  rw [← e]
  cases h0:decide ((0:Int) < ((b/4503599627370496:Nat):Int)) with
  | true=>exact fltn1 hb hm he z1 z2 d0 (l2 _) l4 h0
  | false=>exact fltn2 hb hm he z1 z2 d0 (l2 _) l4 h0
end Go.Proofs.YtbfpmofhopglfaaGreatDoor.G
end
section
namespace Go.Proofs.YtbfpmofhopglfaaGreatDoor.G
open Go.Proofs.YtbfpmofhopglfaaGreatDoor.U Go.RowKit
theorem fl_div (M E k:Nat):(if k≤E then (M:Rat)*((2^(E - k):Nat):Rat) else (M:Rat)/((2^(k - E):Nat):Rat))=((M*2^E:Nat):Rat)/((2^k:Nat):Rat):=by
  have hk:((2^k:Nat):Rat)≠0:=pwn_s
  have hE:((2^E:Nat):Rat)≠0:=pwn_s
  split
  · rename_i h
    have e:2^E=2^(E - k)*2^k:=by rw [← Nat.pow_add]; congr 1; omega
    rw [e,Rat.natCast_mul,Rat.natCast_mul]
    generalize ((2^(E - k):Nat):Rat)=p at *
    generalize ((2^k:Nat):Rat)=q at *
    grind
  rename_i h
  have e:2^k=2^(k - E)*2^E:=by rw [← Nat.pow_add]; congr 1; omega
  have hq:((2^(k - E):Nat):Rat)≠0:=pwn_s
  rw [e,Rat.natCast_mul,Rat.natCast_mul]
  generalize ((2^(k - E):Nat):Rat)=p at *
  generalize ((2^E:Nat):Rat)=q at *
  grind
theorem FlN_lt (b:Nat):FlM b*2^(FlE b) < FlM (b+1)*2^(FlE (b+1)):=by
  by_cases h:(b+1)%4503599627370496=0
  · have h1:(b+1)/4503599627370496=b/4503599627370496+1:=by omega
    have h2:b%4503599627370496=4503599627370495:=by omega
    have e1:FlE (b+1)=b/4503599627370496+1:=by unfold FlE; rw [if_neg (by omega),h1]
    have e2:FlM (b+1)=4503599627370496:=by unfold FlM; rw [if_neg (by omega),h]
    rw [e1,e2]
    by_cases g:b/4503599627370496=0
    · have e3:FlE b=1:=by unfold FlE; rw [if_pos g]
      have e4:FlM b=4503599627370495:=by unfold FlM; rw [if_pos g,h2]
      rw [e3,e4,g]
      decide
    have e3:FlE b=b/4503599627370496:=by unfold FlE; rw [if_neg g]
    have e4:FlM b=9007199254740991:=by unfold FlM; rw [if_neg g,h2]
    rw [e3,e4,Nat.pow_succ]
    have:=Nat.pow_pos (n:=b/4503599627370496) (show 0 < 2 by decide)
    generalize 2^(b/4503599627370496)=q at *
    omega
  have h1:(b+1)/4503599627370496=b/4503599627370496:=by omega
  have h2:(b+1)%4503599627370496=b%4503599627370496+1:=by omega
  have e1:FlE (b+1)=FlE b:=by unfold FlE; rw [h1]
  have e2:FlM (b+1)=FlM b+1:=by unfold FlM; rw [h1,h2]; split<;>omega
  rw [e1,e2]
  exact Nat.mul_lt_mul_of_pos_right (Nat.lt_succ_self _) (Nat.pow_pos (by decide))
theorem Fl_lt (b:Nat):Fl b < Fl (b+1):=by
  unfold Fl
  rw [fl_div,fl_div,Rat.div_def,Rat.div_def]
  have h:=FlN_lt b
  have hp:(0:Rat) < ((2^1075:Nat):Rat):=by
    have:=Nat.pow_pos (n:=1075) (show 0 < 2 by decide)
    exact Rat.natCast_pos.2 this
  exact Rat.mul_lt_mul_of_pos_right (Rat.natCast_lt_natCast.2 h) (Rat.inv_pos.2 hp)
theorem Fl_zero:Fl 0=0:=by
  unfold Fl
  rw [fl_div]
  have:FlM 0=0:=rfl
  rw [this,Nat.zero_mul]
  show (0:Rat)/_=0
  grind
theorem Fl_mono {a b:Nat} (h:a≤b):Fl a≤Fl b:=by
  obtain ⟨k,rfl⟩:=Nat.exists_eq_add_of_le h
  induction k with
  | zero=>exact Rat.le_refl
  | succ k ih=>exact Rat.le_trans (ih (Nat.le_add_right _ _)) (Rat.le_of_lt (Fl_lt (a+k)))
def hf2 (x y:Rat):Rat:=((1:Int):Rat)/((2:Int):Rat)*(x+y)
theorem anotN {x:Nat} (hx:x < 18446744073709551616):IntKind.wrap .u64 ((BitVec.toNat (BitVec.ofInt (IntKind.bits .u64) (x:Int) &&& ~~~ BitVec.ofInt (IntKind.bits .u64) 9223372036854775808):Nat):Int)=((x%9223372036854775808:Nat):Int):=by
  have e2:BitVec.toNat (~~~ BitVec.ofInt (IntKind.bits .u64) 9223372036854775808)=2^63 - 1:=by decide
  have e:BitVec.toNat (BitVec.ofInt (IntKind.bits .u64) (x:Int) &&& ~~~ BitVec.ofInt (IntKind.bits .u64) 9223372036854775808)=x%2^63:=by
    rw [BitVec.toNat_and,e2,BitVec.ofInt_natCast,BitVec.toNat_ofNat,Nat.mod_eq_of_lt (show x < 2^IntKind.bits .u64 from hx),Nat.and_two_pow_sub_one_eq_mod]
  rw [e,IntKind.wrap_u64]
  omega
theorem anot63 {m:Nat} (h:m < 9223372036854775808):IntKind.wrap .u64 ((BitVec.toNat (BitVec.ofInt (IntKind.bits .u64) (m:Int) &&& ~~~ BitVec.ofInt (IntKind.bits .u64) 9223372036854775808):Nat):Int)=(m:Int):=by
  rw [anotN (by omega),Nat.mod_eq_of_lt h]
theorem su64 {a:Nat} (h:0 < a) (ha:a < 18446744073709551616):IntKind.wrap .u64 ((a:Int) - 1)=((a - 1:Nat):Int):=by
  rw [IntKind.wrap_u64]
  omega
theorem fromp0_k {m:Nat} (hm:m < 9223372036854775808) (hi:m < 9218868437227405312) (hg:decide ((9218868437227405312:Int)≤(m:Int))=false)(hz:decide ((0:Int) < (m:Int))=true) (h18:(↑(1:Int):Rat)/(↑(2:Int):Rat)*(Fl m+Fl (m - (1:Nat)))≤(↑(1:Int):Rat)/(↑(2:Int):Rat)*(Fl m+Fl (m+(1:Nat)))):CSpec Tryz.prog 35 #[(.int .u64 ((m:Nat):Int))] (.tuple #[ag [rc ((↑(1:Int):Rat)/(↑(2:Int):Rat)*(Fl m+Fl (m - (1:Nat)))),rc ((↑(1:Int):Rat)/(↑(2:Int):Rat)*(Fl m+Fl (m+(1:Nat))))],.int .i64 (0:Int)]):=by
  have s0:=(fl_s (b:=m) (by omega))
  have s1:=(isR_s s0)
  have s2:=(fl_s (b:=m+(1:Nat)) (by omega))
  have s3:=(isR_s s2)
  have s4:=(int_s (n:=(1:Int)) (by decide +kernel))
  have s5:=(int_s (n:=(2:Int)) (by decide +kernel))
  have s6:=(div_s s4 s5)
  have s7:=(isR_s s6)
  have s8:=(add_s s0 s2)
  have s9:=(isR_s s8)
  have s10:=(mul_s s6 s8)
  have s11:=(isR_s s10)
  have s12:=(fl_s (b:=m - (1:Nat)) (by omega))
  have s13:=(isR_s s12)
  have s14:=(add_s s0 s12)
  have s15:=(isR_s s14)
  have s16:=(mul_s s6 s14)
  have s17:=(isR_s s16)
  exact fn_ok Tryz.func35 (sc:=[(1,1,.is (.c (.int .u64 (0:Int)))),(1,4,.is (.c (.int .u64 (↑m:Int)))),(2,1,.is (.c (.bool false))),(4,0,.fix (.tuple #[Rv ((↑(1:Int):Rat)/(↑(2:Int):Rat)),.int .i64 (0:Int)])),(5,1,.fix (Rv (Fl m))),(5,3,.is (.c (.int .u64 ((↑(m+(1:Nat)):Int))))),(5,4,.fix (Rv (Fl (m+(1:Nat))))),(6,3,.fix (Rv (Fl m+Fl (m+(1:Nat))))),(6,4,.fix (Rv ((↑(1:Int):Rat)/(↑(2:Int):Rat)*(Fl m+Fl (m+(1:Nat)))))),(7,1,.fix (Rv (-((↑(1:Int):Rat)/(↑(2:Int):Rat)*(Fl m+Fl (m+(1:Nat))))))),(8,1,.is (.c (.bool true))),(9,3,.is (.c (.int .u64 ((↑(m - (1:Nat)):Int))))),(9,4,.fix (Rv (Fl (m - (1:Nat))))),(9,5,.fix (Rv (Fl m+Fl (m - (1:Nat))))),(9,6,.fix (Rv ((↑(1:Int):Rat)/(↑(2:Int):Rat)*(Fl m+Fl (m - (1:Nat)))))),(12,2,.fix (.tuple #[ag [rc ((↑(1:Int):Rat)/(↑(2:Int):Rat)*(Fl m+Fl (m - (1:Nat)))),rc ((↑(1:Int):Rat)/(↑(2:Int):Rat)*(Fl m+Fl (m+(1:Nat))))],.int .i64 (0:Int)]))]) (sb:=[]) (by kernel_rfl) (hP (shr63 (b:=m) (by omega)) (hP (vU_of (anot63 (m:=m) (by omega))) (hP (isB hg) (hC (make_k (n:=(1:Int)) (m:=(2:Int)) (by decide +kernel) (by decide +kernel) (by decide +kernel) (by decide +kernel) (by decide +kernel)) (hC (exact_k (b:=m) (by omega)) (hP (vU_of (wu64 (x:=m) (y:=1) (by omega))) (hC (exact_k (b:=m+(1:Nat)) (by omega)) (hC (add_k s1 s3 (by decide +kernel)) (hC (mul_k s7 s9 (by decide +kernel)) (hC (neg_k s11 (by decide +kernel)) (hP (isB hz) (hP (vU_of (su64 (a:=m) (by have:=of_decide_eq_true hz; omega) (by omega))) (hC (exact_k (b:=m - (1:Nat)) (by omega)) (hC (add_k s1 s13 (by decide +kernel)) (hC (mul_k s7 s15 (by decide +kernel)) (hC (smakea_k s17 (by decide +kernel) s11 (by decide +kernel) h18) hN))))))))))))))))
theorem fone_k:CSpec Tryz.prog 35 #[.int .u64 4607182418800017408] (.tuple #[ag [rc ((18014398509481983:Rat)/18014398509481984),rc ((9007199254740993:Rat)/9007199254740992)],.int .i64 0]):=by
  have h:=fromp0_k (m:=4607182418800017408) (by decide) (by decide) (by decide) (by decide) (by decide +kernel)
  rw [show ((1:Int):Rat)/((2:Int):Rat)*(Fl 4607182418800017408+Fl (4607182418800017408 - 1))=(18014398509481983:Rat)/18014398509481984 by decide +kernel,show ((1:Int):Rat)/((2:Int):Rat)*(Fl 4607182418800017408+Fl (4607182418800017408+1))=(9007199254740993:Rat)/9007199254740992 by decide +kernel] at h
  exact h
theorem cz0_s:Sz (18014398509481983:Rat) 8:=⟨by decide +kernel,by decide +kernel⟩
theorem cz1_s:Sz (18014398509481984:Rat) 8:=⟨by decide +kernel,by decide +kernel⟩
theorem cz2_s:Sz (9007199254740993:Rat) 8:=⟨by decide +kernel,by decide +kernel⟩
theorem cz3_s:Sz (9007199254740992:Rat) 8:=⟨by decide +kernel,by decide +kernel⟩
theorem borderBegun_k    : CSpec Tryz.prog 6 #[] (.bool true):=by
  have s0:=cz0_s
  have s1:=cz1_s
  have s2:=(div_s s0 s1)
  have s3:=cz2_s
  have s4:=cz3_s
  have s5:=(div_s s3 s4)
  have s6:=(isS_s s2 s5 (by decide +kernel) (by decide +kernel))
  have s7:=(int_s (n:=(1:Int)) (by decide +kernel))
  have s8:=(div_s s7 s7)
  have s9:=(isR_s s8)
  have s10:=(int_s (n:=(2:Int)) (by decide +kernel))
  have s11:=(div_s s10 s7)
  have s12:=(isR_s s11)
  exact fn_ok Tryz.func6 (sc:=[(1,0,.fix (.tuple #[ag [rc (18014398509481983/18014398509481984:Rat),rc (9007199254740993/9007199254740992:Rat)],.int .i64 (0:Int)])),(2,0,.fix (.bool true)),(2,7,.fix (Rv ((↑(1:Int):Rat)/(↑(1:Int):Rat)))),(2,8,.fix (.bool true)),(2,12,.fix (Rv ((↑(2:Int):Rat)/(↑(1:Int):Rat)))),(2,13,.fix (.bool false))]) (sb:=[]) (by kernel_rfl) (hC fone_k (hC spanBegun_k (hC (num_k (n:=(1:Int)) (m:=(1:Int)) (by decide +kernel) (by decide +kernel) (by decide +kernel) (by decide +kernel) (by decide +kernel)) (hC (shas_k s6 s2 s5 (by decide +kernel) (by decide +kernel) s9 (by decide +kernel)) (hC (num_k (n:=(2:Int)) (m:=(1:Int)) (by decide +kernel) (by decide +kernel) (by decide +kernel) (by decide +kernel) (by decide +kernel)) (hC (shas_k s6 s2 s5 (by decide +kernel) (by decide +kernel) s12 (by decide +kernel)) hN))))))
end Go.Proofs.YtbfpmofhopglfaaGreatDoor.G
end
section
namespace Go.Proofs.YtbfpmofhopglfaaGreatDoor.G
open Go.Proofs.YtbfpmofhopglfaaGreatDoor.U Go.RowKit
theorem rltle {a b c:Rat} (h:a < b) (k:b≤c):a < c:=by grind
theorem rlelt {a b c:Rat} (h:a≤b) (k:b < c):a < c:=by grind
structure IsU (x:Rat) (r:Nat):Prop where
  lt:r < 9218868437227405312
  le:Fl r≤x
  gt:x < Fl (r+1)
theorem IsU.mid {x:Rat} {r k:Nat} (h:IsU x r):Fl k≤x↔k≤r:=by
  constructor
  · intro hk
    rcases Nat.lt_or_ge r k with g | g
    · exact absurd (rltle h.gt (Rat.le_trans (Fl_mono g) hk)) (Rat.lt_irrefl)
    exact g
  intro hk
  exact Rat.le_trans (Fl_mono hk) h.le
theorem isU_ex {x:Rat} (h0:0≤x) (h1:x < Fl 9218868437227405312):∃ r,IsU x r:=by
  have key:∀ n,Fl n≤x ∨ ∃ r,r < n∧Fl r≤x∧x < Fl (r+1):=by
    intro n
    induction n with
    | zero=>exact .inl (by rw [Fl_zero]; exact h0)
    | succ n ih =>
      rcases ih with ih | ⟨r,a,b,c⟩
      · rcases Rat.le_total (a:=Fl (n+1)) (b:=x) with g | g
        · exact .inl g
        rcases Rat.le_iff_lt_or_eq.1 g with g | g
        · exact .inr ⟨n,Nat.lt_succ_self n,ih,g⟩
        exact .inl (by rw [g]; exact Rat.le_refl)
      exact .inr ⟨r,Nat.lt_succ_of_lt a,b,c⟩
  rcases key 9218868437227405312 with g | ⟨r,a,b,c⟩
  · exact absurd (rltle h1 g) Rat.lt_irrefl
  exact ⟨r,a,b,c⟩
def unS (n:Bool) (a b:ByteArray) (lo hi:Nat):St:=⟨slots 22 0 [(1,.p 0 0),(3,.c (.int .u64 (lo:Int))),(4,.c (.int .u64 (hi:Int)))],[some ⟨true,nv [rr n a b]⟩]⟩
def unE (n:Bool) (a b:ByteArray) (r:Nat):St:=⟨slots 22 0 [(3,.c (.int .u64 (r:Int)))],[some ⟨true,nv [rr n a b]⟩]⟩
theorem un_flat (n:Bool) (a b:ByteArray):Flat [some ⟨true,nv [rr n a b]⟩]:=flk flnv trivial
theorem quo2 {k:Nat} (h:k < 18446744073709551616):IntKind.wrap .u64 (Int.tdiv (k:Int) 2)=((k/2:Nat):Int):=by
  rw [show Int.tdiv (k:Int) 2=((k/2:Nat):Int) from rfl,IntKind.wrap_u64]
  omega
theorem un_a {n:Bool} {a b:ByteArray} {x:Rat} {K lo hi:Nat} (h':IsR n a b x K) (k1:K≤100000000) (hh:hi≤9218868437227405312) (h1:lo+1 < hi) (hl:decide (((lo+1:Nat):Int) < (hi:Int))=true) (hc:decide (cmpR (Fl ((lo+hi)/2)) x≤0)=true)  : TSpec Tryz.prog (loopOf Tryz.f45 0) (unS n a b lo hi) (.normal) (unS n a b ((lo+hi)/2) hi):=by
  have s0:=(fl_s (b:=(lo+hi)/(2:Nat)) (by omega))
  have s1:=(isR_s s0)
  exact tspec_dim (mask 22 0 [1,3,4]) 1 (sc:=[(2,1,.is (.c (.int .u64 ((↑(lo+(1:Nat)):Int))))),(2,3,.is (.c (.bool true))),(3,2,.is (.c (.int .u64 ((↑(lo+hi):Int))))),(3,3,.is (.c (.int .u64 ((↑((lo+hi)/(2:Nat)):Int))))),(4,1,.fix (Rv (Fl ((lo+hi)/(2:Nat))))),(4,3,.fix (.int .i64 (cmpR (Fl ((lo+hi)/(2:Nat))) x))),(4,4,.is (.c (.bool true)))]) (sb:=[]) (by kernel_rfl) (hP (vU_of (wu64 (x:=lo) (y:=1) (by omega))) (hP (isB hl) (hP (vU_of (wu64 (x:=lo) (y:=hi) (by omega))) (hP (vU_of (quo2 (k:=lo+hi) (by omega))) (hC (exact_k (b:=(lo+hi)/(2:Nat)) (by omega)) (hC (cmp_k s1 h' (by omega)) (hP (isB hc) hN))))))) (un_flat n a b)
theorem un_b {n:Bool} {a b:ByteArray} {x:Rat} {K lo hi:Nat} (h':IsR n a b x K) (k1:K≤100000000) (hh:hi≤9218868437227405312) (h1:lo+1 < hi) (hl:decide (((lo+1:Nat):Int) < (hi:Int))=true) (hc:decide (cmpR (Fl ((lo+hi)/2)) x≤0)=false)  : TSpec Tryz.prog (loopOf Tryz.f45 0) (unS n a b lo hi) (.normal) (unS n a b lo ((lo+hi)/2)):=by
  have s0:=(fl_s (b:=(lo+hi)/(2:Nat)) (by omega))
  have s1:=(isR_s s0)
  exact tspec_dim (mask 22 0 [1,3,4]) 1 (sc:=[(2,1,.is (.c (.int .u64 ((↑(lo+(1:Nat)):Int))))),(2,3,.is (.c (.bool true))),(3,2,.is (.c (.int .u64 ((↑(lo+hi):Int))))),(3,3,.is (.c (.int .u64 ((↑((lo+hi)/(2:Nat)):Int))))),(4,1,.fix (Rv (Fl ((lo+hi)/(2:Nat))))),(4,3,.fix (.int .i64 (cmpR (Fl ((lo+hi)/(2:Nat))) x))),(4,4,.is (.c (.bool false)))]) (sb:=[]) (by kernel_rfl) (hP (vU_of (wu64 (x:=lo) (y:=1) (by omega))) (hP (isB hl) (hP (vU_of (wu64 (x:=lo) (y:=hi) (by omega))) (hP (vU_of (quo2 (k:=lo+hi) (by omega))) (hC (exact_k (b:=(lo+hi)/(2:Nat)) (by omega)) (hC (cmp_k s1 h' (by omega)) (hP (isB hc) hN))))))) (un_flat n a b)
theorem un_c {n:Bool} {a b:ByteArray} {x:Rat} {K lo hi:Nat} (h':IsR n a b x K) (k1:K≤100000000) (hh:hi≤9218868437227405312) (h1:lo≤hi) (hl:decide (((lo+1:Nat):Int) < (hi:Int))=false)  : TSpec Tryz.prog (loopOf Tryz.f45 0) (unS n a b lo hi) (.exit 0) (unE n a b lo):=by
  exact tspec_dim (mask 22 0 [3]) 1 (sc:=[(2,1,.is (.c (.int .u64 ((↑(lo+(1:Nat)):Int))))),(2,3,.is (.c (.bool false)))]) (sb:=[]) (by kernel_rfl) (hP (vU_of (wu64 (x:=lo) (y:=1) (by omega))) (hP (isB hl) hN)) (un_flat n a b)
theorem un_loop {n:Bool} {a b:ByteArray} {x:Rat} {K r:Nat} (h':IsR n a b x K) (k1:K≤100000000) (hr:IsU x r):∀ fuel lo hi,hi - lo≤fuel→lo≤r→r < hi→hi≤9218868437227405312→Rounds Tryz.prog (loopOf Tryz.f45 0) 0 (unS n a b lo hi) .normal (unE n a b r)
  | 0,lo,hi,h0,h1,h2,h3=>by omega
  | fuel+1,lo,hi,h0,h1,h2,h3=>by
    by_cases hl:lo+1 < hi
    · have hd:decide (((lo+1:Nat):Int) < (hi:Int))=true:=decide_eq_true (by omega)
      by_cases hm:(lo+hi)/2≤r
      · exact .step (un_a h' k1 h3 hl hd (decide_eq_true (cmpR_le.2 (hr.mid.2 hm)))) (un_loop h' k1 hr fuel _ hi (by omega) hm h2 h3)
      exact .step (un_b h' k1 h3 hl hd (decide_eq_false (fun h=>hm (hr.mid.1 (cmpR_le.1 h))))) (un_loop h' k1 hr fuel lo _ (by omega) h1 (by omega) (by omega))
    have e:lo=r:=by omega
    subst e
    exact .stop (un_c h' k1 h3 (by omega) (decide_eq_false (by omega)))
def IsO (x:Rat) (o:Nat):Prop:=∃ r,IsU x r∧o=if Fl r < x then r+1 else r
theorem under_w {n:Bool} {a b:ByteArray} {x:Rat} {K r:Nat} (h':IsR n a b x K) (k1:K≤100000000) (l0:TSpec Tryz.prog (.block 0 (.loop (loopOf Tryz.f45 0))) (unS n a b 0 9218868437227405312) .normal (unE n a b r))  : CSpec Tryz.prog 45 #[(rv n a b)] (.int .u64 (↑r:Int)):=by
  exact fn_ok Tryz.func45 (sc:=[(0,99999,.mask (mask 22 0 [1,3,4]))]) (sb:=[(0,.normal,unE n a b r)]) (by kernel_rfl) (hP (show Flat [some ⟨Bool.true,nv [[.bool n],[.string a],[.string b]]⟩] from (flk rfl trivial)) (hP (l0) hN))
theorem under_k {n:Bool} {a b:ByteArray} {x:Rat} {K r:Nat} (h':IsR n a b x K) (k1:K≤100000000) (hr:IsU x r):CSpec Tryz.prog 45 #[rv n a b] (.int .u64 (r:Int)) :=
  under_w h' k1 (un_loop h' k1 hr 9218868437227405312 0 _ (Nat.le_refl _) (Nat.zero_le _) hr.lt (Nat.le_refl _)).spec
theorem over1 {n:Bool} {a b:ByteArray} {x:Rat} {K r:Nat} (h':IsR n a b x K) (k1:K≤100000000) (hr:IsU x r) (hi:r < 9218868437227405312) (h2:decide (cmpR (Fl r) x < (0:Int))=true):CSpec Tryz.prog 47 #[(rv n a b)] (.int .u64 ((↑(r+(1:Nat)):Int))):=by
  have s0:=(fl_s (b:=r) (by omega))
  have s1:=(isR_s s0)
  exact fn_ok Tryz.func47 (sc:=[(1,1,.fix (.int .u64 (↑r:Int))),(2,1,.fix (Rv (Fl r))),(2,3,.fix (.int .i64 (cmpR (Fl r) x))),(2,4,.is (.c (.bool true))),(3,1,.is (.c (.int .u64 ((↑(r+(1:Nat)):Int)))))]) (sb:=[]) (by kernel_rfl) (hC (under_k h' k1 hr) (hC (exact_k (b:=r) (by omega)) (hC (cmp_k s1 h' (by omega)) (hP (isB h2) (hP (vU_of (wu64 (x:=r) (y:=1) (by omega))) hN)))))
theorem over2 {n:Bool} {a b:ByteArray} {x:Rat} {K r:Nat} (h':IsR n a b x K) (k1:K≤100000000) (hr:IsU x r) (hi:r < 9218868437227405312) (h2:decide (cmpR (Fl r) x < (0:Int))=false):CSpec Tryz.prog 47 #[(rv n a b)] (.int .u64 (↑r:Int)):=by
  have s0:=(fl_s (b:=r) (by omega))
  have s1:=(isR_s s0)
  exact fn_ok Tryz.func47 (sc:=[(1,1,.fix (.int .u64 (↑r:Int))),(2,1,.fix (Rv (Fl r))),(2,3,.fix (.int .i64 (cmpR (Fl r) x))),(2,4,.is (.c (.bool false)))]) (sb:=[]) (by kernel_rfl) (hC (under_k h' k1 hr) (hC (exact_k (b:=r) (by omega)) (hC (cmp_k s1 h' (by omega)) (hP (isB h2) hN))))
theorem over_k {n:Bool} {a b:ByteArray} {x:Rat} {K o:Nat} (h':IsR n a b x K) (k1:K≤100000000) (ho:IsO x o):CSpec Tryz.prog 47 #[rv n a b] (.int .u64 (o:Int)):=by
  obtain ⟨r,hr,rfl⟩:=ho
  by_cases g:Fl r < x
  · rw [if_pos g]
    exact over1 h' k1 hr hr.lt (decide_eq_true (cmpR_lt.2 g))
  rw [if_neg g]
  exact over2 h' k1 hr hr.lt (decide_eq_false (fun h=>g (cmpR_lt.1 h)))
def most:Rat:=Fl 9218868437227405311
theorem most_k:CSpec Tryz.prog 43 #[.int .u64 9218868437227405311] (Rv most):=exact_k (b:=9218868437227405311) (by decide)
theorem most_s:Sz most 160:=fl_s (by decide)
theorem rmost_k:CSpec Tryz.prog 9 #[.int .u64 9218868437227405311] (Rv most):=flt_k (b:=9218868437227405311) (by decide)
theorem u64orL {x:Nat} (hx:x < 9223372036854775808):IntKind.wrap .u64 ((BitVec.toNat (BitVec.ofInt (IntKind.bits .u64) 9223372036854775808 ||| BitVec.ofInt (IntKind.bits .u64) (x:Int)):Nat):Int)=((x+9223372036854775808:Nat):Int):=by
  have:=u64or (x:=x) 63 hx (by decide)
  rw [BitVec.or_comm] at this
  exact this
theorem IsO.lt {x:Rat} {o:Nat} (h:IsO x o):o≤9218868437227405312:=by
  obtain ⟨r,hr,rfl⟩:=h
  have:=hr.lt
  split<;>omega
theorem toe1 {n1 n2:Bool} {a1 b1 a2 b2:ByteArray} {x1 x2:Rat} {K u0 o0 o1 r1:Nat} (h1':IsR n1 a1 b1 x1 K) (h2':IsR n2 a2 b2 x2 K) (k1:K≤10000000) (ho:o1≤9218868437227405312) (hu:r1 < 9218868437227405312) (hg:gs n1 a1 b1 n2 a2 b2=true) (h4:decide (cmpR x1 (-most) < (0:Int))=true):CSpec Tryz.prog 8 #[(ag [rr n1 a1 b1,rr n2 a2 b2])] (.tuple #[.int .u64 (0:Int),.int .u64 (0:Int),.int .i64 (2:Int)]):=by
  have s0:=most_s
  have s1:=(isR_s s0)
  have s2:=(neg_s s0)
  have s3:=(isR_s s2)
  exact fn_ok Tryz.func8 (sc:=[(1,1,.fix (.bool true)),(3,1,.fix (Rv most)),(4,3,.fix (Rv (-most))),(4,4,.fix (.int .i64 (cmpR x1 (-most)))),(4,5,.is (.c (.bool true)))]) (sb:=[]) (by kernel_rfl) (hC (cbool (sgood_k h1' (by omega) h2' (by omega)) hg) (hC most_k (hC (neg_k s1 (by decide +kernel)) (hC (cmp_k h1' s3 (by omega)) (hP (isB h4) hN)))))
theorem toe2 {n1 n2:Bool} {a1 b1 a2 b2:ByteArray} {x1 x2:Rat} {K u0 o0 o1 r1:Nat} (h1':IsR n1 a1 b1 x1 K) (h2':IsR n2 a2 b2 x2 K) (k1:K≤10000000) (ho:o1≤9218868437227405312) (hu:r1 < 9218868437227405312) (hg:gs n1 a1 b1 n2 a2 b2=true) (h4:decide (cmpR x1 (-most) < (0:Int))=false) (h5:decide ((0:Int) < cmpR x2 most)=true):CSpec Tryz.prog 8 #[(ag [rr n1 a1 b1,rr n2 a2 b2])] (.tuple #[.int .u64 (0:Int),.int .u64 (0:Int),.int .i64 (2:Int)]):=by
  have s0:=most_s
  have s1:=(isR_s s0)
  have s2:=(neg_s s0)
  have s3:=(isR_s s2)
  exact fn_ok Tryz.func8 (sc:=[(1,1,.fix (.bool true)),(3,1,.fix (Rv most)),(4,3,.fix (Rv (-most))),(4,4,.fix (.int .i64 (cmpR x1 (-most)))),(4,5,.is (.c (.bool false))),(4,10,.fix (.int .i64 (cmpR x2 most))),(4,11,.is (.c (.bool true)))]) (sb:=[]) (by kernel_rfl) (hC (cbool (sgood_k h1' (by omega) h2' (by omega)) hg) (hC most_k (hC (neg_k s1 (by decide +kernel)) (hC (cmp_k h1' s3 (by omega)) (hP (isB h4) (hC (cmp_k h2' s1 (by omega)) (hP (isB h5) hN)))))))
theorem to00 {n1 n2:Bool} {a1 b1 a2 b2:ByteArray} {x1 x2:Rat} {K u0 o0 o1 r1:Nat} (h1':IsR n1 a1 b1 x1 K) (h2':IsR n2 a2 b2 x2 K) (k1:K≤10000000) (ho:o1≤9218868437227405312) (hu:r1 < 9218868437227405312) (hg:gs n1 a1 b1 n2 a2 b2=true) (c1:IsU (mx x1 (0:Rat)) u0) (c2:IsO (mx x2 (0:Rat)) o0) (h4:decide (cmpR x1 (-most) < (0:Int))=false) (h5:decide ((0:Int) < cmpR x2 most)=false) (h12:decide (Int.sign (Rat.num x1) < (0:Int))=false) (h13:decide (Int.sign (Rat.num x2) < (0:Int))=false):CSpec Tryz.prog 8 #[(ag [rr n1 a1 b1,rr n2 a2 b2])] (.tuple #[.int .u64 (↑u0:Int),.int .u64 (↑o0:Int),.int .i64 (0:Int)]):=by
  have s0:=most_s
  have s1:=(isR_s s0)
  have s2:=(neg_s s0)
  have s3:=(isR_s s2)
  have s6:=sz0_s
  have s7:=(isR_s s6)
  have s8:=(mx_s (szr h1') s6)
  have s9:=(isR_s s8)
  have s10:=(mx_s (szr h2') s6)
  have s11:=(isR_s s10)
  exact fn_ok Tryz.func8 (sc:=[(1,1,.fix (.bool true)),(3,1,.fix (Rv most)),(4,3,.fix (Rv (-most))),(4,4,.fix (.int .i64 (cmpR x1 (-most)))),(4,5,.is (.c (.bool false))),(4,10,.fix (.int .i64 (cmpR x2 most))),(4,11,.is (.c (.bool false))),(6,2,.fix (Rv (0:Rat))),(6,3,.fix (Rv (mx x1 (0:Rat)))),(6,4,.fix (.int .u64 (↑u0:Int))),(6,7,.fix (Rv (0:Rat))),(6,8,.fix (Rv (mx x2 (0:Rat)))),(6,9,.fix (.int .u64 (↑o0:Int))),(7,2,.fix (.int .i64 (Int.sign (Rat.num x1)))),(7,3,.is (.c (.bool false))),(9,2,.fix (.int .i64 (Int.sign (Rat.num x2)))),(9,3,.is (.c (.bool false)))]) (sb:=[]) (by kernel_rfl) (hC (cbool (sgood_k h1' (by omega) h2' (by omega)) hg) (hC most_k (hC (neg_k s1 (by decide +kernel)) (hC (cmp_k h1' s3 (by omega)) (hP (isB h4) (hC (cmp_k h2' s1 (by omega)) (hP (isB h5) (hC of0_k (hC (max_k h1' s7 (by omega)) (hC (under_k s9 (by omega) c1) (hC of0_k (hC (max_k h2' s7 (by omega)) (hC (over_k s11 (by omega) c2) (hC (sign_k h1' (by omega)) (hP (isB h12) (hC (sign_k h2' (by omega)) (hP (isB h13) hN)))))))))))))))))
theorem to10 {n1 n2:Bool} {a1 b1 a2 b2:ByteArray} {x1 x2:Rat} {K u0 o0 o1 r1:Nat} (h1':IsR n1 a1 b1 x1 K) (h2':IsR n2 a2 b2 x2 K) (k1:K≤10000000) (ho:o1≤9218868437227405312) (hu:r1 < 9218868437227405312) (hg:gs n1 a1 b1 n2 a2 b2=true) (c1:IsU (mx x1 (0:Rat)) u0) (c2:IsO (mx x2 (0:Rat)) o0) (c3:IsO (-x1) o1) (h4:decide (cmpR x1 (-most) < (0:Int))=false) (h5:decide ((0:Int) < cmpR x2 most)=false) (h12:decide (Int.sign (Rat.num x1) < (0:Int))=true) (h15:decide (Int.sign (Rat.num x2) < (0:Int))=false):CSpec Tryz.prog 8 #[(ag [rr n1 a1 b1,rr n2 a2 b2])] (.tuple #[.int .u64 ((↑(o1+(9223372036854775808:Nat)):Int)),.int .u64 (↑o0:Int),.int .i64 (0:Int)]):=by
  have s0:=most_s
  have s1:=(isR_s s0)
  have s2:=(neg_s s0)
  have s3:=(isR_s s2)
  have s6:=sz0_s
  have s7:=(isR_s s6)
  have s8:=(mx_s (szr h1') s6)
  have s9:=(isR_s s8)
  have s10:=(mx_s (szr h2') s6)
  have s11:=(isR_s s10)
  have s13:=(neg_s (szr h1'))
  have s14:=(isR_s s13)
  exact fn_ok Tryz.func8 (sc:=[(1,1,.fix (.bool true)),(3,1,.fix (Rv most)),(4,3,.fix (Rv (-most))),(4,4,.fix (.int .i64 (cmpR x1 (-most)))),(4,5,.is (.c (.bool false))),(4,10,.fix (.int .i64 (cmpR x2 most))),(4,11,.is (.c (.bool false))),(6,2,.fix (Rv (0:Rat))),(6,3,.fix (Rv (mx x1 (0:Rat)))),(6,4,.fix (.int .u64 (↑u0:Int))),(6,7,.fix (Rv (0:Rat))),(6,8,.fix (Rv (mx x2 (0:Rat)))),(6,9,.fix (.int .u64 (↑o0:Int))),(7,2,.fix (.int .i64 (Int.sign (Rat.num x1)))),(7,3,.is (.c (.bool true))),(8,2,.fix (Rv (-x1))),(8,3,.fix (.int .u64 (↑o1:Int))),(8,4,.is (.c (.int .u64 ((↑(o1+(9223372036854775808:Nat)):Int))))),(9,2,.fix (.int .i64 (Int.sign (Rat.num x2)))),(9,3,.is (.c (.bool false)))]) (sb:=[]) (by kernel_rfl) (hC (cbool (sgood_k h1' (by omega) h2' (by omega)) hg) (hC most_k (hC (neg_k s1 (by decide +kernel)) (hC (cmp_k h1' s3 (by omega)) (hP (isB h4) (hC (cmp_k h2' s1 (by omega)) (hP (isB h5) (hC of0_k (hC (max_k h1' s7 (by omega)) (hC (under_k s9 (by omega) c1) (hC of0_k (hC (max_k h2' s7 (by omega)) (hC (over_k s11 (by omega) c2) (hC (sign_k h1' (by omega)) (hP (isB h12) (hC (neg_k h1' (by omega)) (hC (over_k s14 (by omega) c3) (hP (vU_of (u64orL (x:=o1) (by omega))) (hC (sign_k h2' (by omega)) (hP (isB h15) hN))))))))))))))))))))
theorem to11 {n1 n2:Bool} {a1 b1 a2 b2:ByteArray} {x1 x2:Rat} {K u0 o0 o1 r1:Nat} (h1':IsR n1 a1 b1 x1 K) (h2':IsR n2 a2 b2 x2 K) (k1:K≤10000000) (ho:o1≤9218868437227405312) (hu:r1 < 9218868437227405312) (hg:gs n1 a1 b1 n2 a2 b2=true) (c1:IsU (mx x1 (0:Rat)) u0) (c2:IsO (mx x2 (0:Rat)) o0) (c3:IsO (-x1) o1) (c4:IsU (-x2) r1) (h4:decide (cmpR x1 (-most) < (0:Int))=false) (h5:decide ((0:Int) < cmpR x2 most)=false) (h12:decide (Int.sign (Rat.num x1) < (0:Int))=true) (h15:decide (Int.sign (Rat.num x2) < (0:Int))=true) (h18:decide ((0:Int) < (↑r1:Int))=true):CSpec Tryz.prog 8 #[(ag [rr n1 a1 b1,rr n2 a2 b2])] (.tuple #[.int .u64 ((↑(o1+(9223372036854775808:Nat)):Int)),.int .u64 ((↑(r1+(9223372036854775808:Nat)):Int)),.int .i64 (0:Int)]):=by
  have s0:=most_s
  have s1:=(isR_s s0)
  have s2:=(neg_s s0)
  have s3:=(isR_s s2)
  have s6:=sz0_s
  have s7:=(isR_s s6)
  have s8:=(mx_s (szr h1') s6)
  have s9:=(isR_s s8)
  have s10:=(mx_s (szr h2') s6)
  have s11:=(isR_s s10)
  have s13:=(neg_s (szr h1'))
  have s14:=(isR_s s13)
  have s16:=(neg_s (szr h2'))
  have s17:=(isR_s s16)
  exact fn_ok Tryz.func8 (sc:=[(1,1,.fix (.bool true)),(3,1,.fix (Rv most)),(4,3,.fix (Rv (-most))),(4,4,.fix (.int .i64 (cmpR x1 (-most)))),(4,5,.is (.c (.bool false))),(4,10,.fix (.int .i64 (cmpR x2 most))),(4,11,.is (.c (.bool false))),(6,2,.fix (Rv (0:Rat))),(6,3,.fix (Rv (mx x1 (0:Rat)))),(6,4,.fix (.int .u64 (↑u0:Int))),(6,7,.fix (Rv (0:Rat))),(6,8,.fix (Rv (mx x2 (0:Rat)))),(6,9,.fix (.int .u64 (↑o0:Int))),(7,2,.fix (.int .i64 (Int.sign (Rat.num x1)))),(7,3,.is (.c (.bool true))),(8,2,.fix (Rv (-x1))),(8,3,.fix (.int .u64 (↑o1:Int))),(8,4,.is (.c (.int .u64 ((↑(o1+(9223372036854775808:Nat)):Int))))),(9,2,.fix (.int .i64 (Int.sign (Rat.num x2)))),(9,3,.is (.c (.bool true))),(10,2,.fix (Rv (-x2))),(10,3,.fix (.int .u64 (↑r1:Int))),(11,1,.is (.c (.bool true))),(12,1,.is (.c (.int .u64 ((↑(r1+(9223372036854775808:Nat)):Int)))))]) (sb:=[]) (by kernel_rfl) (hC (cbool (sgood_k h1' (by omega) h2' (by omega)) hg) (hC most_k (hC (neg_k s1 (by decide +kernel)) (hC (cmp_k h1' s3 (by omega)) (hP (isB h4) (hC (cmp_k h2' s1 (by omega)) (hP (isB h5) (hC of0_k (hC (max_k h1' s7 (by omega)) (hC (under_k s9 (by omega) c1) (hC of0_k (hC (max_k h2' s7 (by omega)) (hC (over_k s11 (by omega) c2) (hC (sign_k h1' (by omega)) (hP (isB h12) (hC (neg_k h1' (by omega)) (hC (over_k s14 (by omega) c3) (hP (vU_of (u64orL (x:=o1) (by omega))) (hC (sign_k h2' (by omega)) (hP (isB h15) (hC (neg_k h2' (by omega)) (hC (under_k s17 (by omega) c4) (hP (isB h18) (hP (vU_of (u64or (x:=r1) 63 (by show r1 < 9223372036854775808; omega) (by decide))) hN))))))))))))))))))))))))
theorem to12 {n1 n2:Bool} {a1 b1 a2 b2:ByteArray} {x1 x2:Rat} {K u0 o0 o1 r1:Nat} (h1':IsR n1 a1 b1 x1 K) (h2':IsR n2 a2 b2 x2 K) (k1:K≤10000000) (ho:o1≤9218868437227405312) (hu:r1 < 9218868437227405312) (hg:gs n1 a1 b1 n2 a2 b2=true) (c1:IsU (mx x1 (0:Rat)) u0) (c2:IsO (mx x2 (0:Rat)) o0) (c3:IsO (-x1) o1) (c4:IsU (-x2) r1) (h4:decide (cmpR x1 (-most) < (0:Int))=false) (h5:decide ((0:Int) < cmpR x2 most)=false) (h12:decide (Int.sign (Rat.num x1) < (0:Int))=true) (h15:decide (Int.sign (Rat.num x2) < (0:Int))=true) (h18:decide ((0:Int) < (↑r1:Int))=false):CSpec Tryz.prog 8 #[(ag [rr n1 a1 b1,rr n2 a2 b2])] (.tuple #[.int .u64 ((↑(o1+(9223372036854775808:Nat)):Int)),.int .u64 (↑r1:Int),.int .i64 (0:Int)]):=by
  have s0:=most_s
  have s1:=(isR_s s0)
  have s2:=(neg_s s0)
  have s3:=(isR_s s2)
  have s6:=sz0_s
  have s7:=(isR_s s6)
  have s8:=(mx_s (szr h1') s6)
  have s9:=(isR_s s8)
  have s10:=(mx_s (szr h2') s6)
  have s11:=(isR_s s10)
  have s13:=(neg_s (szr h1'))
  have s14:=(isR_s s13)
  have s16:=(neg_s (szr h2'))
  have s17:=(isR_s s16)
  exact fn_ok Tryz.func8 (sc:=[(1,1,.fix (.bool true)),(3,1,.fix (Rv most)),(4,3,.fix (Rv (-most))),(4,4,.fix (.int .i64 (cmpR x1 (-most)))),(4,5,.is (.c (.bool false))),(4,10,.fix (.int .i64 (cmpR x2 most))),(4,11,.is (.c (.bool false))),(6,2,.fix (Rv (0:Rat))),(6,3,.fix (Rv (mx x1 (0:Rat)))),(6,4,.fix (.int .u64 (↑u0:Int))),(6,7,.fix (Rv (0:Rat))),(6,8,.fix (Rv (mx x2 (0:Rat)))),(6,9,.fix (.int .u64 (↑o0:Int))),(7,2,.fix (.int .i64 (Int.sign (Rat.num x1)))),(7,3,.is (.c (.bool true))),(8,2,.fix (Rv (-x1))),(8,3,.fix (.int .u64 (↑o1:Int))),(8,4,.is (.c (.int .u64 ((↑(o1+(9223372036854775808:Nat)):Int))))),(9,2,.fix (.int .i64 (Int.sign (Rat.num x2)))),(9,3,.is (.c (.bool true))),(10,2,.fix (Rv (-x2))),(10,3,.fix (.int .u64 (↑r1:Int))),(11,1,.is (.c (.bool false)))]) (sb:=[]) (by kernel_rfl) (hC (cbool (sgood_k h1' (by omega) h2' (by omega)) hg) (hC most_k (hC (neg_k s1 (by decide +kernel)) (hC (cmp_k h1' s3 (by omega)) (hP (isB h4) (hC (cmp_k h2' s1 (by omega)) (hP (isB h5) (hC of0_k (hC (max_k h1' s7 (by omega)) (hC (under_k s9 (by omega) c1) (hC of0_k (hC (max_k h2' s7 (by omega)) (hC (over_k s11 (by omega) c2) (hC (sign_k h1' (by omega)) (hP (isB h12) (hC (neg_k h1' (by omega)) (hC (over_k s14 (by omega) c3) (hP (vU_of (u64orL (x:=o1) (by omega))) (hC (sign_k h2' (by omega)) (hP (isB h15) (hC (neg_k h2' (by omega)) (hC (under_k s17 (by omega) c4) (hP (isB h18) hN)))))))))))))))))))))))
theorem tob {n1 n2:Bool} {a1 b1 a2 b2:ByteArray} {x1 x2:Rat} {K u0 o0 o1 r1:Nat} (h1':IsR n1 a1 b1 x1 K) (h2':IsR n2 a2 b2 x2 K) (k1:K≤10000000) (ho:o1≤9218868437227405312) (hu:r1 < 9218868437227405312) (hg:gs n1 a1 b1 n2 a2 b2=false) (c1:IsU (mx (0:Rat) (0:Rat)) u0) (c2:IsO (mx (0:Rat) (0:Rat)) o0)  : CSpec Tryz.prog 8 #[(ag [rr n1 a1 b1,rr n2 a2 b2])] (.tuple #[.int .u64 (↑u0:Int),.int .u64 (↑o0:Int),.int .i64 (0:Int)]):=by
  have s0:=sz0_s
  have s1:=(isR_s s0)
  have s2:=most_s
  have s3:=(isR_s s2)
  have s4:=(neg_s s2)
  have s5:=(isR_s s4)
  have s6:=(mx_s s0 s0)
  have s7:=(isR_s s6)
  exact fn_ok Tryz.func8 (sc:=[(1,1,.fix (.bool false)),(2,0,.fix (Rv (0:Rat))),(2,1,.fix (ag [rc (0:Rat),rc (0:Rat)])),(3,1,.fix (Rv most)),(4,3,.fix (Rv (-most))),(4,4,.fix (.int .i64 (1:Int))),(4,10,.fix (.int .i64 (-1:Int))),(6,2,.fix (Rv (0:Rat))),(6,3,.fix (Rv (mx (0:Rat) (0:Rat)))),(6,4,.fix (.int .u64 (↑u0:Int))),(6,7,.fix (Rv (0:Rat))),(6,8,.fix (Rv (mx (0:Rat) (0:Rat)))),(6,9,.fix (.int .u64 (↑o0:Int))),(7,2,.fix (.int .i64 (Int.sign (Rat.num (0:Rat))))),(9,2,.fix (.int .i64 (Int.sign (Rat.num (0:Rat)))))]) (sb:=[]) (by kernel_rfl) (hC (cbool (sgood_k h1' (by omega) h2' (by omega)) hg) (hC of0_k (hC (sof_k s1 (by decide +kernel)) (hC most_k (hC (neg_k s3 (by decide +kernel)) (hC (cmp_k s1 s5 (by decide +kernel)) (hC (cmp_k s1 s3 (by decide +kernel)) (hC of0_k (hC (max_k s1 s1 (by decide +kernel)) (hC (under_k s7 (by decide +kernel) c1) (hC of0_k (hC (max_k s1 s1 (by decide +kernel)) (hC (over_k s7 (by decide +kernel) c2) (hC (sign_k s1 (by decide +kernel)) (hC (sign_k s1 (by decide +kernel)) hN)))))))))))))))
def FlS (b:Nat):Rat:=if b < 9223372036854775808 then Fl b else -Fl (b - 9223372036854775808)
def FlBits (b:Nat):Prop:=b≤9218868437227405312∨(9223372036854775808≤b∧b≤18442240474082181120)
theorem fltS_k {b:Nat} (h:FlBits b):CSpec Tryz.prog 9 #[.int .u64 (b:Int)] (Rv (FlS b)):=by
  unfold FlS
  rcases h with h | ⟨h1,h2⟩
  · rw [if_pos (by omega)]
    exact flt_k h
  rw [if_neg (by omega)]
  have:=fltn_k (b:=b - 9223372036854775808) (by omega)
  rwa [show b - 9223372036854775808+9223372036854775808=b by omega] at this
theorem flSb_s {b:Nat} (h:FlBits b):Sz (FlS b) 160:=by
  unfold FlS
  rcases h with h | ⟨h1,h2⟩
  · rw [if_pos (by omega)]
    exact fl_s h
  rw [if_neg (by omega)]
  exact (fl_s (b:=b - 9223372036854775808) (by omega)).neg
def abv (b:Nat):Rat:=if b < 9223372036854775808 then FlS (b+1) else if b=9223372036854775809 then 0 else FlS (b - 1)
def AbOk (b:Nat):Prop:=b < 9218868437227405312∨(9223372036854775808 < b∧b≤18442240474082181120)
def xo (b:Nat):Nat:=if b < 9223372036854775808 then b+9223372036854775808 else b - 9223372036854775808
theorem xor63 {b:Nat} (h:b < 18446744073709551616):IntKind.wrap .u64 ((BitVec.toNat (BitVec.ofInt (IntKind.bits .u64) (b:Int) ^^^ BitVec.ofInt (IntKind.bits .u64) 9223372036854775808):Nat):Int)=((xo b:Nat):Int):=by
  have hx:b ^^^ 9223372036854775808=xo b:=by
    have e:b=9223372036854775808*(b/9223372036854775808)+b%9223372036854775808:=by omega
    have hm:b%2^63 < 2^63:=Nat.mod_lt _ (by decide)
    have hq:b/9223372036854775808 < 2:=by omega
    unfold xo
    apply Nat.eq_of_testBit_eq
    intro i
    have t63:(9223372036854775808:Nat).testBit i=decide (i=63):=by
      rw [show (9223372036854775808:Nat)=2^63 from rfl,Nat.testBit_two_pow]
      exact decide_eq_decide.2 eq_comm
    rw [Nat.testBit_xor,t63]
    by_cases hb:b < 9223372036854775808
    · rw [if_pos hb]
      have h1:b.testBit 63=false:=Nat.testBit_lt_two_pow hb
      have h2:=Nat.two_pow_add_eq_or_of_lt (i:=63) (b:=b) hb 1
      rw [Nat.mul_one] at h2
      rw [show b+9223372036854775808=2^63+b by omega,h2,Nat.testBit_or,show ((2:Nat)^63).testBit i=decide (i=63) from t63]
      by_cases g:i=63
      · subst g; rw [h1]; rfl
      rw [decide_eq_false g]; simp
    rw [if_neg hb]
    obtain ⟨c,rfl⟩:∃ c,b=2^63+c:=⟨b - 2^63,by omega⟩
    have hc:c < 2^63:=by omega
    have h1:c.testBit 63=false:=Nat.testBit_lt_two_pow hc
    have h2:=Nat.two_pow_add_eq_or_of_lt (i:=63) (b:=c) hc 1
    rw [Nat.mul_one] at h2
    rw [show 2^63+c - 9223372036854775808=c by omega,h2,Nat.testBit_or,show ((2:Nat)^63).testBit i=decide (i=63) from t63]
    by_cases g:i=63
    · subst g; rw [h1]; rfl
    rw [decide_eq_false g]; simp
  have h63:(9223372036854775808:Nat) < 2^IntKind.bits .u64:=by decide
  have e:BitVec.toNat (BitVec.ofInt (IntKind.bits .u64) (b:Int) ^^^ BitVec.ofInt (IntKind.bits .u64) 9223372036854775808)=xo b:=by
    rw [show (9223372036854775808:Int)=((9223372036854775808:Nat):Int) from rfl,BitVec.toNat_xor,BitVec.ofInt_natCast,BitVec.ofInt_natCast,BitVec.toNat_ofNat,BitVec.toNat_ofNat,Nat.mod_eq_of_lt (show b < 2^IntKind.bits .u64 from h),Nat.mod_eq_of_lt h63,hx]
  have hl:xo b < 18446744073709551616:=by unfold xo; split<;>omega
  rw [e,IntKind.wrap_u64]
  omega
theorem ab1 {b:Nat} (h:b < 9218868437227405312) (hf:FlBits (b+1))  : CSpec Tryz.prog 12 #[(.int .u64 ((b:Nat):Int))] (Rv (FlS (b+(1:Nat)))):=by
  exact fn_ok Tryz.func12 (sc:=[(1,1,.is (.c (.int .u64 (0:Int)))),(2,1,.is (.c (.int .u64 ((↑(b+(1:Nat)):Int))))),(2,2,.fix (Rv (FlS (b+(1:Nat)))))]) (sb:=[]) (by kernel_rfl) (hP (shr63 (b:=b) (by omega)) (hP (vU_of (wu64 (x:=b) (y:=1) (by omega))) (hC (fltS_k hf) hN)))
theorem ab2    : CSpec Tryz.prog 12 #[(.int .u64 9223372036854775809)] (Rv (0:Rat)):=by
  exact fn_ok Tryz.func12 (sc:=[(4,0,.fix (Rv (0:Rat)))]) (sb:=[]) (by kernel_rfl) (hC ri0_k hN)
theorem ab3 {m:Nat} (h:m≤9218868437227405312) (hm:2≤m) (hf:FlBits (m - 1+9223372036854775808)) (he:decide (((m+9223372036854775808:Nat):Int)=9223372036854775809)=false)  : CSpec Tryz.prog 12 #[(.int .u64 ((m+9223372036854775808:Nat):Int))] (Rv (FlS (m - (1:Nat)+(9223372036854775808:Nat)))):=by
  exact fn_ok Tryz.func12 (sc:=[(1,1,.is (.c (.int .u64 (1:Int)))),(3,1,.is (.c (.bool false))),(5,1,.is (.c (.int .u64 ((↑(m - (1:Nat)+(9223372036854775808:Nat)):Int))))),(5,2,.fix (Rv (FlS (m - (1:Nat)+(9223372036854775808:Nat)))))]) (sb:=[]) (by kernel_rfl) (hP (shr63b (b:=m) (by omega)) (hP (isB he) (hP (vU_of ((su64 (a:=m+9223372036854775808) (by omega) (by omega)).trans (ncg (j:=m - 1+9223372036854775808) (by omega)))) (hC (fltS_k hf) hN))))
theorem above_k {b:Nat} (h:AbOk b):CSpec Tryz.prog 12 #[.int .u64 (b:Int)] (Rv (abv b)):=by
  unfold abv
  rcases h with h | ⟨h1,h2⟩
  · rw [if_pos (by omega)]
    exact ab1 h (.inl (by omega))
  rw [if_neg (by omega)]
  by_cases e:b=9223372036854775809
  · rw [if_pos e,e]
    exact ab2
  rw [if_neg e]
  have:=ab3 (m:=b - 9223372036854775808) (by omega) (by omega) (.inr ⟨by omega,by omega⟩) (decide_eq_false (by omega))
  rw [show b - 9223372036854775808+9223372036854775808=b by omega,show b - 9223372036854775808 - 1+9223372036854775808=b - 1 by omega] at this
  exact this
theorem abv_s {b:Nat} (h:AbOk b):Sz (abv b) 160:=by
  unfold abv
  rcases h with h | ⟨h1,h2⟩
  · rw [if_pos (by omega)]
    exact flSb_s (.inl (by omega))
  rw [if_neg (by omega)]
  split
  · exact sz0_s.mono (by decide)
  exact flSb_s (.inr ⟨by omega,by omega⟩)
theorem fl3_k:CSpec Tryz.prog 9 #[.int .u64 9223372036854775809] (Rv (-Fl 1)):=fltn_k (b:=1) (by decide)
theorem fl1_s:Sz (Fl 1) 160:=fl_s (by decide)
theorem below_k {b:Nat} (hb:b < 18446744073709551616) (h:AbOk (xo b))  : FSpec Tryz.prog 14 [.c (.int .u64 ((b:Nat):Int)),.p 0 0] [some ⟨false,[.c (.func (.func 12) #[] #[])]⟩] (.c (Rv (-abv (xo b)))) [some ⟨false,[.c (.func (.func 12) #[] #[])]⟩]:=by
  have s0:=(abv_s h)
  have s1:=(isR_s s0)
  exact fspec_ok Tryz.func14 (sc:=[(1,2,.is (.c (.int .u64 ((↑(xo b):Int))))),(1,3,.fix (Rv (abv (xo b)))),(1,4,.fix (Rv (-abv (xo b))))]) (sb:=[]) (keep:=[]) (by kernel_rfl) (hP (flatB_flat (m:=[some ⟨false,[.c (.func (.func 12) #[] #[])]⟩]) rfl) (hP (vU_of (xor63 (b:=b) hb)) (hC (above_k h) (hC (neg_k s1 (by decide +kernel)) hN))))
theorem below3_k {b:Nat}   : CSpec Tryz.prog 15 #[(.int .u64 ((b:Nat):Int))] (Rv (-Fl (1:Nat))):=by
  exact fn_ok Tryz.func15 (sc:=[(1,0,.fix (Rv (-Fl (1:Nat))))]) (sb:=[]) (by kernel_rfl) (hC fl3_k hN)
theorem IsO.ge {x:Rat} {o:Nat} (h:IsO x o):x≤Fl o:=by
  obtain ⟨r,hr,rfl⟩:=h
  split
  · exact Rat.le_of_lt hr.gt
  rename_i g
  exact Rat.not_lt.1 g
theorem IsO.pred {x:Rat} {o:Nat} (h:IsO x o) (h0:0 < o):Fl (o - 1) < x:=by
  obtain ⟨r,hr,rfl⟩:=h
  by_cases g:Fl r < x
  · rw [if_pos g] at h0 ⊢
    exact g
  rw [if_neg g] at h0 ⊢
  have e:x=Fl r:=Rat.le_antisymm (Rat.not_lt.1 g) hr.le
  have:=Fl_lt (r - 1)
  rw [show r - 1+1=r by omega] at this
  rw [e]
  exact this
theorem IsO.pos {x:Rat} {o:Nat} (h:IsO x o) (hx:0 < x):0 < o:=by
  rcases Nat.eq_zero_or_pos o with g | g
  · subst g
    have:=h.ge
    rw [Fl_zero] at this
    exact absurd (rltle hx this) Rat.lt_irrefl
  exact g
theorem Fl_le_lt {a b:Nat} (h:Fl a < Fl b):a < b:=by
  rcases Nat.lt_or_ge a b with g | g
  · exact g
  exact absurd (rltle h (Fl_mono g)) Rat.lt_irrefl
theorem IsO.le {x:Rat} {o:Nat} (h:IsO x o) (hx:x≤most):o≤9218868437227405311:=by
  rcases Nat.eq_zero_or_pos o with g | g
  · omega
  have h1:=rltle (h.pred g) hx
  have h2:o - 1 < 9218868437227405311:=Fl_le_lt h1
  omega
theorem isO_ex {x:Rat} {r:Nat} (h:IsU x r):∃ o,IsO x o:=⟨_,r,h,rfl⟩
theorem most_lt:most < Fl 9218868437227405312:=Fl_lt 9218868437227405311
theorem isU_m {x:Rat} (h0:0≤x) (h1:x≤most):∃ r,IsU x r:=isU_ex h0 (rlelt h1 most_lt)
structure LoP (x:Rat) (L:Nat):Prop where
  bits:FlBits L
  ab:AbOk L
  ne:L≠9223372036854775808
  ex:L/4503599627370496%2048≠2047
  le:FlS L≤x
  gt:x < abv L
structure HiP (y:Rat) (H:Nat):Prop where
  bits:FlBits H
  ne:H≠9223372036854775808
  ex:H/4503599627370496%2048≠2047
  le:y≤FlS H
  gt:H≠0→AbOk (xo H) ∧ -abv (xo H) < y
  z:H=0 → -Fl 1 < y
theorem FlS_p {b:Nat} (h:b < 9223372036854775808):FlS b=Fl b:=by unfold FlS; rw [if_pos h]
theorem FlS_n (b:Nat):FlS (b+9223372036854775808) = -Fl b:=by
  unfold FlS
  rw [if_neg (by omega),Nat.add_sub_cancel]
theorem abv_p {b:Nat} (h:b < 9223372036854775807):abv b=Fl (b+1):=by
  unfold abv
  rw [if_pos (by omega),FlS_p (by omega)]
theorem abv_n {b:Nat} (h:1≤b):abv (b+9223372036854775808) = -Fl (b - 1):=by
  unfold abv
  rw [if_neg (by omega)]
  by_cases e:b=1
  · subst e
    rw [if_pos rfl]
    show (0:Rat) = -Fl 0
    rw [Fl_zero]
    rfl
  rw [if_neg (by omega),show b+9223372036854775808 - 1=b - 1+9223372036854775808 by omega,FlS_n]
theorem lo_p {x:Rat} {u:Nat} (h:IsU x u):LoP x u:=by
  have hl:=h.lt
  exact ⟨.inl (by omega),.inl hl,by omega,by omega,by rw [FlS_p (by omega)]; exact h.le,by rw [abv_p (by omega)]; exact h.gt⟩
theorem lo_n {x:Rat} {o:Nat} (h:IsO (-x) o) (hx:x < 0) (hm:-x≤most):LoP x (o+9223372036854775808):=by
  have h0:=h.pos (by grind)
  have hl:=h.le hm
  refine ⟨.inr ⟨by omega,by omega⟩,.inr ⟨by omega,by omega⟩,by omega,by omega,?_,?_⟩
  · rw [FlS_n]
    have:=h.ge
    grind
  rw [abv_n (by omega)]
  have:=h.pred h0
  grind
theorem Fl1_pos:0 < Fl 1:=by
  have:=Fl_lt 0
  rw [Fl_zero] at this
  exact this
theorem hi_p {y:Rat} {o:Nat} (h:IsO y o) (hy:0≤y) (hm:y≤most):HiP y o:=by
  have hl:=h.le hm
  refine ⟨.inl (by omega),by omega,by omega,by rw [FlS_p (by omega)]; exact h.ge,fun h0=>?_,fun h0=>?_⟩
  · have e:xo o=o+9223372036854775808:=by unfold xo; rw [if_pos (by omega)]
    rw [e]
    refine ⟨.inr ⟨by omega,by omega⟩,?_⟩
    rw [abv_n (by omega)]
    have:=h.pred (by omega)
    grind
  have:=Fl1_pos
  grind
theorem hi_n {y:Rat} {r:Nat} (h:IsU (-y) r) (h0:0 < r):HiP y (r+9223372036854775808):=by
  have hl:=h.lt
  have e:xo (r+9223372036854775808)=r:=by unfold xo; rw [if_neg (by omega),Nat.add_sub_cancel]
  refine ⟨.inr ⟨by omega,by omega⟩,by omega,by omega,?_,fun _=>?_,fun h=>by omega⟩
  · rw [FlS_n]
    have:=h.le
    grind
  rw [e,abv_p (by omega)]
  refine ⟨.inl hl,?_⟩
  have:=h.gt
  grind
theorem hi_0 {y:Rat} (h:IsU (-y) 0) (hy:y < 0):HiP y 0:=by
  refine ⟨.inl (by omega),by omega,by omega,?_,fun h=>absurd rfl h,fun _=>?_⟩
  · rw [FlS_p (by omega),Fl_zero]
    exact Rat.le_of_lt hy
  have:=h.gt
  show -Fl 1 < y
  have e:Fl (0+1)=Fl 1:=rfl
  rw [e] at this
  grind
theorem lwe1 {n1 n2:Bool} {a1 b1 a2 b2:ByteArray} {x y:Rat} {L H J1:Nat} (h1':IsS n1 a1 b1 n2 a2 b2 x y J1) (p1:Sz x 3000000) (p2:Sz y 3000000) (l1:x≤y) (ht:CSpec Tryz.prog 8 #[ag [rr n1 a1 b1,rr n2 a2 b2]] (.tuple #[.int .u64 0,.int .u64 0,.int .i64 2])) (h5:decide (cmpR x (-most) < (0:Int))=true):CSpec Tryz.prog 3 #[(ag [rr n1 a1 b1,rr n2 a2 b2])] (.bool true):=by
  have s0:=most_s
  have s1:=(isR_s s0)
  have s2:=(isR_s p1)
  have s3:=(neg_s s0)
  have s4:=(isR_s s3)
  exact fn_ok Tryz.func3 (sc:=[(1,0,.fix (.bool true)),(3,1,.fix (ag [rc x,rc y])),(4,1,.fix (.tuple #[.int .u64 (0:Int),.int .u64 (0:Int),.int .i64 (2:Int)])),(5,0,.fix (Rv most)),(6,3,.fix (Rv (-most))),(6,4,.fix (.int .i64 (cmpR x (-most)))),(6,5,.is (.c (.bool true)))]) (sb:=[]) (by kernel_rfl) (hC borderBegun_k (hC (rpair_k h1') (hC ht (hC rmost_k (hC (neg_k s1 (by decide +kernel)) (hC (cmp_k s2 s4 (by decide +kernel)) (hP (isB h5) hN)))))))
theorem lwe2 {n1 n2:Bool} {a1 b1 a2 b2:ByteArray} {x y:Rat} {L H J1:Nat} (h1':IsS n1 a1 b1 n2 a2 b2 x y J1) (p1:Sz x 3000000) (p2:Sz y 3000000) (l1:x≤y) (ht:CSpec Tryz.prog 8 #[ag [rr n1 a1 b1,rr n2 a2 b2]] (.tuple #[.int .u64 0,.int .u64 0,.int .i64 2])) (h5:decide (cmpR x (-most) < (0:Int))=false) (h7:decide ((0:Int) < cmpR y most)=true):CSpec Tryz.prog 3 #[(ag [rr n1 a1 b1,rr n2 a2 b2])] (.bool true):=by
  have s0:=most_s
  have s1:=(isR_s s0)
  have s2:=(isR_s p1)
  have s3:=(neg_s s0)
  have s4:=(isR_s s3)
  have s6:=(isR_s p2)
  exact fn_ok Tryz.func3 (sc:=[(1,0,.fix (.bool true)),(3,1,.fix (ag [rc x,rc y])),(4,1,.fix (.tuple #[.int .u64 (0:Int),.int .u64 (0:Int),.int .i64 (2:Int)])),(5,0,.fix (Rv most)),(6,3,.fix (Rv (-most))),(6,4,.fix (.int .i64 (cmpR x (-most)))),(6,5,.is (.c (.bool false))),(6,10,.fix (.int .i64 (cmpR y most))),(6,11,.is (.c (.bool true)))]) (sb:=[]) (by kernel_rfl) (hC borderBegun_k (hC (rpair_k h1') (hC ht (hC rmost_k (hC (neg_k s1 (by decide +kernel)) (hC (cmp_k s2 s4 (by decide +kernel)) (hP (isB h5) (hC (cmp_k s6 s1 (by decide +kernel)) (hP (isB h7) hN)))))))))
theorem lwn1 {n1 n2:Bool} {a1 b1 a2 b2:ByteArray} {x y:Rat} {L H J1:Nat} (h1':IsS n1 a1 b1 n2 a2 b2 x y J1) (p1:Sz x 3000000) (p2:Sz y 3000000) (l1:x≤y) (ht:CSpec Tryz.prog 8 #[ag [rr n1 a1 b1,rr n2 a2 b2]] (.tuple #[.int .u64 (L:Int),.int .u64 (H:Int),.int .i64 0])) (bl:L < 18446744073709551616) (bh:H < 18446744073709551616) (f1:FlBits L) (f2:FlBits H) (f3:AbOk L) (q1:decide (((L:Int):Int)=9223372036854775808)=false) (q2:decide (((H:Int):Int)=9223372036854775808)=false) (q3:decide ((((L/4503599627370496%2048:Nat):Int):Int)=2047)=false) (q4:decide ((((H/4503599627370496%2048:Nat):Int):Int)=2047)=false) (c1:decide (cmpR (FlS L) x≤0)=true) (c2:decide (0 < cmpR (abv L) x)=true) (c3:decide (0≤cmpR (FlS H) y)=true) (hz:decide (((H:Int):Int)=0)=false) (f4:AbOk (xo H)) (c4:decide (cmpR (-abv (xo H)) y < 0)=true) (h5:decide (cmpR x (-most) < (0:Int))=false) (h7:decide ((0:Int) < cmpR y most)=false):CSpec Tryz.prog 3 #[(ag [rr n1 a1 b1,rr n2 a2 b2])] (.bool true):=by
  have s0:=most_s
  have s1:=(isR_s s0)
  have s2:=(isR_s p1)
  have s3:=(neg_s s0)
  have s4:=(isR_s s3)
  have s6:=(isR_s p2)
  have s8:=(flSb_s f1)
  have s9:=(isR_s s8)
  have s10:=(abv_s f3)
  have s11:=(isR_s s10)
  have s12:=(flSb_s f2)
  have s13:=(isR_s s12)
  have s14:=(abv_s f4)
  have s15:=(neg_s s14)
  have s16:=(isR_s s15)
  exact fn_ok Tryz.func3 (sc:=[(1,0,.fix (.bool true)),(3,1,.fix (ag [rc x,rc y])),(4,1,.fix (.tuple #[.int .u64 (↑L:Int),.int .u64 (↑H:Int),.int .i64 (0:Int)])),(5,0,.fix (Rv most)),(6,3,.fix (Rv (-most))),(6,4,.fix (.int .i64 (cmpR x (-most)))),(6,5,.is (.c (.bool false))),(6,10,.fix (.int .i64 (cmpR y most))),(6,11,.is (.c (.bool false))),(8,4,.is (.c (.bool false))),(8,8,.is (.c (.bool false))),(8,12,.is (.c (.int .u64 ((↑(L/(4503599627370496:Nat)):Int))))),(8,13,.is (.c (.int .u64 ((↑(L/(4503599627370496:Nat)%(2048:Nat)):Int))))),(8,14,.is (.c (.bool false))),(8,18,.is (.c (.int .u64 ((↑(H/(4503599627370496:Nat)):Int))))),(8,19,.is (.c (.int .u64 ((↑(H/(4503599627370496:Nat)%(2048:Nat)):Int))))),(8,20,.is (.c (.bool false))),(12,1,.is (.c (.bool false))),(14,1,.fix (Rv (FlS L))),(14,4,.fix (.int .i64 (cmpR (FlS L) x))),(14,5,.is (.c (.bool true))),(14,9,.fix (Rv (abv L))),(14,12,.fix (.int .i64 (cmpR (abv L) x))),(14,13,.is (.c (.bool true))),(14,17,.fix (Rv (FlS H))),(14,20,.fix (.int .i64 (cmpR (FlS H) y))),(14,21,.is (.c (.bool true))),(14,26,.read (Rv (-abv (xo H)))),(14,29,.fix (.int .i64 (cmpR (-abv (xo H)) y))),(14,30,.is (.c (.bool true)))]) (sb:=[]) (by kernel_rfl) (hC borderBegun_k (hC (rpair_k h1') (hC ht (hC rmost_k (hC (neg_k s1 (by decide +kernel)) (hC (cmp_k s2 s4 (by decide +kernel)) (hP (isB h5) (hC (cmp_k s6 s1 (by decide +kernel)) (hP (isB h7) (hP (isB q1) (hP (isB q2) (hP (shr52 (b:=L)) (hP (vU_of (u64and (x:=L/4503599627370496) 11 (by omega) (by decide))) (hP (isB q3) (hP (shr52 (b:=H)) (hP (vU_of (u64and (x:=H/4503599627370496) 11 (by omega) (by decide))) (hP (isB q4) (hP (isB hz) (hC (fltS_k f1) (hC (cmp_k s9 s2 (by decide +kernel)) (hP (isB c1) (hC (above_k f3) (hC (cmp_k s11 s2 (by decide +kernel)) (hP (isB c2) (hC (fltS_k f2) (hC (cmp_k s13 s6 (by decide +kernel)) (hP (isB c3) (hF (below_k bh f4) (hC (cmp_k s16 s6 (by decide +kernel)) (hP (isB c4) hN))))))))))))))))))))))))))))))
theorem lwn0 {n1 n2:Bool} {a1 b1 a2 b2:ByteArray} {x y:Rat} {L H J1:Nat} (h1':IsS n1 a1 b1 n2 a2 b2 x y J1) (p1:Sz x 3000000) (p2:Sz y 3000000) (l1:x≤y) (ht:CSpec Tryz.prog 8 #[ag [rr n1 a1 b1,rr n2 a2 b2]] (.tuple #[.int .u64 (L:Int),.int .u64 (H:Int),.int .i64 0])) (bl:L < 18446744073709551616) (bh:H < 18446744073709551616) (f1:FlBits L) (f2:FlBits H) (f3:AbOk L) (q1:decide (((L:Int):Int)=9223372036854775808)=false) (q2:decide (((H:Int):Int)=9223372036854775808)=false) (q3:decide ((((L/4503599627370496%2048:Nat):Int):Int)=2047)=false) (q4:decide ((((H/4503599627370496%2048:Nat):Int):Int)=2047)=false) (c1:decide (cmpR (FlS L) x≤0)=true) (c2:decide (0 < cmpR (abv L) x)=true) (c3:decide (0≤cmpR (FlS H) y)=true) (hz:decide (((H:Int):Int)=0)=true) (c4:decide (cmpR (-Fl 1) y < 0)=true) (h5:decide (cmpR x (-most) < (0:Int))=false) (h7:decide ((0:Int) < cmpR y most)=false):CSpec Tryz.prog 3 #[(ag [rr n1 a1 b1,rr n2 a2 b2])] (.bool true):=by
  have s0:=most_s
  have s1:=(isR_s s0)
  have s2:=(isR_s p1)
  have s3:=(neg_s s0)
  have s4:=(isR_s s3)
  have s6:=(isR_s p2)
  have s8:=(flSb_s f1)
  have s9:=(isR_s s8)
  have s10:=(abv_s f3)
  have s11:=(isR_s s10)
  have s12:=(flSb_s f2)
  have s13:=(isR_s s12)
  have s14:=(fl_s (b:=(1:Nat)) (by decide +kernel))
  have s15:=(neg_s s14)
  have s16:=(isR_s s15)
  exact fn_ok Tryz.func3 (sc:=[(1,0,.fix (.bool true)),(3,1,.fix (ag [rc x,rc y])),(4,1,.fix (.tuple #[.int .u64 (↑L:Int),.int .u64 (↑H:Int),.int .i64 (0:Int)])),(5,0,.fix (Rv most)),(6,3,.fix (Rv (-most))),(6,4,.fix (.int .i64 (cmpR x (-most)))),(6,5,.is (.c (.bool false))),(6,10,.fix (.int .i64 (cmpR y most))),(6,11,.is (.c (.bool false))),(8,4,.is (.c (.bool false))),(8,8,.is (.c (.bool false))),(8,12,.is (.c (.int .u64 ((↑(L/(4503599627370496:Nat)):Int))))),(8,13,.is (.c (.int .u64 ((↑(L/(4503599627370496:Nat)%(2048:Nat)):Int))))),(8,14,.is (.c (.bool false))),(8,18,.is (.c (.int .u64 ((↑(H/(4503599627370496:Nat)):Int))))),(8,19,.is (.c (.int .u64 ((↑(H/(4503599627370496:Nat)%(2048:Nat)):Int))))),(8,20,.is (.c (.bool false))),(12,1,.is (.c (.bool true))),(14,1,.fix (Rv (FlS L))),(14,4,.fix (.int .i64 (cmpR (FlS L) x))),(14,5,.is (.c (.bool true))),(14,9,.fix (Rv (abv L))),(14,12,.fix (.int .i64 (cmpR (abv L) x))),(14,13,.is (.c (.bool true))),(14,17,.fix (Rv (FlS H))),(14,20,.fix (.int .i64 (cmpR (FlS H) y))),(14,21,.is (.c (.bool true))),(14,26,.fix (Rv (-Fl (1:Nat)))),(14,29,.fix (.int .i64 (cmpR (-Fl (1:Nat)) y))),(14,30,.is (.c (.bool true)))]) (sb:=[]) (by kernel_rfl) (hC borderBegun_k (hC (rpair_k h1') (hC ht (hC rmost_k (hC (neg_k s1 (by decide +kernel)) (hC (cmp_k s2 s4 (by decide +kernel)) (hP (isB h5) (hC (cmp_k s6 s1 (by decide +kernel)) (hP (isB h7) (hP (isB q1) (hP (isB q2) (hP (shr52 (b:=L)) (hP (vU_of (u64and (x:=L/4503599627370496) 11 (by omega) (by decide))) (hP (isB q3) (hP (shr52 (b:=H)) (hP (vU_of (u64and (x:=H/4503599627370496) 11 (by omega) (by decide))) (hP (isB q4) (hP (isB hz) (hC (fltS_k f1) (hC (cmp_k s9 s2 (by decide +kernel)) (hP (isB c1) (hC (above_k f3) (hC (cmp_k s11 s2 (by decide +kernel)) (hP (isB c2) (hC (fltS_k f2) (hC (cmp_k s13 s6 (by decide +kernel)) (hP (isB c3) (hC (below3_k (b:=H)) (hC (cmp_k s16 s6 (by decide +kernel)) (hP (isB c4) hN))))))))))))))))))))))))))))))
section
variable {n1 n2:Bool} {a1 b1 a2 b2:ByteArray} {x y:Rat} {L H J1:Nat}
theorem FlBits.lt {b:Nat} (h:FlBits b):b < 18446744073709551616:=by
  rcases h with h | h<;>omega
theorem lw_fin (h1':IsS n1 a1 b1 n2 a2 b2 x y J1) (p1:Sz x 3000000) (p2:Sz y 3000000) (e1:-most≤x) (e2:y≤most) (ht:CSpec Tryz.prog 8 #[ag [rr n1 a1 b1,rr n2 a2 b2]] (.tuple #[.int .u64 (L:Int),.int .u64 (H:Int),.int .i64 0])) (lo:LoP x L) (hi:HiP y H):CSpec Tryz.prog 3 #[ag [rr n1 a1 b1,rr n2 a2 b2]] (.bool true):=by
  have q1:decide ((L:Int)=9223372036854775808)=false:=decide_eq_false (by have:=lo.ne; omega)
  have q2:decide ((H:Int)=9223372036854775808)=false:=decide_eq_false (by have:=hi.ne; omega)
  have q3:decide (((L/4503599627370496%2048:Nat):Int)=2047)=false:=decide_eq_false (by have:=lo.ex; omega)
  have q4:decide (((H/4503599627370496%2048:Nat):Int)=2047)=false:=decide_eq_false (by have:=hi.ex; omega)
  have c1:decide (cmpR (FlS L) x≤0)=true:=decide_eq_true (cmpR_le.2 lo.le)
  have c2:decide (0 < cmpR (abv L) x)=true:=decide_eq_true (cmpR_gt.2 lo.gt)
  have c3:decide (0≤cmpR (FlS H) y)=true:=decide_eq_true (cmpR_ge.2 hi.le)
  have g1:decide (cmpR x (-most) < 0)=false:=decide_eq_false (fun h=>absurd (cmpR_lt.1 h) (Rat.not_lt.2 e1))
  have g2:decide (0 < cmpR y most)=false:=decide_eq_false (fun h=>absurd (cmpR_gt.1 h) (Rat.not_lt.2 e2))
  by_cases hz:H=0
  · exact lwn0 h1' p1 p2 h1'.le ht lo.bits.lt hi.bits.lt lo.bits hi.bits lo.ab q1 q2 q3 q4 c1 c2 c3 (decide_eq_true (by omega)) (decide_eq_true (cmpR_lt.2 (hi.z hz))) g1 g2
  exact lwn1 h1' p1 p2 h1'.le ht lo.bits.lt hi.bits.lt lo.bits hi.bits lo.ab q1 q2 q3 q4 c1 c2 c3 (decide_eq_false (by omega)) (hi.gt hz).1 (decide_eq_true (cmpR_lt.2 (hi.gt hz).2)) g1 g2
end
theorem mx_p {x:Rat} (h:0≤x):mx x 0=x:=by unfold mx; rw [if_pos h]
theorem mx_0 (x:Rat):0≤mx x 0:=by unfold mx; split<;>grind
theorem most_0:0≤most:=by
  have:=Fl_mono (a:=0) (b:=9218868437227405311) (by decide)
  rw [Fl_zero] at this
  exact this
theorem mx_m {x:Rat} (h:x≤most):mx x 0≤most:=by
  unfold mx
  split
  · exact h
  exact most_0
theorem borderTo_law (n1:Bool) (a1 b1:ByteArray) (n2:Bool) (a2 b2:ByteArray) (s1:a1.size≤1048576) (t1:b1.size≤1048576) (s2:a2.size≤1048576) (t2:b2.size≤1048576):CSpec Tryz.prog 3 #[ag [rr n1 a1 b1,rr n2 a2 b2]] (.bool true):=by
  have r1:=IsR.raw n1 a1 b1 s1 t1 (by decide)
  have r2:=IsR.raw n2 a2 b2 s2 t2 (by decide)
  have i1:=IsS.raw r1 r2 (by decide) (by decide)
  have z1:=i1.sx.mono (show 1048576≤3000000 by decide)
  have z2:=i1.sy.mono (show 1048576≤3000000 by decide)
  have kk:1048576≤10000000:=by decide
  have o0:0≤9218868437227405312:=by decide
  have u0':0 < 9218868437227405312:=by decide
  generalize qv n1 a1 b1=x at *
  generalize qv n2 a2 b2=y at *
  cases hg:gs n1 a1 b1 n2 a2 b2 with
  | false =>
    rw [hg] at i1 z1 z2
    obtain ⟨u,hu⟩:=isU_m (x:=mx 0 0) (mx_0 0) (mx_m most_0)
    obtain ⟨o,ho⟩:=isO_ex hu
    have ht:=tob (o1:=0) (r1:=0) r1 r2 kk o0 u0' hg hu ho
    have e:mx (0:Rat) 0=0:=mx_p Rat.le_refl
    rw [e] at hu ho
    exact lw_fin i1 z1 z2 (show -most≤0 by have:=most_0; grind) (show (0:Rat)≤most from most_0) ht (lo_p hu) (hi_p ho Rat.le_refl most_0)
  | true =>
    rw [hg] at i1 z1 z2
    have hle:x≤y:=i1.le
    by_cases e1:x < -most
    · have c:=decide_eq_true (cmpR_lt.2 e1)
      exact lwe1 (L:=0) (H:=0) i1 z1 z2 hle (toe1 (u0:=0) (o0:=0) (o1:=0) (r1:=0) r1 r2 kk o0 u0' hg c) c
    have g1:=decide_eq_false (fun h=>e1 (cmpR_lt.1 h))
    by_cases e2:most < y
    · have c:=decide_eq_true (cmpR_gt.2 e2)
      exact lwe2 (L:=0) (H:=0) i1 z1 z2 hle (toe2 (u0:=0) (o0:=0) (o1:=0) (r1:=0) r1 r2 kk o0 u0' hg g1 c) g1 c
    have g2:=decide_eq_false (fun h=>e2 (cmpR_gt.1 h))
    have f1:-most≤x:=Rat.not_lt.1 e1
    have f2:y≤most:=Rat.not_lt.1 e2
    obtain ⟨u,hu⟩:=isU_m (x:=mx x 0) (mx_0 x) (mx_m (Rat.le_trans hle f2))
    obtain ⟨u2,hu2⟩:=isU_m (x:=mx y 0) (mx_0 y) (mx_m f2)
    obtain ⟨o,ho⟩:=isO_ex hu2
    by_cases hx:x < 0
    · have hxs:=decide_eq_true (sign_lt.2 hx)
      have hm:-x≤most:=by grind
      obtain ⟨v,hv⟩:=isU_m (x:=-x) (by grind) hm
      obtain ⟨p,hp⟩:=isO_ex hv
      have lo:=lo_n hp hx hm
      by_cases hy:y < 0
      · have hys:=decide_eq_true (sign_lt.2 hy)
        obtain ⟨r,hr⟩:=isU_m (x:=-y) (by grind) (by grind)
        rcases Nat.eq_zero_or_pos r with h0 | h0
        · subst h0
          exact lw_fin i1 z1 z2 f1 f2 (to12 r1 r2 kk hp.lt hr.lt hg hu ho hp hr g1 g2 hxs hys (by decide)) lo (hi_0 hr hy)
        exact lw_fin i1 z1 z2 f1 f2 (to11 r1 r2 kk hp.lt hr.lt hg hu ho hp hr g1 g2 hxs hys (decide_eq_true (by omega))) lo (hi_n hr h0)
      have hys:=decide_eq_false (fun h=>hy (sign_lt.1 h))
      have hy0:0≤y:=Rat.not_lt.1 hy
      have ht:=to10 (r1:=0) r1 r2 kk hp.lt u0' hg hu ho hp g1 g2 hxs hys
      rw [mx_p hy0] at ho
      exact lw_fin i1 z1 z2 f1 f2 ht lo (hi_p ho hy0 f2)
    have hxs:=decide_eq_false (fun h=>hx (sign_lt.1 h))
    have hx0:0≤x:=Rat.not_lt.1 hx
    have hy0:0≤y:=Rat.le_trans hx0 hle
    have hys:=decide_eq_false (fun h=>(Rat.not_lt.2 hy0) (sign_lt.1 h))
    have ht:=to00 (o1:=0) (r1:=0) r1 r2 kk o0 u0' hg hu ho g1 g2 hxs hys
    rw [mx_p hx0] at hu
    rw [mx_p hy0] at ho
    exact lw_fin i1 z1 z2 f1 f2 ht (lo_p hu) (hi_p ho hy0 f2)
end Go.Proofs.YtbfpmofhopglfaaGreatDoor.G
end
