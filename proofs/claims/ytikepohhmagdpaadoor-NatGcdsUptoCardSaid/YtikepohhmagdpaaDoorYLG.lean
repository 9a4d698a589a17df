import Derived.Test.YtikepohhmagdpaaDoorYRQ
import Derived.Test.YtikepohhmagdpaaDoorYRP
import Derived.Test.YtikepohhmagdpaaDoorYRS
section
namespace Go.Proofs.YtikepohhmagdpaaDoor.G
open Go.Proofs.YtikepohhmagdpaaDoor.U Go.RowKit
set_option linter.unusedVariables false
set_option maxRecDepth 100000
open Go.Proofs.YtikepohhmagdpaaDoor
def roS (n x:Nat):St:=⟨slots 41 0 [(0,.c (.string (M.B n))),(3,.c (.string (M.B x)))],[]⟩
def roE (x:Nat):St:=⟨slots 41 0 [(2,.c (.string (M.B x)))],[]⟩
theorem ro_go (n x q y s:Nat) (t u:ByteArray) (c:Int) (hd:CSpec Tryd.prog 157 #[.string (M.B n),.string (M.B x)] (.tuple #[.string (M.B q),.string t,.int .i64 0])) (ha:CSpec Tryd.prog 146 #[.string (M.B x),.string (M.B q)] (.string (M.B s))) (h2:CSpec Tryd.prog 157 #[.string (M.B s),.string ⟨#[2]⟩] (.tuple #[.string (M.B y),.string u,.int .i64 0])) (hc:CSpec Tryd.prog 129 #[.string (M.B y),.string (M.B x)] (.int .i64 c)) (hl:¬ c ≥ 0):TSpec Tryd.prog (loopOf Tryd.f110 0) (roS n x) (Ex.normal) (roS n y) :=
  tspec_dim (sc:=[(5,2,.fix (.tuple #[.string (M.B q),.string t,.int .i64 0])),(6,2,.fix (.string (M.B s))),(6,3,.fix (.tuple #[.string (M.B y),.string u,.int .i64 0])),(7,2,.fix (.int .i64 c)),(7,3,.is (.c (.bool false)))]) (sb:=[]) (obs:=[Ob.call 157 { toList:=[Value.string (M.B n),Value.string (M.B x)] } (Value.tuple { toList:=[Value.string (M.B q),Value.string t,Value.int IntKind.i64 (0:Int)] }),Ob.call 146 { toList:=[Value.string (M.B x),Value.string (M.B q)] } (Value.string (M.B s)),Ob.call 157 { toList:=[Value.string (M.B s),Value.string { data:=#[(2:UInt8)] }] } (Value.tuple { toList:=[Value.string (M.B y),Value.string u,Value.int IntKind.i64 (0:Int)] }),Ob.call 129 { toList:=[Value.string (M.B y),Value.string (M.B x)] } (Value.int IntKind.i64 c),Ob.prop (V.c (Value.bool (decide (c ≥ (0:Int)))) = vF)]) (mask 41 0 [0,3]) 0 (by kernel_rfl) (hC hd (hC ha (hC h2 (hC hc (hP (isB (decide_eq_false hl)) hN))))) trivial
theorem ro_end (n x q y s:Nat) (t u:ByteArray) (c:Int) (hd:CSpec Tryd.prog 157 #[.string (M.B n),.string (M.B x)] (.tuple #[.string (M.B q),.string t,.int .i64 0])) (ha:CSpec Tryd.prog 146 #[.string (M.B x),.string (M.B q)] (.string (M.B s))) (h2:CSpec Tryd.prog 157 #[.string (M.B s),.string ⟨#[2]⟩] (.tuple #[.string (M.B y),.string u,.int .i64 0])) (hc:CSpec Tryd.prog 129 #[.string (M.B y),.string (M.B x)] (.int .i64 c)) (hl:c ≥ 0):TSpec Tryd.prog (loopOf Tryd.f110 0) (roS n x) (Ex.ret) (roE x) :=
  tspec_dim (sc:=[(5,2,.fix (.tuple #[.string (M.B q),.string t,.int .i64 0])),(6,2,.fix (.string (M.B s))),(6,3,.fix (.tuple #[.string (M.B y),.string u,.int .i64 0])),(7,2,.fix (.int .i64 c)),(7,3,.is (.c (.bool true)))]) (sb:=[]) (obs:=[Ob.call 157 { toList:=[Value.string (M.B n),Value.string (M.B x)] } (Value.tuple { toList:=[Value.string (M.B q),Value.string t,Value.int IntKind.i64 (0:Int)] }),Ob.call 146 { toList:=[Value.string (M.B x),Value.string (M.B q)] } (Value.string (M.B s)),Ob.call 157 { toList:=[Value.string (M.B s),Value.string { data:=#[(2:UInt8)] }] } (Value.tuple { toList:=[Value.string (M.B y),Value.string u,Value.int IntKind.i64 (0:Int)] }),Ob.call 129 { toList:=[Value.string (M.B y),Value.string (M.B x)] } (Value.int IntKind.i64 c),Ob.prop (V.c (Value.bool (decide (c ≥ (0:Int)))) = vT)]) (mask 41 0 [2]) 0 (by kernel_rfl) (hC hd (hC ha (hC h2 (hC hc (hP (isB (decide_eq_true hl)) hN))))) trivial
theorem ro_fn (a z:ByteArray) (n x0 r h:Nat) (ht:CSpec Tryd.prog 152 #[.string a] (.string (M.B n))) (h0:M.B n ≠ ⟨#[]⟩) (hi:V.c (.int .i64 (IntKind.wrap .i64 (Int.tdiv (IntKind.wrap .i64 (((M.B n).size:Int) + 1)) 2))) = V.c (.int .i64 (h:Int))) (hr:CSpec Tryd.prog 160 #[.string ⟨#[0]⟩,.int .i64 (h:Int)] (.string z)) (hz:1 + z.size ≤ 9223372036854775807) (hx:⟨#[1]⟩ ++ z = M.B x0) (hs:TSpec Tryd.prog (.block 0 (.loop (loopOf Tryd.f110 0))) (roS n x0) .ret (roE r)):FSpec Tryd.prog 110 [.c (.string a)] [] (V.c (Value.string (M.B r))) [] :=
  fspec_ok Tryd.func110 (sc:=[(1,1,.fix (.string (M.B n))),(2,1,.is (.c (.bool false))),(4,3,.is (.c (.int .i64 (h:Int)))),(4,4,.fix (.string z)),(4,5,.fix (.string (M.B x0))),(0,99999,.mask (mask 41 0 [0,3]))]) (sb:=[(0,.ret,roE r)]) (keep:=[]) (obs:=[Ob.prop (Flat ([]:List (Option Row))),Ob.call 152 { toList:=[Value.string a] } (Value.string (M.B n)),Ob.prop (V.c (Value.bool (ByteArray.toList (M.B n) == ByteArray.toList { data:=#[] })) = vF),Ob.prop (vI (IntKind.wrap .i64 (Int.tdiv (IntKind.wrap .i64 ((↑(ByteArray.size (M.B n)):Int) + (1:Int))) (2:Int))) = vI ↑h),Ob.call 160 { toList:=[Value.string { data:=#[(0:UInt8)] },Value.int IntKind.i64 (↑h:Int)] } (Value.string z),Ob.val (execOp (St.rho ⟨(slots 19 0 [(18,V.c (Value.string z))]),[]⟩) { dst:=some 19,op:=Op.binOp BinOp.add 9 (Operand.const (Value.string { data:=#[(1:UInt8)] })) (Operand.tmp 18) 9,type:=9,pos := "nat.go:286",after:={ toList:=[{ on:=4,ground:=Ground.data }] },guard:=none }) (Value.string (M.B x0)),Ob.prop (Flat ([]:List (Option Row))),Ob.prop (TSpec Tryd.prog (Code.block 0 (Code.loop (loopOf Tryd.f110 0))) ({ t:=(slots 41 0 [(0,V.c (Value.string (M.B n))),(3,V.c (Value.string (M.B x0)))]),m:=[] }) (Ex.ret) (roE r))]) (by kernel_rfl) (hP trivial (hC ht (hP (isB (by rw [str_eq]; exact decide_eq_false h0)) (hP hi (hC hr (hV (sv_concat rfl rfl hz hx) (hP trivial (hP hs hN))))))))
theorem ro_nil (a:ByteArray) (n:Nat) (ht:CSpec Tryd.prog 152 #[.string a] (.string (M.B n))) (h0:M.B n = ⟨#[]⟩):FSpec Tryd.prog 110 [.c (.string a)] [] (V.c (Value.string { data:=#[] })) [] :=
  fspec_ok Tryd.func110 (sc:=[(1,1,.fix (.string (M.B n))),(2,1,.is (.c (.bool true)))]) (sb:=[]) (keep:=[]) (obs:=[Ob.prop (Flat ([]:List (Option Row))),Ob.call 152 { toList:=[Value.string a] } (Value.string (M.B n)),Ob.prop (V.c (Value.bool (ByteArray.toList (M.B n) == ByteArray.toList { data:=#[] })) = vT) ]) (by kernel_rfl) (hP trivial (hC ht (hP (isB (by rw [str_eq]; exact decide_eq_true h0)) hN)))
theorem repl0:∀ h:Nat,Lib.repeatL [0] h = List.replicate h (0:UInt8)
  | 0=>rfl
  | h + 1=>by rw [Lib.repeatL,repl0 h]; rfl
theorem be_zeros:∀ (h:Nat) (l:List UInt8),M.be (l ++ List.replicate h 0) = M.be l * 256 ^ h
  | 0,l=>by simp
  | h + 1,l=>by
    rw [List.replicate_succ',← List.append_assoc,M.be_snoc,be_zeros h l,Nat.pow_succ]
    simp
    rw [Nat.mul_assoc]
theorem B_pow (h:Nat):(⟨#[1]⟩:ByteArray) ++ ⟨(Lib.repeatL [0] h).toArray⟩ = M.B (256 ^ h):=by
  have hd:((⟨#[1]⟩:ByteArray) ++ ⟨(Lib.repeatL [0] h).toArray⟩).data.toList = 1 :: List.replicate h 0:=by
    rw [repl0,ByteArray.data_append]
    simp
  have hv:M.V ((⟨#[1]⟩:ByteArray) ++ ⟨(Lib.repeatL [0] h).toArray⟩) = 256 ^ h:=by
    unfold M.V
    rw [hd]
    have:=be_zeros h [1]
    rw [show M.be [1] = 1 from rfl,Nat.one_mul] at this
    exact this
  rw [← hv]
  refine (M.B_V ?_).symm
  intro c hc
  rw [hd] at hc
  simp at hc
  subst hc
  decide
theorem ro_mid {n r x:Nat} (hr:r * r ≤ n) (hx:0 < x):r ≤ (x + n / x) / 2:=by
  rw [Nat.le_div_iff_mul_le (by decide)]
  by_cases h:2 * r ≤ x
  · generalize n / x = q
    omega
  have h1:2 * r - x ≤ n / x:=by
    rw [Nat.le_div_iff_mul_le hx]
    have:(2 * r - x) * x ≤ r * r:=by
      obtain ⟨d,hd⟩:∃ d:Nat,2 * r = x + d:=⟨2 * r - x,by omega⟩
      rw [hd,Nat.add_sub_cancel_left]
      have e:(2 * r) * (2 * r) = (x + d) * (x + d):=by rw [hd]
      rcases Nat.le_total x d with l | l
      · obtain ⟨k,rfl⟩:=Nat.exists_eq_add_of_le l
        have e2:(x + (x + k)) * (x + (x + k)) = 4 * ((x + k) * x) + k * k:=by grind
        have e3:2 * r * (2 * r) = 4 * (r * r):=by grind
        omega
      obtain ⟨k,rfl⟩:=Nat.exists_eq_add_of_le l
      have e2:(d + k + d) * (d + k + d) = 4 * (d * (d + k)) + k * k:=by grind
      have e3:2 * r * (2 * r) = 4 * (r * r):=by grind
      omega
    omega
  generalize n / x = q at h1
  omega
theorem ro_loop {n r K:Nat} (hr:SB.IsRoot n r) (hr1:0 < r) (hn:n < 256 ^ K) (hK:K ≤ 2000000000):∀ (fuel x:Nat),x < fuel → 0 < x → r ≤ x → x < 256 ^ K → Rounds Tryd.prog (loopOf Tryd.f110 0) 0 (roS n x) .ret (roE r):=by
  intro fuel
  induction fuel with
  | zero=>intro x h; omega
  | succ fuel ih =>
    intro x hf h0 hx hs
    have zn:=M.size_B_le hn
    have zx:=M.size_B_le hs
    have hq:n / x < 256 ^ K:=Nat.lt_of_le_of_lt (Nat.div_le_self _ _) hn
    have zq:=M.size_B_le hq
    have hsum:x + n / x < 256 ^ (K + 1):=by
      have:256 ^ (K + 1) = 256 ^ K * 256:=Nat.pow_succ ..
      omega
    have zs:=M.size_B_le hsum
    have hd:=div_c (M.B n) (M.B x) (by omega) (by omega) (by rw [M.V_B]; omega)
    rw [M.V_B,M.V_B] at hd
    have ha:=add_c (M.B x) (M.B (n / x)) (by omega) (by omega)
    rw [M.V_B,M.V_B] at ha
    have h2:=div_c (M.B (x + n / x)) ⟨#[2]⟩ (by omega) (by decide) (by decide)
    rw [M.V_B,show M.V ⟨#[2]⟩ = 2 from rfl] at h2
    have hc:=cmp_c (M.B ((x + n / x) / 2)) (M.B x)
    rw [M.V_B,M.V_B] at hc
    have hm:=ro_mid hr.1 h0
    by_cases hge:SB.cmpN ((x + n / x) / 2) x ≥ 0
    · have h1:=SB.cmpN_nn.1 hge
      have h3:x ≤ n / x:=by omega
      rw [Nat.le_div_iff_mul_le h0] at h3
      have e:x = r:=by
        rcases Nat.lt_or_ge r x with l | l
        · exfalso
          have:=Nat.mul_le_mul (show r + 1 ≤ x by omega) (show r + 1 ≤ x by omega)
          have:=hr.2
          omega
        omega
      subst e
      exact .ret (ro_end n x _ _ _ _ _ _ hd ha h2 hc hge)
    have h1:¬ x ≤ (x + n / x) / 2:=fun h=>hge (SB.cmpN_nn.2 h)
    exact .step (ro_go n x _ _ _ _ _ _ hd ha h2 hc hge) (ih _ (by omega) (by omega) hm (by omega))
theorem ro_idx {m:Nat} (h:m ≤ 2000000000):V.c (.int .i64 (IntKind.wrap .i64 (Int.tdiv (IntKind.wrap .i64 ((m:Int) + 1)) 2))) = V.c (.int .i64 (((m + 1) / 2:Nat):Int)):=by
  have e1:IntKind.wrap .i64 ((m:Int) + 1) = ((m + 1:Nat):Int):=by
    simp [IntKind.wrap,IntKind.signed,IntKind.bits]
    omega
  have e2:Int.tdiv ((m + 1:Nat):Int) 2 = (((m + 1) / 2:Nat):Int):=by
    rw [Int.tdiv_eq_ediv_of_nonneg (Int.natCast_nonneg _)]
    omega
  rw [e1,e2]
  congr 2
  have:(m + 1) / 2 ≤ 2000000000:=by omega
  generalize (m + 1) / 2 = k at this
  simp [IntKind.wrap,IntKind.signed,IntKind.bits]
  omega
theorem root_c (a:ByteArray) (ha:a.size ≤ 1000000000):∃ r,CSpec Tryd.prog 110 #[.string a] (.string (M.B r)) ∧ SB.IsRoot (M.V a) r:=by
  obtain ⟨r,_,hr⟩:=SB.squared_spec a ha
  refine ⟨r,?_,hr⟩
  have ht:=trim_c a
  by_cases h0:M.V a = 0
  · have e : r = 0 := by
      have:=hr.1
      rw [h0] at this
      rcases Nat.eq_zero_or_pos r with h | h
      · exact h
      have:=Nat.mul_pos h h
      omega
    rw [e,M.B_zero]
    exact cspec_of (ro_nil a (M.V a) ht (B_nil h0))
  have hs:(M.B (M.V a)).size ≤ a.size:=M.size_B_le (M.V_lt a)
  have hlt:M.V a < 256 ^ (M.B (M.V a)).size:=M.lt_of_size_B (Nat.le_refl _)
  generalize M.V a = n at *
  have hm:(M.B n).size ≤ 1000000000:=by omega
  have hi:=ro_idx (m:=(M.B n).size) (by omega)
  have hh:(M.B n).size ≤ 2 * (((M.B n).size + 1) / 2):=by omega
  have hh2:((M.B n).size + 1) / 2 ≤ 600000000:=by omega
  generalize ((M.B n).size + 1) / 2 = h at *
  have hrep:=repeat_c ⟨#[0]⟩ h (by omega) (by show 1 * h ≤ _; omega)
  have hz:(⟨(Lib.repeatL [0] h).toArray⟩:ByteArray).size = h:=by
    show (Lib.repeatL [0] h).toArray.size = h
    rw [repl0]
    simp
  have hr1:0 < r:=by
    have:=hr.2
    rcases Nat.eq_zero_or_pos r with g | g
    · subst g; omega
    exact g
  have hx:r ≤ 256 ^ h:=by
    have h1:n < 256 ^ h * 256 ^ h:=by
      rw [← Nat.pow_add]
      exact Nat.lt_of_lt_of_le hlt (Nat.pow_le_pow_right (by decide) (by omega))
    rcases Nat.lt_or_ge (256 ^ h) r with g | g
    case inr=>exact g
    exfalso
    have:=Nat.mul_le_mul (Nat.le_of_lt g) (Nat.le_of_lt g)
    have:=hr.1
    omega
  have hp:0 < 256 ^ h:=Nat.pow_pos (by decide)
  have hn:n < 256 ^ ((M.B n).size + h + 1):=Nat.lt_of_lt_of_le hlt (Nat.pow_le_pow_right (by decide) (by omega))
  have hx2:256 ^ h < 256 ^ ((M.B n).size + h + 1):=Nat.pow_lt_pow_right (by decide) (by omega)
  have hl:=ro_loop hr hr1 hn (by omega) (256 ^ h + 1) (256 ^ h) (by omega) hp hx hx2
  exact cspec_of (ro_fn a _ n (256 ^ h) r h ht (B_ne h0) hi hrep (by rw [hz]; omega) (B_pow h) hl.spec)
end Go.Proofs.YtikepohhmagdpaaDoor.G
end
section
namespace Go.Proofs.YtikepohhmagdpaaDoor.G
open Go.Proofs.YtikepohhmagdpaaDoor.U Go.RowKit Go.Proofs.YtikepohhmagdpaaDoor.R
set_option linter.unusedVariables false
set_option maxRecDepth 100000
noncomputable def isq (n:Nat):Nat:=@dite _ (∃ r,SB.IsRoot n r) (Classical.propDecidable _) (fun h=>Classical.choose h) (fun _=>0)
theorem isq_eq {n r:Nat} (h:SB.IsRoot n r):isq n = r:=by
  unfold isq
  rw [dif_pos ⟨r,h⟩]
  exact SB.IsRoot.uniq (Classical.choose_spec (⟨r,h⟩:∃ r,SB.IsRoot n r)) h
theorem root_k {a:ByteArray} (ha:a.size ≤ 1000000000):CSpec Tryd.prog 110 #[.string a] (.string (M.B (isq (M.V a)))):=by
  obtain ⟨r,h,hr⟩:=root_c a ha
  rwa [isq_eq hr]
theorem squared_k {a:ByteArray} (ha:a.size ≤ 1000000000):CSpec Tryd.prog 111 #[.string a] (.string (M.B (isq (M.V a)))):=fun w _=>by
  obtain ⟨r,h,hr⟩:=SB.squared_spec a ha
  obtain ⟨i,hi⟩:=ev_some h
  rw [isq_eq hr]
  exact gantref1_Squared.calls i _ _ w hi
theorem gcdr_k {a b:ByteArray} (ha:a.size ≤ 1000000000) (hb:b.size ≤ 1000000000):CSpec Tryd.prog 108 #[.string a,.string b] (.string (M.B (Nat.gcd (M.V a) (M.V b)))):=gcd_c a b (by omega) (by omega)
theorem gcd46_k:CSpec Tryd.prog 108 #[.string ⟨#[4]⟩,.string ⟨#[6]⟩] (.string ⟨#[2]⟩):=by
  have h:=gcd_c ⟨#[4]⟩ ⟨#[6]⟩ (by decide) (by decide)
  have e:M.B (Nat.gcd (M.V ⟨#[4]⟩) (M.V ⟨#[6]⟩)) = ⟨#[2]⟩:=by
    have h:M.B (M.V ⟨#[2]⟩) = ⟨#[2]⟩:=SA.lead_of _ (.inr (by decide))
    exact h
  rwa [e] at h
theorem gg1 {a b:ByteArray} (ha:a.size ≤ 2000000) (hb:b.size ≤ 2000000) (h0:(ByteArray.toList (M.B (Nat.gcd (M.V a) (M.V b))) == ByteArray.toList (M.B (Nat.gcd (M.V a) (M.V b)))) = true) (h1:(ByteArray.toList (M.B (isq (M.V a))) == ByteArray.toList (M.B (isq (M.V a)))) = true):CSpec Tryd.prog 15 #[(.string a),(.string b)] (.bool true):=by
  exact fn_ok Tryd.func15 (sc:=[(1,0,.fix (.string ({ data:=#[(2:UInt8)] }))),(1,5,.fix (.string (M.B (Nat.gcd (M.V a) (M.V b))))),(1,8,.fix (.string (M.B (Nat.gcd (M.V a) (M.V b))))),(1,9,.is (.c (.bool true))),(1,13,.fix (.string (M.B (isq (M.V a))))),(1,15,.fix (.string (M.B (isq (M.V a))))),(1,16,.is (.c (.bool true)))]) (sb:=[]) (by kernel_rfl) (hC gcd46_k (hC (gcdr_k (a:=a) (b:=b) (by omega) (by omega)) (hC (rcommonr_k (a:=a) (b:=b) (by omega) (by omega)) (hP (isB h0) (hC (root_k (a:=a) (by omega)) (hC (squared_k (a:=a) (by omega)) (hP (isB h1) hN)))))))
theorem natGcds_law (a b:ByteArray) (ha:a.size ≤ 1048576) (hb:b.size ≤ 1048576):CSpec Tryd.prog 15 #[.string a,.string b] (.bool true):=gg1 (by omega) (by omega) (by simp) (by simp)
end Go.Proofs.YtikepohhmagdpaaDoor.G
end
