import Derived.Test.YtbfpmofhopglfaaGreatDoorYKA
import Derived.Test.YtbfpmofhopglfaaGreatDoorYRC
import Derived.Test.YtbfpmofhopglfaaGreatDoorYU5
import Derived.Test.YtbfpmofhopglfaaGreatDoorProg
import Derived.Shelf.Strings.Repeat
import Derived.KernelRfl
import Derived.Test.YtbfpmofhopglfaaGreatDoorYRS
import Derived.Test.YtbfpmofhopglfaaGreatDoorYBA
set_option maxRecDepth 100000
set_option linter.unusedVariables false
section
namespace Go.Proofs.YtbfpmofhopglfaaGreatDoor.G
open Go.Proofs.YtbfpmofhopglfaaGreatDoor.U Go.RowKit
def SzN (m K:Nat):Prop:=m < 256^K
end Go.Proofs.YtbfpmofhopglfaaGreatDoor.G
end
section
namespace Go.Proofs.YtbfpmofhopglfaaGreatDoor.G
open Go.Proofs.YtbfpmofhopglfaaGreatDoor.U Go.RowKit Go.Proofs.YtbfpmofhopglfaaGreatDoor.A Go.Proofs.YtbfpmofhopglfaaGreatDoor.B Go.Proofs.YtbfpmofhopglfaaGreatDoor.C Go.Proofs.YtbfpmofhopglfaaGreatDoor.R Go.Proofs.YtbfpmofhopglfaaGreatDoor.H
section
variable {k l K L:Nat}
theorem num_s {x:Rat} (h:Sz x K):SzN x.num.natAbs K:=h.1
theorem den_s {x:Rat} (h:Sz x K):SzN x.den K:=h.2
theorem SzN.size (h:SzN k K):(M.B k).size≤K:=M.size_B_le h
theorem rtimes_k (h1:SzN k K) (h2:SzN l L) (hs:K+L≤17179869184):CSpec Tryz.prog 31 #[.string (M.B k),.string (M.B l)] (.string (M.B (k*l))):=fun w _=>by
  obtain ⟨i,hi⟩:=ev_some (SB.times_spec (M.B k) (M.B l) (by have:=h1.size; omega) (by have:=h2.size; omega))
  rw [M.V_B,M.V_B] at hi
  exact gantref1_Times.calls i _ _ _ w hi
end
end Go.Proofs.YtbfpmofhopglfaaGreatDoor.G
end
section
namespace Go.Proofs.YtbfpmofhopglfaaGreatDoor.G
open Go.Proofs.YtbfpmofhopglfaaGreatDoor.U Go.RowKit
theorem str_eq (a b:ByteArray):(a.toList==b.toList)=decide (a=b):=by
  have:=str_neq a b
  by_cases h:a=b
  · subst h; simp
  rw [decide_eq_true h] at this
  rw [decide_eq_false h]
  simpa using this
end Go.Proofs.YtbfpmofhopglfaaGreatDoor.G
end
section
namespace Go.Proofs.YtbfpmofhopglfaaGreatDoor.G
open Go.Proofs.YtbfpmofhopglfaaGreatDoor.U Go.Shelf
def ren:Ren:=⟨fun x=>if x=99 then 134 else if x=105 then 111 else if x=165 then 135 else if x=166 then 136 else if x=169 then 138 else if x=170 then 137 else if x=206 then 163 else if x=212 then 133 else if x=240 then 164 else if x=241 then 165 else if x=263 then 161 else if x=264 then 162 else if x=276 then 172 else if x=277 then 173 else 0,fun x=>if x=0 then 0 else if x=3 then 3 else if x=4 then 4 else if x=5 then 5 else if x=9 then 9 else if x=20 then 20 else if x=37 then 75 else if x=46 then 35 else if x=51 then 111 else if x=53 then 28 else if x=70 then 155 else if x=72 then 157 else if x=75 then 160 else if x=76 then 161 else if x=80 then 164 else if x=109 then 152 else if x=127 then 188 else if x=146 then 184 else if x=148 then 186 else if x=164 then 193 else 0,fun x=>x⟩
theorem ren_lays:Lays.n105 Tryz.prog ren where
  mixed:=by kernel_rfl
  f99:=by kernel_rfl
  f105:=by kernel_rfl
  f165:=by kernel_rfl
  f166:=by kernel_rfl
  f169:=by kernel_rfl
  f170:=by kernel_rfl
  f206:=by kernel_rfl
  f212:=by kernel_rfl
  f240:=by kernel_rfl
  f241:=by kernel_rfl
  f263:=by kernel_rfl
  f264:=by kernel_rfl
  f276:=by kernel_rfl
  f277:=by kernel_rfl
  t0:=by kernel_rfl
  a0:=fun w=>sval_run (by kernel_rfl) w
  z0:=fun w=>sval_run (by kernel_rfl) w
  v0:=fun w=>sval_run (by kernel_rfl) w
  t3:=by kernel_rfl
  a3:=fun w=>sval_run (by kernel_rfl) w
  z3:=fun w=>sval_run (by kernel_rfl) w
  v3:=fun w=>sval_run (by kernel_rfl) w
  t4:=by kernel_rfl
  a4:=fun w=>sval_run (by kernel_rfl) w
  z4:=fun w=>sval_run (by kernel_rfl) w
  v4:=fun w=>sval_run (by kernel_rfl) w
  t5:=by kernel_rfl
  a5:=fun w=>sval_run (by kernel_rfl) w
  z5:=fun w=>sval_run (by kernel_rfl) w
  v5:=fun w=>sval_run (by kernel_rfl) w
  t9:=by kernel_rfl
  a9:=fun w=>sval_run (by kernel_rfl) w
  z9:=fun w=>sval_run (by kernel_rfl) w
  v9:=fun w=>sval_run (by kernel_rfl) w
  t20:=by kernel_rfl
  a20:=fun w=>sval_run (by kernel_rfl) w
  z20:=fun w=>sval_run (by kernel_rfl) w
  v20:=fun w=>sval_run (by kernel_rfl) w
  t37:=by kernel_rfl
  a37:=fun w=>sval_run (by kernel_rfl) w
  z37:=fun w=>sval_run (by kernel_rfl) w
  v37:=fun w=>sval_run (by kernel_rfl) w
  t46:=by kernel_rfl
  a46:=fun w=>sval_run (by kernel_rfl) w
  z46:=fun w=>sval_run (by kernel_rfl) w
  v46:=fun w=>sval_run (by kernel_rfl) w
  t51:=by kernel_rfl
  a51:=fun w=>sval_run (by kernel_rfl) w
  z51:=fun w=>sval_run (by kernel_rfl) w
  v51:=fun w=>sval_run (by kernel_rfl) w
  t53:=by kernel_rfl
  a53:=fun w=>sval_run (by kernel_rfl) w
  z53:=fun w=>sval_run (by kernel_rfl) w
  v53:=fun w=>sval_run (by kernel_rfl) w
  t70:=by kernel_rfl
  a70:=fun w=>sval_run (by kernel_rfl) w
  z70:=fun w=>sval_run (by kernel_rfl) w
  v70:=fun w=>sval_run (by kernel_rfl) w
  t72:=by kernel_rfl
  a72:=fun w=>sval_run (by kernel_rfl) w
  z72:=fun w=>sval_run (by kernel_rfl) w
  v72:=fun w=>sval_run (by kernel_rfl) w
  t75:=by kernel_rfl
  a75:=fun w=>sval_run (by kernel_rfl) w
  z75:=fun w=>sval_run (by kernel_rfl) w
  v75:=fun w=>sval_run (by kernel_rfl) w
  t76:=by kernel_rfl
  a76:=fun w=>sval_run (by kernel_rfl) w
  z76:=fun w=>sval_run (by kernel_rfl) w
  v76:=fun w=>sval_run (by kernel_rfl) w
  t109:=by kernel_rfl
  a109:=fun w=>sval_run (by kernel_rfl) w
  z109:=fun w=>sval_run (by kernel_rfl) w
  v109:=fun w=>sval_run (by kernel_rfl) w
  t127:=by kernel_rfl
  a127:=fun w=>sval_run (by kernel_rfl) w
  z127:=fun w=>sval_run (by kernel_rfl) w
  v127:=fun w=>sval_run (by kernel_rfl) w
  t146:=by kernel_rfl
  a146:=fun w=>sval_run (by kernel_rfl) w
  z146:=fun w=>sval_run (by kernel_rfl) w
  v146:=fun w=>sval_run (by kernel_rfl) w
  t148:=by kernel_rfl
  a148:=fun w=>sval_run (by kernel_rfl) w
  z148:=fun w=>sval_run (by kernel_rfl) w
  v148:=fun w=>sval_run (by kernel_rfl) w
  t164:=by kernel_rfl
  a164:=fun w=>sval_run (by kernel_rfl) w
  z164:=fun w=>sval_run (by kernel_rfl) w
  v164:=fun w=>sval_run (by kernel_rfl) w
theorem ren_extra:Builder.Extra Tryz.prog ren where
  sizeBuilder:=by kernel_rfl
  liesBuilder:=by kernel_rfl
  t5:=by kernel_rfl
  a5:=fun w=>sval_run (by kernel_rfl) w
  z5:=fun w=>sval_run (by kernel_rfl) w
  v5:=fun w=>sval_run (by kernel_rfl) w
  infoByte:=by kernel_rfl
  cellsByte:=by kernel_rfl
  sizeByte:=by kernel_rfl
  neB5:=by decide
theorem repeat_c (s:ByteArray) (c:Nat) (hc:c≤9223372036854775807) (hl:s.size*c≤140737488355328):CSpec Tryz.prog 111 #[.string s,.int .i64 (c:Int)] (.string ⟨(Lib.repeatL s.data.toList c).toArray⟩):=fun w _=>Any.strings_Repeat ren_lays ren_extra s c w hc hl
end Go.Proofs.YtbfpmofhopglfaaGreatDoor.G
end
section
namespace Go.Proofs.YtbfpmofhopglfaaGreatDoor.G
open Go.Proofs.YtbfpmofhopglfaaGreatDoor.U Go.RowKit
open Go.Proofs.YtbfpmofhopglfaaGreatDoor
def roS (n x:Nat):St:=⟨slots 41 0 [(0,.c (.string (M.B n))),(3,.c (.string (M.B x)))],[]⟩
def roE (x:Nat):St:=⟨slots 41 0 [(2,.c (.string (M.B x)))],[]⟩
theorem ro_go (n x q y s:Nat) (t u:ByteArray) (c:Int) (hd:CSpec Tryz.prog 106 #[.string (M.B n),.string (M.B x)] (.tuple #[.string (M.B q),.string t,.int .i64 0])) (ha:CSpec Tryz.prog 65 #[.string (M.B x),.string (M.B q)] (.string (M.B s))) (h2:CSpec Tryz.prog 106 #[.string (M.B s),.string ⟨#[2]⟩] (.tuple #[.string (M.B y),.string u,.int .i64 0])) (hc:CSpec Tryz.prog 54 #[.string (M.B y),.string (M.B x)] (.int .i64 c)) (hl:¬ c≥0):TSpec Tryz.prog (loopOf Tryz.f76 0) (roS n x) (Ex.normal) (roS n y) :=
  tspec_dim (sc:=[(5,2,.fix (.tuple #[.string (M.B q),.string t,.int .i64 0])),(6,2,.fix (.string (M.B s))),(6,3,.fix (.tuple #[.string (M.B y),.string u,.int .i64 0])),(7,2,.fix (.int .i64 c)),(7,3,.is (.c (.bool false)))]) (sb:=[]) (obs:=[Ob.call 106 { toList:=[Value.string (M.B n),Value.string (M.B x)] } (Value.tuple { toList:=[Value.string (M.B q),Value.string t,Value.int IntKind.i64 (0:Int)] }),Ob.call 65 { toList:=[Value.string (M.B x),Value.string (M.B q)] } (Value.string (M.B s)),Ob.call 106 { toList:=[Value.string (M.B s),Value.string { data:=#[(2:UInt8)] }] } (Value.tuple { toList:=[Value.string (M.B y),Value.string u,Value.int IntKind.i64 (0:Int)] }),Ob.call 54 { toList:=[Value.string (M.B y),Value.string (M.B x)] } (Value.int IntKind.i64 c),Ob.prop (V.c (Value.bool (decide (c≥(0:Int))))=vF)]) (mask 41 0 [0,3]) 0 (by kernel_rfl) (hC hd (hC ha (hC h2 (hC hc (hP (isB (decide_eq_false hl)) hN))))) trivial
theorem ro_end (n x q y s:Nat) (t u:ByteArray) (c:Int) (hd:CSpec Tryz.prog 106 #[.string (M.B n),.string (M.B x)] (.tuple #[.string (M.B q),.string t,.int .i64 0])) (ha:CSpec Tryz.prog 65 #[.string (M.B x),.string (M.B q)] (.string (M.B s))) (h2:CSpec Tryz.prog 106 #[.string (M.B s),.string ⟨#[2]⟩] (.tuple #[.string (M.B y),.string u,.int .i64 0])) (hc:CSpec Tryz.prog 54 #[.string (M.B y),.string (M.B x)] (.int .i64 c)) (hl:c≥0):TSpec Tryz.prog (loopOf Tryz.f76 0) (roS n x) (Ex.ret) (roE x) :=
  tspec_dim (sc:=[(5,2,.fix (.tuple #[.string (M.B q),.string t,.int .i64 0])),(6,2,.fix (.string (M.B s))),(6,3,.fix (.tuple #[.string (M.B y),.string u,.int .i64 0])),(7,2,.fix (.int .i64 c)),(7,3,.is (.c (.bool true)))]) (sb:=[]) (obs:=[Ob.call 106 { toList:=[Value.string (M.B n),Value.string (M.B x)] } (Value.tuple { toList:=[Value.string (M.B q),Value.string t,Value.int IntKind.i64 (0:Int)] }),Ob.call 65 { toList:=[Value.string (M.B x),Value.string (M.B q)] } (Value.string (M.B s)),Ob.call 106 { toList:=[Value.string (M.B s),Value.string { data:=#[(2:UInt8)] }] } (Value.tuple { toList:=[Value.string (M.B y),Value.string u,Value.int IntKind.i64 (0:Int)] }),Ob.call 54 { toList:=[Value.string (M.B y),Value.string (M.B x)] } (Value.int IntKind.i64 c),Ob.prop (V.c (Value.bool (decide (c≥(0:Int))))=vT)]) (mask 41 0 [2]) 0 (by kernel_rfl) (hC hd (hC ha (hC h2 (hC hc (hP (isB (decide_eq_true hl)) hN))))) trivial
theorem ro_fn (a z:ByteArray) (n x0 r h:Nat) (ht:CSpec Tryz.prog 92 #[.string a] (.string (M.B n))) (h0:M.B n≠⟨#[]⟩) (hi:V.c (.int .i64 (IntKind.wrap .i64 (Int.tdiv (IntKind.wrap .i64 (((M.B n).size:Int)+1)) 2)))=V.c (.int .i64 (h:Int))) (hr:CSpec Tryz.prog 111 #[.string ⟨#[0]⟩,.int .i64 (h:Int)] (.string z)) (hz:1+z.size≤9223372036854775807) (hx:⟨#[1]⟩++z=M.B x0) (hs:TSpec Tryz.prog (.block 0 (.loop (loopOf Tryz.f76 0))) (roS n x0) .ret (roE r)):FSpec Tryz.prog 76 [.c (.string a)] [] (V.c (Value.string (M.B r))) [] :=
  fspec_ok Tryz.func76 (sc:=[(1,1,.fix (.string (M.B n))),(2,1,.is (.c (.bool false))),(4,3,.is (.c (.int .i64 (h:Int)))),(4,4,.fix (.string z)),(4,5,.fix (.string (M.B x0))),(0,99999,.mask (mask 41 0 [0,3]))]) (sb:=[(0,.ret,roE r)]) (keep:=[]) (obs:=[Ob.prop (Flat ([]:List (Option Row))),Ob.call 92 { toList:=[Value.string a] } (Value.string (M.B n)),Ob.prop (V.c (Value.bool (ByteArray.toList (M.B n)==ByteArray.toList { data:=#[] }))=vF),Ob.prop (vI (IntKind.wrap .i64 (Int.tdiv (IntKind.wrap .i64 ((↑(ByteArray.size (M.B n)):Int)+(1:Int))) (2:Int)))=vI ↑h),Ob.call 111 { toList:=[Value.string { data:=#[(0:UInt8)] },Value.int IntKind.i64 (↑h:Int)] } (Value.string z),Ob.val (execOp (St.rho ⟨(slots 19 0 [(18,V.c (Value.string z))]),[]⟩) { dst:=some 19,op:=Op.binOp BinOp.add 9 (Operand.const (Value.string { data:=#[(1:UInt8)] })) (Operand.tmp 18) 9,type:=9,pos := "nat.go:286",after:={ toList:=[{ on:=4,ground:=Ground.data }] },guard:=none }) (Value.string (M.B x0)),Ob.prop (Flat ([]:List (Option Row))),Ob.prop (TSpec Tryz.prog (Code.block 0 (Code.loop (loopOf Tryz.f76 0))) ({ t:=(slots 41 0 [(0,V.c (Value.string (M.B n))),(3,V.c (Value.string (M.B x0)))]),m:=[] }) (Ex.ret) (roE r))]) (by kernel_rfl) (hP trivial (hC ht (hP (isB (by rw [str_eq]; exact decide_eq_false h0)) (hP hi (hC hr (hV (sv_concat rfl rfl hz hx) (hP trivial (hP hs hN))))))))
theorem ro_nil (a:ByteArray) (n:Nat) (ht:CSpec Tryz.prog 92 #[.string a] (.string (M.B n))) (h0:M.B n=⟨#[]⟩):FSpec Tryz.prog 76 [.c (.string a)] [] (V.c (Value.string { data:=#[] })) [] :=
  fspec_ok Tryz.func76 (sc:=[(1,1,.fix (.string (M.B n))),(2,1,.is (.c (.bool true)))]) (sb:=[]) (keep:=[]) (obs:=[Ob.prop (Flat ([]:List (Option Row))),Ob.call 92 { toList:=[Value.string a] } (Value.string (M.B n)),Ob.prop (V.c (Value.bool (ByteArray.toList (M.B n)==ByteArray.toList { data:=#[] }))=vT) ]) (by kernel_rfl) (hP trivial (hC ht (hP (isB (by rw [str_eq]; exact decide_eq_true h0)) hN)))
theorem repl0:∀ h:Nat,Lib.repeatL [0] h=List.replicate h (0:UInt8)
  | 0=>rfl
  | h+1=>by rw [Lib.repeatL,repl0 h]; rfl
theorem be_zeros:∀ (h:Nat) (l:List UInt8),M.be (l++List.replicate h 0)=M.be l*256^h
  | 0,l=>by simp
  | h+1,l=>by
    rw [List.replicate_succ',← List.append_assoc,M.be_snoc,be_zeros h l,Nat.pow_succ]
    simp
    rw [Nat.mul_assoc]
theorem B_pow (h:Nat):(⟨#[1]⟩:ByteArray)++⟨(Lib.repeatL [0] h).toArray⟩=M.B (256^h):=by
  have hd:((⟨#[1]⟩:ByteArray)++⟨(Lib.repeatL [0] h).toArray⟩).data.toList=1::List.replicate h 0:=by
    rw [repl0,ByteArray.data_append]
    simp
  have hv:M.V ((⟨#[1]⟩:ByteArray)++⟨(Lib.repeatL [0] h).toArray⟩)=256^h:=by
    unfold M.V
    rw [hd]
    have:=be_zeros h [1]
    rw [show M.be [1]=1 from rfl,Nat.one_mul] at this
    exact this
  rw [← hv]
  refine (M.B_V ?_).symm
  intro c hc
  rw [hd] at hc
  simp at hc
  subst hc
  decide
theorem ro_mid {n r x:Nat} (hr:r*r≤n) (hx:0 < x):r≤(x+n/x)/2:=by
  rw [Nat.le_div_iff_mul_le (by decide)]
  by_cases h:2*r≤x
  · generalize n/x=q
    omega
  have h1:2*r - x≤n/x:=by
    rw [Nat.le_div_iff_mul_le hx]
    have:(2*r - x)*x≤r*r:=by
      obtain ⟨d,hd⟩:∃ d:Nat,2*r=x+d:=⟨2*r - x,by omega⟩
      rw [hd,Nat.add_sub_cancel_left]
      have e:(2*r)*(2*r)=(x+d)*(x+d):=by rw [hd]
      rcases Nat.le_total x d with l | l
      · obtain ⟨k,rfl⟩:=Nat.exists_eq_add_of_le l
        have e2:(x+(x+k))*(x+(x+k))=4*((x+k)*x)+k*k:=by grind
        have e3:2*r*(2*r)=4*(r*r):=by grind
        omega
      obtain ⟨k,rfl⟩:=Nat.exists_eq_add_of_le l
      have e2:(d+k+d)*(d+k+d)=4*(d*(d+k))+k*k:=by grind
      have e3:2*r*(2*r)=4*(r*r):=by grind
      omega
    omega
  generalize n/x=q at h1
  omega
theorem ro_loop {n r K:Nat} (hr:SB.IsRoot n r) (hr1:0 < r) (hn:n < 256^K) (hK:K≤2000000000):∀ (fuel x:Nat),x < fuel→0 < x→r≤x→x < 256^K→Rounds Tryz.prog (loopOf Tryz.f76 0) 0 (roS n x) .ret (roE r):=by
  intro fuel
  induction fuel with
  | zero=>intro x h; omega
  | succ fuel ih =>
    intro x hf h0 hx hs
    have zn:=M.size_B_le hn
    have zx:=M.size_B_le hs
    have hq:n/x < 256^K:=Nat.lt_of_le_of_lt (Nat.div_le_self _ _) hn
    have zq:=M.size_B_le hq
    have hsum:x+n/x < 256^(K+1):=by
      have:256^(K+1)=256^K*256:=Nat.pow_succ ..
      omega
    have zs:=M.size_B_le hsum
    have hd:=div_c (M.B n) (M.B x) (by omega) (by omega) (by rw [M.V_B]; omega)
    rw [M.V_B,M.V_B] at hd
    have ha:=add_c (M.B x) (M.B (n/x)) (by omega) (by omega)
    rw [M.V_B,M.V_B] at ha
    have h2:=div_c (M.B (x+n/x)) ⟨#[2]⟩ (by omega) (by decide) (by decide)
    rw [M.V_B,show M.V ⟨#[2]⟩=2 from rfl] at h2
    have hc:=cmp_c (M.B ((x+n/x)/2)) (M.B x)
    rw [M.V_B,M.V_B] at hc
    have hm:=ro_mid hr.1 h0
    by_cases hge:SB.cmpN ((x+n/x)/2) x≥0
    · have h1:=SB.cmpN_nn.1 hge
      have h3:x≤n/x:=by omega
      rw [Nat.le_div_iff_mul_le h0] at h3
      have e:x=r:=by
        rcases Nat.lt_or_ge r x with l | l
        · exfalso
          have:=Nat.mul_le_mul (show r+1≤x by omega) (show r+1≤x by omega)
          have:=hr.2
          omega
        omega
      subst e
      exact .ret (ro_end n x _ _ _ _ _ _ hd ha h2 hc hge)
    have h1:¬ x≤(x+n/x)/2:=fun h=>hge (SB.cmpN_nn.2 h)
    exact .step (ro_go n x _ _ _ _ _ _ hd ha h2 hc hge) (ih _ (by omega) (by omega) hm (by omega))
theorem ro_idx {m:Nat} (h:m≤2000000000):V.c (.int .i64 (IntKind.wrap .i64 (Int.tdiv (IntKind.wrap .i64 ((m:Int)+1)) 2)))=V.c (.int .i64 (((m+1)/2:Nat):Int)):=by
  have e1:IntKind.wrap .i64 ((m:Int)+1)=((m+1:Nat):Int):=by
    simp [IntKind.wrap,IntKind.signed,IntKind.bits]
    omega
  have e2:Int.tdiv ((m+1:Nat):Int) 2=(((m+1)/2:Nat):Int):=by
    rw [Int.tdiv_eq_ediv_of_nonneg (Int.natCast_nonneg _)]
    omega
  rw [e1,e2]
  congr 2
  have:(m+1)/2≤2000000000:=by omega
  generalize (m+1)/2=k at this
  simp [IntKind.wrap,IntKind.signed,IntKind.bits]
  omega
theorem root_c (a:ByteArray) (ha:a.size≤1000000000):∃ r,CSpec Tryz.prog 76 #[.string a] (.string (M.B r))∧SB.IsRoot (M.V a) r:=by
  obtain ⟨r,_,hr⟩:=SB.squared_spec a ha
  refine ⟨r,?_,hr⟩
  have ht:=trim_c a
  by_cases h0:M.V a=0
  · have e : r = 0 := by
      have:=hr.1
      rw [h0] at this
      rcases Nat.eq_zero_or_pos r with h | h
      · exact h
      have:=Nat.mul_pos h h
      omega
    rw [e,M.B_zero]
    exact cspec_of (ro_nil a (M.V a) ht (B_nil h0))
  have hs:(M.B (M.V a)).size≤a.size:=M.size_B_le (M.V_lt a)
  have hlt:M.V a < 256^(M.B (M.V a)).size:=M.lt_of_size_B (Nat.le_refl _)
  generalize M.V a=n at *
  have hm:(M.B n).size≤1000000000:=by omega
  have hi:=ro_idx (m:=(M.B n).size) (by omega)
  have hh:(M.B n).size≤2*(((M.B n).size+1)/2):=by omega
  have hh2:((M.B n).size+1)/2≤600000000:=by omega
  generalize ((M.B n).size+1)/2=h at *
  have hrep:=repeat_c ⟨#[0]⟩ h (by omega) (by show 1*h≤_; omega)
  have hz:(⟨(Lib.repeatL [0] h).toArray⟩:ByteArray).size=h:=by
    show (Lib.repeatL [0] h).toArray.size=h
    rw [repl0]
    simp
  have hr1:0 < r:=by
    have:=hr.2
    rcases Nat.eq_zero_or_pos r with g | g
    · subst g; omega
    exact g
  have hx:r≤256^h:=by
    have h1:n < 256^h*256^h:=by
      rw [← Nat.pow_add]
      exact Nat.lt_of_lt_of_le hlt (Nat.pow_le_pow_right (by decide) (by omega))
    rcases Nat.lt_or_ge (256^h) r with g | g
    case inr=>exact g
    exfalso
    have:=Nat.mul_le_mul (Nat.le_of_lt g) (Nat.le_of_lt g)
    have:=hr.1
    omega
  have hp:0 < 256^h:=Nat.pow_pos (by decide)
  have hn:n < 256^((M.B n).size+h+1):=Nat.lt_of_lt_of_le hlt (Nat.pow_le_pow_right (by decide) (by omega))
  have hx2:256^h < 256^((M.B n).size+h+1):=Nat.pow_lt_pow_right (by decide) (by omega)
  have hl:=ro_loop hr hr1 hn (by omega) (256^h+1) (256^h) (by omega) hp hx hx2
  exact cspec_of (ro_fn a _ n (256^h) r h ht (B_ne h0) hi hrep (by rw [hz]; omega) (B_pow h) hl.spec)
end Go.Proofs.YtbfpmofhopglfaaGreatDoor.G
end
section
namespace Go.Proofs.YtbfpmofhopglfaaGreatDoor.G
open Go.Proofs.YtbfpmofhopglfaaGreatDoor.U Go.RowKit Go.Proofs.YtbfpmofhopglfaaGreatDoor.R
noncomputable def isq (n:Nat):Nat:=@dite _ (∃ r,SB.IsRoot n r) (Classical.propDecidable _) (fun h=>Classical.choose h) (fun _=>0)
theorem isq_eq {n r:Nat} (h:SB.IsRoot n r):isq n=r:=by
  unfold isq
  rw [dif_pos ⟨r,h⟩]
  exact SB.IsRoot.uniq (Classical.choose_spec (⟨r,h⟩:∃ r,SB.IsRoot n r)) h
theorem root_k {a:ByteArray} (ha:a.size≤1000000000):CSpec Tryz.prog 76 #[.string a] (.string (M.B (isq (M.V a)))):=by
  obtain ⟨r,h,hr⟩:=root_c a ha
  rwa [isq_eq hr]
theorem squared_k {a:ByteArray} (ha:a.size≤1000000000):CSpec Tryz.prog 29 #[.string a] (.string (M.B (isq (M.V a)))):=fun w _=>by
  obtain ⟨r,h,hr⟩:=SB.squared_spec a ha
  obtain ⟨i,hi⟩:=ev_some h
  rw [isq_eq hr]
  exact gantref1_Squared.calls i _ _ w hi
end Go.Proofs.YtbfpmofhopglfaaGreatDoor.G
end
section
namespace Go.Proofs.YtbfpmofhopglfaaGreatDoor.G
open Go.Proofs.YtbfpmofhopglfaaGreatDoor.U Go.RowKit
noncomputable def rho (k d:Nat):Rat:=qv false (M.B (isq k)) (M.B (isq d))
theorem isq_le (k:Nat):isq k≤k:=by
  by_cases h:∃ r,SB.IsRoot k r
  · obtain ⟨r,hr⟩:=h
    rw [isq_eq hr]
    rcases Nat.eq_zero_or_pos r with g | g
    · omega
    exact Nat.le_trans (Nat.le_mul_of_pos_left r g) hr.1
  unfold isq
  rw [dif_neg h]
  exact Nat.zero_le _
theorem isq_s {k K:Nat} (h:SzN k K):SzN (isq k) K:=Nat.lt_of_le_of_lt (isq_le k) h
theorem rho_s {k d K D:Nat} (h1:SzN k K) (h2:SzN d D):IsR false (M.B (isq k)) (M.B (isq d)) (rho k d) (K+D+1) :=
  IsR.raw _ _ _ (Nat.le_trans (isq_s h1).size (by omega)) (Nat.le_trans (isq_s h2).size (by omega)) (by omega)
def Perf (q:Rat):Prop:=isq q.num.natAbs*isq q.num.natAbs=q.num.natAbs∧isq q.den*isq q.den=q.den
theorem can_nd {n d:Nat} (hd:d≠0) (h:Nat.gcd n d=1):Can false (M.B n) (M.B d) :=
  ⟨by rw [M.V_B]; exact hd,by rw [M.V_B],by rw [M.V_B],by rw [M.V_B,M.V_B]; exact h,fun _=>rfl⟩
theorem qv_nd {n d:Nat} (hd:d≠0) (h:Nat.gcd n d=1):(qv false (M.B n) (M.B d)).num=n∧(qv false (M.B n) (M.B d)).den=d:=by
  have hc:=can_nd hd h
  unfold qv
  rw [dif_pos hc]
  exact ⟨by show sgn false (M.V (M.B n))=_; rw [M.V_B]; rfl,M.V_B d⟩
theorem sq_nd {n d:Nat} (hd:d≠0) (h:Nat.gcd n d=1):(qv false (M.B n) (M.B d)*qv false (M.B n) (M.B d)).num=((n*n:Nat):Int)∧(qv false (M.B n) (M.B d)*qv false (M.B n) (M.B d)).den=d*d:=by
  obtain ⟨h1,h2⟩:=qv_nd hd h
  rw [Rat.mul_def',h1,h2,show (n:Int)*(n:Int)=sgn false (n*n) by simp [sgn]]
  have hz:d*d≠0:=Nat.mul_ne_zero hd hd
  have hg:Nat.gcd (n*n) (d*d)=1:=by
    have h0:Nat.Coprime n d:=h
    have h3:Nat.Coprime n (d*d):=Nat.Coprime.mul_right h0 h0
    exact Nat.Coprime.mul_left h3 h3
  obtain ⟨e1,e2⟩:=mk_num false (n*n) (d*d) hz
  rw [hg,Nat.div_one] at e1 e2
  exact ⟨e1,e2⟩
theorem perf_gd {q:Rat} (hp:Perf q):Nat.gcd (isq q.num.natAbs) (isq q.den)=1∧isq q.den≠0:=by
  obtain ⟨h1,h2⟩:=hp
  refine ⟨?_,fun h=>q.den_nz (by rw [← h2,h])⟩
  have g1:Nat.gcd (isq q.num.natAbs) (isq q.den) ∣ q.num.natAbs:=by
    conv=>rhs; rw [← h1]
    exact Nat.dvd_trans (Nat.gcd_dvd_left _ _) (Nat.dvd_mul_right _ _)
  have g2:Nat.gcd (isq q.num.natAbs) (isq q.den) ∣ q.den:=by
    conv=>rhs; rw [← h2]
    exact Nat.dvd_trans (Nat.gcd_dvd_right _ _) (Nat.dvd_mul_right _ _)
  have:=Nat.dvd_gcd g1 g2
  rw [q.reduced] at this
  exact Nat.dvd_one.1 this
theorem perf_iff {q:Rat} (hq:0≤q):Perf q↔(Can false (M.B (isq q.num.natAbs)) (M.B (isq q.den))∧rho q.num.natAbs q.den*rho q.num.natAbs q.den=q):=by
  have hn:((q.num.natAbs:Nat):Int)=q.num:=Int.natAbs_of_nonneg (by
    rcases Int.lt_or_le q.num 0 with h | h
    · have:=num_neg.1 h
      grind
    exact h)
  constructor
  · intro hp
    obtain ⟨hg,hd⟩:=perf_gd hp
    refine ⟨can_nd hd hg,?_⟩
    obtain ⟨e1,e2⟩:=sq_nd hd hg
    refine Rat.ext ?_ ?_
    · show (rho q.num.natAbs q.den*rho q.num.natAbs q.den).num=_
      unfold rho
      rw [e1,hp.1,hn]
    show (rho q.num.natAbs q.den*rho q.num.natAbs q.den).den=_
    unfold rho
    rw [e2,hp.2]
  rintro ⟨hc,he⟩
  have hd:isq q.den≠0:=by have:=hc.nz; rwa [M.V_B] at this
  have hg:Nat.gcd (isq q.num.natAbs) (isq q.den)=1:=by have:=hc.red; rwa [M.V_B,M.V_B] at this
  obtain ⟨e1,e2⟩:=sq_nd hd hg
  unfold rho at he
  rw [he] at e1 e2
  have h:=congrArg Int.natAbs e1
  rw [Int.natAbs_natCast] at h
  exact ⟨h.symm,e2.symm⟩
theorem perf_rho {q:Rat} (hq:0≤q) (hp:Perf q):rho q.num.natAbs q.den*rho q.num.natAbs q.den=q:=((perf_iff hq).1 hp).2
theorem tof_to {r x y:Rat} (hr:r≠0):tof (x/r) (y/r)=if r+x=0 then (true,0) else (false,y/(r+x)):=by
  unfold tof
  have e:1+x/r=(r+x)/r:=by grind
  by_cases h:r+x=0
  · rw [if_pos h,if_pos (by rw [e,h]; grind)]
  have h2:¬ 1+x/r=0:=by
    intro g
    rw [e] at g
    apply h
    grind
  rw [if_neg h,if_neg h2]
  congr 1
  rw [e]
  grind
end Go.Proofs.YtbfpmofhopglfaaGreatDoor.G
end
section
namespace Go.Proofs.YtbfpmofhopglfaaGreatDoor.G
open Go.Proofs.YtbfpmofhopglfaaGreatDoor.U Go.RowKit
theorem rootB_k {k K:Nat} (h:SzN k K) (k1:K≤1000000000):CSpec Tryz.prog 76 #[.string (M.B k)] (.string (M.B (isq k))):=by
  have:=root_k (a:=M.B k) (by have:=h.size; omega)
  rwa [M.V_B] at this
theorem squaredB_k {k K:Nat} (h:SzN k K) (k1:K≤1000000000):CSpec Tryz.prog 29 #[.string (M.B k)] (.string (M.B (isq k))):=by
  have:=squared_k (a:=M.B k) (by have:=h.size; omega)
  rwa [M.V_B] at this
theorem to0 {n1 n2:Bool} {a1 b1 a2 b2:ByteArray} {x y:Rat} {K L:Nat} (h1':IsR n1 a1 b1 x K) (h2':IsR n2 a2 b2 y L) (k1:K≤4000000) (k2:L≤4000000) (h8:decide (Int.sign (Rat.num (x*x+y*y))=(0:Int))=true):CSpec Tryz.prog 27 #[(ag [rr n1 a1 b1,rr n2 a2 b2])] (.tuple #[ag [[.bool false],[.bool false],[.string ({ data:=#[] })],[.string ({ data:=#[] })]],.int .i64 (12:Int)]):=by
  have s0:=(isR_s (szr h1'))
  have s1:=(isR_s (szr h2'))
  have s2:=(mul_s (szr h1') (szr h1'))
  have s3:=(isR_s s2)
  have s4:=(mul_s (szr h2') (szr h2'))
  have s5:=(isR_s s4)
  have s6:=(add_s s2 s4)
  have s7:=(isR_s s6)
  exact fn_ok Tryz.func27 (sc:=[(1,4,.fix (Rv x)),(1,9,.fix (Rv y)),(2,2,.fix (Rv (x*x))),(2,5,.fix (Rv (y*y))),(2,6,.fix (Rv (x*x+y*y))),(3,1,.fix (.int .i64 (Int.sign (Rat.num (x*x+y*y))))),(3,2,.is (.c (.bool true)))]) (sb:=[]) (by kernel_rfl) (hC (mi_self_k h1' (by omega)) (hC (mi_self_k h2' (by omega)) (hC (mul_k s0 s0 (by omega)) (hC (mul_k s1 s1 (by omega)) (hC (add_k s3 s5 (by omega)) (hC (sign_k s7 (by omega)) (hP (isB h8) hN)))))))
theorem to1 {n1 n2:Bool} {a1 b1 a2 b2:ByteArray} {x y:Rat} {K L:Nat} (h1':IsR n1 a1 b1 x K) (h2':IsR n2 a2 b2 y L) (k1:K≤4000000) (k2:L≤4000000) (h8:decide (Int.sign (Rat.num (x*x+y*y))=(0:Int))=false) (h12:gd false (M.B (isq (Int.natAbs (Rat.num (x*x+y*y))))) (M.B (isq (Rat.den (x*x+y*y))))=false):CSpec Tryz.prog 27 #[(ag [rr n1 a1 b1,rr n2 a2 b2])] (.tuple #[ag [[.bool false],[.bool false],[.string ({ data:=#[] })],[.string ({ data:=#[] })]],.int .i64 (3:Int)]):=by
  have s0:=(isR_s (szr h1'))
  have s1:=(isR_s (szr h2'))
  have s2:=(mul_s (szr h1') (szr h1'))
  have s3:=(isR_s s2)
  have s4:=(mul_s (szr h2') (szr h2'))
  have s5:=(isR_s s4)
  have s6:=(add_s s2 s4)
  have s7:=(isR_s s6)
  have s9:=(num_s s6)
  have s10:=(den_s s6)
  have s11:=(rho_s s9 s10)
  exact fn_ok Tryz.func27 (sc:=[(1,4,.fix (Rv x)),(1,9,.fix (Rv y)),(2,2,.fix (Rv (x*x))),(2,5,.fix (Rv (y*y))),(2,6,.fix (Rv (x*x+y*y))),(3,1,.fix (.int .i64 (Int.sign (Rat.num (x*x+y*y))))),(3,2,.is (.c (.bool false))),(5,2,.fix (.string (M.B (isq (Int.natAbs (Rat.num (x*x+y*y))))))),(5,5,.fix (.string (M.B (isq (Rat.den (x*x+y*y)))))),(6,1,.fix (.bool false))]) (sb:=[]) (by kernel_rfl) (hC (mi_self_k h1' (by omega)) (hC (mi_self_k h2' (by omega)) (hC (mul_k s0 s0 (by omega)) (hC (mul_k s1 s1 (by omega)) (hC (add_k s3 s5 (by omega)) (hC (sign_k s7 (by omega)) (hP (isB h8) (hC (rootB_k s9 (by omega)) (hC (rootB_k s10 (by omega)) (hC (cbool (goodb_k s11 (by omega)) h12) hN))))))))))
theorem to2 {n1 n2:Bool} {a1 b1 a2 b2:ByteArray} {x y:Rat} {K L:Nat} (h1':IsR n1 a1 b1 x K) (h2':IsR n2 a2 b2 y L) (k1:K≤4000000) (k2:L≤4000000) (h8:decide (Int.sign (Rat.num (x*x+y*y))=(0:Int))=false) (h12:gd false (M.B (isq (Int.natAbs (Rat.num (x*x+y*y))))) (M.B (isq (Rat.den (x*x+y*y))))=true) (h15:(!decide (cmpR (rho (Int.natAbs (Rat.num (x*x+y*y))) (Rat.den (x*x+y*y))*rho (Int.natAbs (Rat.num (x*x+y*y))) (Rat.den (x*x+y*y))) (x*x+y*y)=(0:Int)))=true):CSpec Tryz.prog 27 #[(ag [rr n1 a1 b1,rr n2 a2 b2])] (.tuple #[ag [[.bool false],[.bool false],[.string ({ data:=#[] })],[.string ({ data:=#[] })]],.int .i64 (3:Int)]):=by
  have s0:=(isR_s (szr h1'))
  have s1:=(isR_s (szr h2'))
  have s2:=(mul_s (szr h1') (szr h1'))
  have s3:=(isR_s s2)
  have s4:=(mul_s (szr h2') (szr h2'))
  have s5:=(isR_s s4)
  have s6:=(add_s s2 s4)
  have s7:=(isR_s s6)
  have s9:=(num_s s6)
  have s10:=(den_s s6)
  have s11:=(rho_s s9 s10)
  have s13:=(mul_s (szr s11) (szr s11))
  have s14:=(isR_s s13)
  exact fn_ok Tryz.func27 (sc:=[(1,4,.fix (Rv x)),(1,9,.fix (Rv y)),(2,2,.fix (Rv (x*x))),(2,5,.fix (Rv (y*y))),(2,6,.fix (Rv (x*x+y*y))),(3,1,.fix (.int .i64 (Int.sign (Rat.num (x*x+y*y))))),(3,2,.is (.c (.bool false))),(5,2,.fix (.string (M.B (isq (Int.natAbs (Rat.num (x*x+y*y))))))),(5,5,.fix (.string (M.B (isq (Rat.den (x*x+y*y)))))),(6,1,.fix (.bool true)),(6,6,.fix (Rv (rho (Int.natAbs (Rat.num (x*x+y*y))) (Rat.den (x*x+y*y))*rho (Int.natAbs (Rat.num (x*x+y*y))) (Rat.den (x*x+y*y))))),(6,8,.fix (.int .i64 (cmpR (rho (Int.natAbs (Rat.num (x*x+y*y))) (Rat.den (x*x+y*y))*rho (Int.natAbs (Rat.num (x*x+y*y))) (Rat.den (x*x+y*y))) (x*x+y*y)))),(6,9,.is (.c (.bool true)))]) (sb:=[]) (by kernel_rfl) (hC (mi_self_k h1' (by omega)) (hC (mi_self_k h2' (by omega)) (hC (mul_k s0 s0 (by omega)) (hC (mul_k s1 s1 (by omega)) (hC (add_k s3 s5 (by omega)) (hC (sign_k s7 (by omega)) (hP (isB h8) (hC (rootB_k s9 (by omega)) (hC (rootB_k s10 (by omega)) (hC (cbool (goodb_k s11 (by omega)) h12) (hC (mul_k s11 s11 (by omega)) (hC (cmp_k s14 s7 (by omega)) (hP (isB h15) hN)))))))))))))
theorem to3 {n1 n2:Bool} {a1 b1 a2 b2:ByteArray} {x y:Rat} {K L:Nat} (h1':IsR n1 a1 b1 x K) (h2':IsR n2 a2 b2 y L) (k1:K≤4000000) (k2:L≤4000000) (h8:decide (Int.sign (Rat.num (x*x+y*y))=(0:Int))=false) (h12:gd false (M.B (isq (Int.natAbs (Rat.num (x*x+y*y))))) (M.B (isq (Rat.den (x*x+y*y))))=true) (h15:(!decide (cmpR (rho (Int.natAbs (Rat.num (x*x+y*y))) (Rat.den (x*x+y*y))*rho (Int.natAbs (Rat.num (x*x+y*y))) (Rat.den (x*x+y*y))) (x*x+y*y)=(0:Int)))=false) (h18:rho (Int.natAbs (Rat.num (x*x+y*y))) (Rat.den (x*x+y*y))+x≠(0:Rat)):CSpec Tryz.prog 27 #[(ag [rr n1 a1 b1,rr n2 a2 b2])] (.tuple #[ag [[.bool false],rc (y/(rho (Int.natAbs (Rat.num (x*x+y*y))) (Rat.den (x*x+y*y))+x))],.int .i64 (0:Int)]):=by
  have s0:=(isR_s (szr h1'))
  have s1:=(isR_s (szr h2'))
  have s2:=(mul_s (szr h1') (szr h1'))
  have s3:=(isR_s s2)
  have s4:=(mul_s (szr h2') (szr h2'))
  have s5:=(isR_s s4)
  have s6:=(add_s s2 s4)
  have s7:=(isR_s s6)
  have s9:=(num_s s6)
  have s10:=(den_s s6)
  have s11:=(rho_s s9 s10)
  have s13:=(mul_s (szr s11) (szr s11))
  have s14:=(isR_s s13)
  have s16:=(add_s (szr s11) (szr h1'))
  have s17:=(isR_s s16)
  have s19:=(div_s (szr h2') s16)
  have s20:=(isR_s s19)
  exact fn_ok Tryz.func27 (sc:=[(1,4,.fix (Rv x)),(1,9,.fix (Rv y)),(2,2,.fix (Rv (x*x))),(2,5,.fix (Rv (y*y))),(2,6,.fix (Rv (x*x+y*y))),(3,1,.fix (.int .i64 (Int.sign (Rat.num (x*x+y*y))))),(3,2,.is (.c (.bool false))),(5,2,.fix (.string (M.B (isq (Int.natAbs (Rat.num (x*x+y*y))))))),(5,5,.fix (.string (M.B (isq (Rat.den (x*x+y*y)))))),(6,1,.fix (.bool true)),(6,6,.fix (Rv (rho (Int.natAbs (Rat.num (x*x+y*y))) (Rat.den (x*x+y*y))*rho (Int.natAbs (Rat.num (x*x+y*y))) (Rat.den (x*x+y*y))))),(6,8,.fix (.int .i64 (cmpR (rho (Int.natAbs (Rat.num (x*x+y*y))) (Rat.den (x*x+y*y))*rho (Int.natAbs (Rat.num (x*x+y*y))) (Rat.den (x*x+y*y))) (x*x+y*y)))),(6,9,.is (.c (.bool false))),(8,3,.fix (Rv (rho (Int.natAbs (Rat.num (x*x+y*y))) (Rat.den (x*x+y*y))+x))),(8,4,.fix (.tuple #[Rv (y/(rho (Int.natAbs (Rat.num (x*x+y*y))) (Rat.den (x*x+y*y))+x)),.int .i64 (0:Int)])),(11,1,.fix (ag [[.bool false],rc (y/(rho (Int.natAbs (Rat.num (x*x+y*y))) (Rat.den (x*x+y*y))+x))]))]) (sb:=[]) (by kernel_rfl) (hC (mi_self_k h1' (by omega)) (hC (mi_self_k h2' (by omega)) (hC (mul_k s0 s0 (by omega)) (hC (mul_k s1 s1 (by omega)) (hC (add_k s3 s5 (by omega)) (hC (sign_k s7 (by omega)) (hP (isB h8) (hC (rootB_k s9 (by omega)) (hC (rootB_k s10 (by omega)) (hC (cbool (goodb_k s11 (by omega)) h12) (hC (mul_k s11 s11 (by omega)) (hC (cmp_k s14 s7 (by omega)) (hP (isB h15) (hC (add_k s11 s0 (by omega)) (hC (div_k s1 s17 (by omega) h18) (hC (tof_k s20 (by omega)) hN))))))))))))))))
theorem to4 {n1 n2:Bool} {a1 b1 a2 b2:ByteArray} {x y:Rat} {K L:Nat} (h1':IsR n1 a1 b1 x K) (h2':IsR n2 a2 b2 y L) (k1:K≤4000000) (k2:L≤4000000) (h8:decide (Int.sign (Rat.num (x*x+y*y))=(0:Int))=false) (h12:gd false (M.B (isq (Int.natAbs (Rat.num (x*x+y*y))))) (M.B (isq (Rat.den (x*x+y*y))))=true) (h15:(!decide (cmpR (rho (Int.natAbs (Rat.num (x*x+y*y))) (Rat.den (x*x+y*y))*rho (Int.natAbs (Rat.num (x*x+y*y))) (Rat.den (x*x+y*y))) (x*x+y*y)=(0:Int)))=false) (h18:rho (Int.natAbs (Rat.num (x*x+y*y))) (Rat.den (x*x+y*y))+x=(0:Rat)):CSpec Tryz.prog 27 #[(ag [rr n1 a1 b1,rr n2 a2 b2])] (.tuple #[ag [[.bool true],rc (0:Rat)],.int .i64 (0:Int)]):=by
  have s0:=(isR_s (szr h1'))
  have s1:=(isR_s (szr h2'))
  have s2:=(mul_s (szr h1') (szr h1'))
  have s3:=(isR_s s2)
  have s4:=(mul_s (szr h2') (szr h2'))
  have s5:=(isR_s s4)
  have s6:=(add_s s2 s4)
  have s7:=(isR_s s6)
  have s9:=(num_s s6)
  have s10:=(den_s s6)
  have s11:=(rho_s s9 s10)
  have s13:=(mul_s (szr s11) (szr s11))
  have s14:=(isR_s s13)
  have s16:=(add_s (szr s11) (szr h1'))
  have s17:=(isR_s s16)
  exact fn_ok Tryz.func27 (sc:=[(1,4,.fix (Rv x)),(1,9,.fix (Rv y)),(2,2,.fix (Rv (x*x))),(2,5,.fix (Rv (y*y))),(2,6,.fix (Rv (x*x+y*y))),(3,1,.fix (.int .i64 (Int.sign (Rat.num (x*x+y*y))))),(3,2,.is (.c (.bool false))),(5,2,.fix (.string (M.B (isq (Int.natAbs (Rat.num (x*x+y*y))))))),(5,5,.fix (.string (M.B (isq (Rat.den (x*x+y*y)))))),(6,1,.fix (.bool true)),(6,6,.fix (Rv (rho (Int.natAbs (Rat.num (x*x+y*y))) (Rat.den (x*x+y*y))*rho (Int.natAbs (Rat.num (x*x+y*y))) (Rat.den (x*x+y*y))))),(6,8,.fix (.int .i64 (cmpR (rho (Int.natAbs (Rat.num (x*x+y*y))) (Rat.den (x*x+y*y))*rho (Int.natAbs (Rat.num (x*x+y*y))) (Rat.den (x*x+y*y))) (x*x+y*y)))),(6,9,.is (.c (.bool false))),(8,3,.fix (Rv (rho (Int.natAbs (Rat.num (x*x+y*y))) (Rat.den (x*x+y*y))+x))),(8,4,.fix (.tuple #[ag [[.bool false],[.string ({ data:=#[] })],[.string ({ data:=#[] })]],.int .i64 (12:Int)])),(10,0,.fix (ag [[.bool true],rc (0:Rat)]))]) (sb:=[]) (by kernel_rfl) (hC (mi_self_k h1' (by omega)) (hC (mi_self_k h2' (by omega)) (hC (mul_k s0 s0 (by omega)) (hC (mul_k s1 s1 (by omega)) (hC (add_k s3 s5 (by omega)) (hC (sign_k s7 (by omega)) (hP (isB h8) (hC (rootB_k s9 (by omega)) (hC (rootB_k s10 (by omega)) (hC (cbool (goodb_k s11 (by omega)) h12) (hC (mul_k s11 s11 (by omega)) (hC (cmp_k s14 s7 (by omega)) (hP (isB h15) (hC (add_k s11 s0 (by omega)) (hC (divz_k s1 s17 (by omega) h18) (hC thalf_k hN))))))))))))))))
def ZZ (q:Rat):Prop:=q=0
def NP (q:Rat):Prop:=q≠0 ∧ ¬ Perf q
def PP (q:Rat):Prop:=q≠0∧Perf q
theorem sq2_nn (x y:Rat):0≤x*x+y*y:=by
  have h1:=sq_pos x
  have h2:=sq_pos y
  grind
section
variable {n1 n2:Bool} {a1 b1 a2 b2:ByteArray} {x y:Rat} {K L:Nat}
theorem toz_k (h1':IsR n1 a1 b1 x K) (h2':IsR n2 a2 b2 y L) (k1:K≤4000000) (k2:L≤4000000) (h:ZZ (x*x+y*y)):CSpec Tryz.prog 27 #[ag [rr n1 a1 b1,rr n2 a2 b2]] (.tuple #[ag [[.bool false],[.bool false],[.string ⟨#[]⟩],[.string ⟨#[]⟩]],.int .i64 12]) :=
  to0 h1' h2' k1 k2 (decide_eq_true (sign_eq.2 h))
open Classical in
theorem gd_iff {n:Bool} {a b:ByteArray}:gd n a b=true↔Can n a b:=by
  unfold gd
  exact ⟨fun h=>of_decide_eq_true h,fun h=>decide_eq_true h⟩
theorem ton_k (h1':IsR n1 a1 b1 x K) (h2':IsR n2 a2 b2 y L) (k1:K≤4000000) (k2:L≤4000000) (h:NP (x*x+y*y)):CSpec Tryz.prog 27 #[ag [rr n1 a1 b1,rr n2 a2 b2]] (.tuple #[ag [[.bool false],[.bool false],[.string ⟨#[]⟩],[.string ⟨#[]⟩]],.int .i64 3]):=by
  obtain ⟨h0,hp⟩:=h
  have c0:=decide_eq_false (fun g=>h0 (sign_eq.1 g))
  cases hg:gd false (M.B (isq (x*x+y*y).num.natAbs)) (M.B (isq (x*x+y*y).den)) with
  | false=>exact to1 h1' h2' k1 k2 c0 hg
  | true =>
    refine to2 h1' h2' k1 k2 c0 hg ?_
    rw [decide_eq_false (fun g=>hp ((perf_iff (sq2_nn x y)).2 ⟨gd_iff.1 hg,cmpR_eq.1 g⟩))]
    rfl
theorem perf_c {x y:Rat} (hp:Perf (x*x+y*y)):gd false (M.B (isq (x*x+y*y).num.natAbs)) (M.B (isq (x*x+y*y).den))=true∧(!decide (cmpR ((rho (x*x+y*y).num.natAbs (x*x+y*y).den)*(rho (x*x+y*y).num.natAbs (x*x+y*y).den)) (x*x+y*y)=0))=false:=by
  obtain ⟨c,e⟩:=(perf_iff (sq2_nn x y)).1 hp
  refine ⟨gd_iff.2 c,?_⟩
  rw [decide_eq_true (cmpR_eq.2 e)]
  rfl
theorem top_k (h1':IsR n1 a1 b1 x K) (h2':IsR n2 a2 b2 y L) (k1:K≤4000000) (k2:L≤4000000) (h:PP (x*x+y*y)) (hn:(rho (x*x+y*y).num.natAbs (x*x+y*y).den)+x≠0):CSpec Tryz.prog 27 #[ag [rr n1 a1 b1,rr n2 a2 b2]] (.tuple #[ag [[.bool false],rc (y/((rho (x*x+y*y).num.natAbs (x*x+y*y).den)+x))],.int .i64 0]):=by
  obtain ⟨c1,c2⟩:=perf_c h.2
  exact to3 h1' h2' k1 k2 (decide_eq_false (fun g=>h.1 (sign_eq.1 g))) c1 c2 hn
theorem toh_k (h1':IsR n1 a1 b1 x K) (h2':IsR n2 a2 b2 y L) (k1:K≤4000000) (k2:L≤4000000) (h:PP (x*x+y*y)) (hn:(rho (x*x+y*y).num.natAbs (x*x+y*y).den)+x=0):CSpec Tryz.prog 27 #[ag [rr n1 a1 b1,rr n2 a2 b2]] (.tuple #[ag [[.bool true],rc (0:Rat)],.int .i64 0]):=by
  obtain ⟨c1,c2⟩:=perf_c h.2
  exact to4 h1' h2' k1 k2 (decide_eq_false (fun g=>h.1 (sign_eq.1 g))) c1 c2 hn
end
def mx2 (x y:Int):Int:=if y > x then y else x
def mx4 (a b c d:ByteArray):Int:=mx2 (mx2 (mx2 a.size b.size) c.size) d.size
theorem tpa {n1 n2:Bool} {a1 b1 a2 b2:ByteArray}  (h0:decide ((500:Int) < mx4 a1 b1 a2 b2)=true):CSpec Tryz.prog 5 #[(ag [rr n1 a1 b1,rr n2 a2 b2])] (.bool true):=by
  exact fn_ok Tryz.func5 (sc:=[(1,0,.fix (.bool true)),(3,16,.is (.c (.int .i64 (mx4 a1 b1 a2 b2)))),(3,17,.is (.c (.bool true)))]) (sb:=[]) (by kernel_rfl) (hC turnBegun_k (hP (Eq.refl (V.c (.int .i64 (mx4 a1 b1 a2 b2)))) (hP (isB h0) hN)))
theorem tpb {n1 n2:Bool} {a1 b1 a2 b2:ByteArray} {x y:Rat} {K L:Nat} (h1':IsR n1 a1 b1 x K) (h2':IsR n2 a2 b2 y L) (k1:K≤4000000) (k2:L≤4000000) (hs:decide ((500:Int) < mx4 a1 b1 a2 b2)=false) (h:ZZ (x*x+y*y)) (hz:decide (Int.sign (Rat.num (x*x+y*y))=0)=true)  : CSpec Tryz.prog 5 #[(ag [rr n1 a1 b1,rr n2 a2 b2])] (.bool true):=by
  have s0:=(mul_s (szr h1') (szr h1'))
  have s1:=(mul_s (szr h2') (szr h2'))
  have s2:=(add_s s0 s1)
  have s3:=(num_s s2)
  have s4:=(den_s s2)
  have s5:=(isR_s s2)
  exact fn_ok Tryz.func5 (sc:=[(1,0,.fix (.bool true)),(3,16,.is (.c (.int .i64 (mx4 a1 b1 a2 b2)))),(3,17,.is (.c (.bool false))),(5,1,.fix (.tuple #[ag [[.bool false],[.bool false],[.string ({ data:=#[] })],[.string ({ data:=#[] })]],.int .i64 (12:Int)])),(6,2,.fix (Rv (x*x+y*y))),(7,2,.fix (.string (M.B (isq (Int.natAbs (Rat.num (x*x+y*y))))))),(7,5,.fix (.string (M.B (isq (Rat.den (x*x+y*y)))))),(8,1,.fix (.int .i64 (Int.sign (Rat.num (x*x+y*y))))),(8,2,.is (.c (.bool true)))]) (sb:=[]) (by kernel_rfl) (hC turnBegun_k (hP (Eq.refl (V.c (.int .i64 (mx4 a1 b1 a2 b2)))) (hP (isB hs) (hC (toz_k h1' h2' k1 k2 h) (hC (rdot_k h1' (by omega) h2' (by omega) h1' (by omega) h2' (by omega)) (hC (squaredB_k s3 (by omega)) (hC (squaredB_k s4 (by omega)) (hC (sign_k s5 (by omega)) (hP (isB hz) hN)))))))))
theorem tpc1 {n1 n2:Bool} {a1 b1 a2 b2:ByteArray} {x y:Rat} {K L:Nat} (h1':IsR n1 a1 b1 x K) (h2':IsR n2 a2 b2 y L) (k1:K≤4000000) (k2:L≤4000000) (hs:decide ((500:Int) < mx4 a1 b1 a2 b2)=false) (h:NP (x*x+y*y)) (hz:decide (Int.sign (Rat.num (x*x+y*y))=0)=false) (h7:(!ByteArray.toList (M.B (isq (Int.natAbs (Rat.num (x*x+y*y)))*isq (Int.natAbs (Rat.num (x*x+y*y)))))==ByteArray.toList (M.B (Int.natAbs (Rat.num (x*x+y*y)))))=true):CSpec Tryz.prog 5 #[(ag [rr n1 a1 b1,rr n2 a2 b2])] (.bool true):=by
  have s0:=(mul_s (szr h1') (szr h1'))
  have s1:=(mul_s (szr h2') (szr h2'))
  have s2:=(add_s s0 s1)
  have s3:=(num_s s2)
  have s4:=(den_s s2)
  have s5:=(isR_s s2)
  have s6:=(isq_s s3)
  exact fn_ok Tryz.func5 (sc:=[(1,0,.fix (.bool true)),(3,16,.is (.c (.int .i64 (mx4 a1 b1 a2 b2)))),(3,17,.is (.c (.bool false))),(5,1,.fix (.tuple #[ag [[.bool false],[.bool false],[.string ({ data:=#[] })],[.string ({ data:=#[] })]],.int .i64 (3:Int)])),(6,2,.fix (Rv (x*x+y*y))),(7,2,.fix (.string (M.B (isq (Int.natAbs (Rat.num (x*x+y*y))))))),(7,5,.fix (.string (M.B (isq (Rat.den (x*x+y*y)))))),(8,1,.fix (.int .i64 (Int.sign (Rat.num (x*x+y*y))))),(8,2,.is (.c (.bool false))),(10,2,.fix (.string (M.B (isq (Int.natAbs (Rat.num (x*x+y*y)))*isq (Int.natAbs (Rat.num (x*x+y*y))))))),(10,5,.is (.c (.bool true)))]) (sb:=[]) (by kernel_rfl) (hC turnBegun_k (hP (Eq.refl (V.c (.int .i64 (mx4 a1 b1 a2 b2)))) (hP (isB hs) (hC (ton_k h1' h2' k1 k2 h) (hC (rdot_k h1' (by omega) h2' (by omega) h1' (by omega) h2' (by omega)) (hC (squaredB_k s3 (by omega)) (hC (squaredB_k s4 (by omega)) (hC (sign_k s5 (by omega)) (hP (isB hz) (hC (rtimes_k s6 s6 (by omega)) (hP (isB h7) hN)))))))))))
theorem tpc2 {n1 n2:Bool} {a1 b1 a2 b2:ByteArray} {x y:Rat} {K L:Nat} (h1':IsR n1 a1 b1 x K) (h2':IsR n2 a2 b2 y L) (k1:K≤4000000) (k2:L≤4000000) (hs:decide ((500:Int) < mx4 a1 b1 a2 b2)=false) (h:NP (x*x+y*y)) (hz:decide (Int.sign (Rat.num (x*x+y*y))=0)=false) (h7:(!ByteArray.toList (M.B (isq (Int.natAbs (Rat.num (x*x+y*y)))*isq (Int.natAbs (Rat.num (x*x+y*y)))))==ByteArray.toList (M.B (Int.natAbs (Rat.num (x*x+y*y)))))=false) (h9:(!ByteArray.toList (M.B (isq (Rat.den (x*x+y*y))*isq (Rat.den (x*x+y*y))))==ByteArray.toList (M.B (Rat.den (x*x+y*y))))=true):CSpec Tryz.prog 5 #[(ag [rr n1 a1 b1,rr n2 a2 b2])] (.bool true):=by
  have s0:=(mul_s (szr h1') (szr h1'))
  have s1:=(mul_s (szr h2') (szr h2'))
  have s2:=(add_s s0 s1)
  have s3:=(num_s s2)
  have s4:=(den_s s2)
  have s5:=(isR_s s2)
  have s6:=(isq_s s3)
  have s8:=(isq_s s4)
  exact fn_ok Tryz.func5 (sc:=[(1,0,.fix (.bool true)),(3,16,.is (.c (.int .i64 (mx4 a1 b1 a2 b2)))),(3,17,.is (.c (.bool false))),(5,1,.fix (.tuple #[ag [[.bool false],[.bool false],[.string ({ data:=#[] })],[.string ({ data:=#[] })]],.int .i64 (3:Int)])),(6,2,.fix (Rv (x*x+y*y))),(7,2,.fix (.string (M.B (isq (Int.natAbs (Rat.num (x*x+y*y))))))),(7,5,.fix (.string (M.B (isq (Rat.den (x*x+y*y)))))),(8,1,.fix (.int .i64 (Int.sign (Rat.num (x*x+y*y))))),(8,2,.is (.c (.bool false))),(10,2,.fix (.string (M.B (isq (Int.natAbs (Rat.num (x*x+y*y)))*isq (Int.natAbs (Rat.num (x*x+y*y))))))),(10,5,.is (.c (.bool false))),(10,9,.fix (.string (M.B (isq (Rat.den (x*x+y*y))*isq (Rat.den (x*x+y*y)))))),(10,12,.is (.c (.bool true)))]) (sb:=[]) (by kernel_rfl) (hC turnBegun_k (hP (Eq.refl (V.c (.int .i64 (mx4 a1 b1 a2 b2)))) (hP (isB hs) (hC (ton_k h1' h2' k1 k2 h) (hC (rdot_k h1' (by omega) h2' (by omega) h1' (by omega) h2' (by omega)) (hC (squaredB_k s3 (by omega)) (hC (squaredB_k s4 (by omega)) (hC (sign_k s5 (by omega)) (hP (isB hz) (hC (rtimes_k s6 s6 (by omega)) (hP (isB h7) (hC (rtimes_k s8 s8 (by omega)) (hP (isB h9) hN)))))))))))))
theorem tpd {n1 n2:Bool} {a1 b1 a2 b2:ByteArray} {x y:Rat} {K L:Nat} (h1':IsR n1 a1 b1 x K) (h2':IsR n2 a2 b2 y L) (k1:K≤4000000) (k2:L≤4000000) (hs:decide ((500:Int) < mx4 a1 b1 a2 b2)=false) (h:PP (x*x+y*y)) (hz:decide (Int.sign (Rat.num (x*x+y*y))=0)=false) (hr:(rho (x*x+y*y).num.natAbs (x*x+y*y).den)≠0) (h0:rho (Int.natAbs (Rat.num (x*x+y*y))) (Rat.den (x*x+y*y))+x≠(0:Rat)) (h8:(!ByteArray.toList (M.B (isq (Int.natAbs (Rat.num (x*x+y*y)))*isq (Int.natAbs (Rat.num (x*x+y*y)))))==ByteArray.toList (M.B (Int.natAbs (Rat.num (x*x+y*y)))))=false) (h10:(!ByteArray.toList (M.B (isq (Rat.den (x*x+y*y))*isq (Rat.den (x*x+y*y))))==ByteArray.toList (M.B (Rat.den (x*x+y*y))))=false) (h16:false=Prod.fst (tof (x/rho (Int.natAbs (Rat.num (x*x+y*y))) (Rat.den (x*x+y*y))) (y/rho (Int.natAbs (Rat.num (x*x+y*y))) (Rat.den (x*x+y*y))))) (h17:y/(rho (Int.natAbs (Rat.num (x*x+y*y))) (Rat.den (x*x+y*y))+x)=Prod.snd (tof (x/rho (Int.natAbs (Rat.num (x*x+y*y))) (Rat.den (x*x+y*y))) (y/rho (Int.natAbs (Rat.num (x*x+y*y))) (Rat.den (x*x+y*y))))):CSpec Tryz.prog 5 #[(ag [rr n1 a1 b1,rr n2 a2 b2])] (.bool true):=by
  have s1:=(mul_s (szr h1') (szr h1'))
  have s2:=(mul_s (szr h2') (szr h2'))
  have s3:=(add_s s1 s2)
  have s4:=(num_s s3)
  have s5:=(den_s s3)
  have s6:=(isR_s s3)
  have s7:=(isq_s s4)
  have s9:=(isq_s s5)
  have s11:=(rho_s s4 s5)
  have s12:=(div_s (szr h1') (szr s11))
  have s13:=(isR_s s12)
  have s14:=(div_s (szr h2') (szr s11))
  have s15:=(isR_s s14)
  exact fn_ok Tryz.func5 (sc:=[(1,0,.fix (.bool true)),(3,16,.is (.c (.int .i64 (mx4 a1 b1 a2 b2)))),(3,17,.is (.c (.bool false))),(5,1,.fix (.tuple #[ag [[.bool false],rc (y/(rho (Int.natAbs (Rat.num (x*x+y*y))) (Rat.den (x*x+y*y))+x))],.int .i64 (0:Int)])),(6,2,.fix (Rv (x*x+y*y))),(7,2,.fix (.string (M.B (isq (Int.natAbs (Rat.num (x*x+y*y))))))),(7,5,.fix (.string (M.B (isq (Rat.den (x*x+y*y)))))),(8,1,.fix (.int .i64 (Int.sign (Rat.num (x*x+y*y))))),(8,2,.is (.c (.bool false))),(10,2,.fix (.string (M.B (isq (Int.natAbs (Rat.num (x*x+y*y)))*isq (Int.natAbs (Rat.num (x*x+y*y))))))),(10,5,.is (.c (.bool false))),(10,9,.fix (.string (M.B (isq (Rat.den (x*x+y*y))*isq (Rat.den (x*x+y*y)))))),(10,12,.is (.c (.bool false))),(13,3,.fix (.tuple #[Rv (x/rho (Int.natAbs (Rat.num (x*x+y*y))) (Rat.den (x*x+y*y))),.int .i64 (0:Int)])),(14,3,.fix (.tuple #[Rv (y/rho (Int.natAbs (Rat.num (x*x+y*y))) (Rat.den (x*x+y*y))),.int .i64 (0:Int)])),(15,6,.fix (ag [[.bool (Prod.fst (tof (x/rho (Int.natAbs (Rat.num (x*x+y*y))) (Rat.den (x*x+y*y))) (y/rho (Int.natAbs (Rat.num (x*x+y*y))) (Rat.den (x*x+y*y)))))],rc (Prod.snd (tof (x/rho (Int.natAbs (Rat.num (x*x+y*y))) (Rat.den (x*x+y*y))) (y/rho (Int.natAbs (Rat.num (x*x+y*y))) (Rat.den (x*x+y*y)))))])),(15,7,.fix (.bool true))]) (sb:=[]) (by kernel_rfl) (hC turnBegun_k (hP (Eq.refl (V.c (.int .i64 (mx4 a1 b1 a2 b2)))) (hP (isB hs) (hC (top_k h1' h2' k1 k2 h h0) (hC (rdot_k h1' (by omega) h2' (by omega) h1' (by omega) h2' (by omega)) (hC (squaredB_k s4 (by omega)) (hC (squaredB_k s5 (by omega)) (hC (sign_k s6 (by omega)) (hP (isB hz) (hC (rtimes_k s7 s7 (by omega)) (hP (isB h8) (hC (rtimes_k s9 s9 (by omega)) (hP (isB h10) (hC (div_k h1' s11 (by omega) hr) (hC (div_k h2' s11 (by omega) hr) (hC (turnof_k s13 (by omega) s15 (by omega)) (hC (st_k h16 h17) hN)))))))))))))))))
theorem tpe {n1 n2:Bool} {a1 b1 a2 b2:ByteArray} {x y:Rat} {K L:Nat} (h1':IsR n1 a1 b1 x K) (h2':IsR n2 a2 b2 y L) (k1:K≤4000000) (k2:L≤4000000) (hs:decide ((500:Int) < mx4 a1 b1 a2 b2)=false) (h:PP (x*x+y*y)) (hz:decide (Int.sign (Rat.num (x*x+y*y))=0)=false) (hr:(rho (x*x+y*y).num.natAbs (x*x+y*y).den)≠0) (h0:rho (Int.natAbs (Rat.num (x*x+y*y))) (Rat.den (x*x+y*y))+x=(0:Rat)) (h8:(!ByteArray.toList (M.B (isq (Int.natAbs (Rat.num (x*x+y*y)))*isq (Int.natAbs (Rat.num (x*x+y*y)))))==ByteArray.toList (M.B (Int.natAbs (Rat.num (x*x+y*y)))))=false) (h10:(!ByteArray.toList (M.B (isq (Rat.den (x*x+y*y))*isq (Rat.den (x*x+y*y))))==ByteArray.toList (M.B (Rat.den (x*x+y*y))))=false) (h16:true=Prod.fst (tof (x/rho (Int.natAbs (Rat.num (x*x+y*y))) (Rat.den (x*x+y*y))) (y/rho (Int.natAbs (Rat.num (x*x+y*y))) (Rat.den (x*x+y*y))))) (h17:(0:Rat)=Prod.snd (tof (x/rho (Int.natAbs (Rat.num (x*x+y*y))) (Rat.den (x*x+y*y))) (y/rho (Int.natAbs (Rat.num (x*x+y*y))) (Rat.den (x*x+y*y))))):CSpec Tryz.prog 5 #[(ag [rr n1 a1 b1,rr n2 a2 b2])] (.bool true):=by
  have s1:=(mul_s (szr h1') (szr h1'))
  have s2:=(mul_s (szr h2') (szr h2'))
  have s3:=(add_s s1 s2)
  have s4:=(num_s s3)
  have s5:=(den_s s3)
  have s6:=(isR_s s3)
  have s7:=(isq_s s4)
  have s9:=(isq_s s5)
  have s11:=(rho_s s4 s5)
  have s12:=(div_s (szr h1') (szr s11))
  have s13:=(isR_s s12)
  have s14:=(div_s (szr h2') (szr s11))
  have s15:=(isR_s s14)
  exact fn_ok Tryz.func5 (sc:=[(1,0,.fix (.bool true)),(3,16,.is (.c (.int .i64 (mx4 a1 b1 a2 b2)))),(3,17,.is (.c (.bool false))),(5,1,.fix (.tuple #[ag [[.bool true],rc (0:Rat)],.int .i64 (0:Int)])),(6,2,.fix (Rv (x*x+y*y))),(7,2,.fix (.string (M.B (isq (Int.natAbs (Rat.num (x*x+y*y))))))),(7,5,.fix (.string (M.B (isq (Rat.den (x*x+y*y)))))),(8,1,.fix (.int .i64 (Int.sign (Rat.num (x*x+y*y))))),(8,2,.is (.c (.bool false))),(10,2,.fix (.string (M.B (isq (Int.natAbs (Rat.num (x*x+y*y)))*isq (Int.natAbs (Rat.num (x*x+y*y))))))),(10,5,.is (.c (.bool false))),(10,9,.fix (.string (M.B (isq (Rat.den (x*x+y*y))*isq (Rat.den (x*x+y*y)))))),(10,12,.is (.c (.bool false))),(13,3,.fix (.tuple #[Rv (x/rho (Int.natAbs (Rat.num (x*x+y*y))) (Rat.den (x*x+y*y))),.int .i64 (0:Int)])),(14,3,.fix (.tuple #[Rv (y/rho (Int.natAbs (Rat.num (x*x+y*y))) (Rat.den (x*x+y*y))),.int .i64 (0:Int)])),(15,6,.fix (ag [[.bool (Prod.fst (tof (x/rho (Int.natAbs (Rat.num (x*x+y*y))) (Rat.den (x*x+y*y))) (y/rho (Int.natAbs (Rat.num (x*x+y*y))) (Rat.den (x*x+y*y)))))],rc (Prod.snd (tof (x/rho (Int.natAbs (Rat.num (x*x+y*y))) (Rat.den (x*x+y*y))) (y/rho (Int.natAbs (Rat.num (x*x+y*y))) (Rat.den (x*x+y*y)))))])),(15,7,.fix (.bool true))]) (sb:=[]) (by kernel_rfl) (hC turnBegun_k (hP (Eq.refl (V.c (.int .i64 (mx4 a1 b1 a2 b2)))) (hP (isB hs) (hC (toh_k h1' h2' k1 k2 h h0) (hC (rdot_k h1' (by omega) h2' (by omega) h1' (by omega) h2' (by omega)) (hC (squaredB_k s4 (by omega)) (hC (squaredB_k s5 (by omega)) (hC (sign_k s6 (by omega)) (hP (isB hz) (hC (rtimes_k s7 s7 (by omega)) (hP (isB h8) (hC (rtimes_k s9 s9 (by omega)) (hP (isB h10) (hC (div_k h1' s11 (by omega) hr) (hC (div_k h2' s11 (by omega) hr) (hC (turnof_k s13 (by omega) s15 (by omega)) (hC (st_k h16 h17) hN)))))))))))))))))
theorem bne_t {a b:Nat} (h:a≠b):(!(M.B a).toList==(M.B b).toList)=true:=by
  rw [str_neq]
  exact decide_eq_true (fun g=>h (M.B_inj g))
theorem bne_f {a b:Nat} (h:a=b):(!(M.B a).toList==(M.B b).toList)=false:=by
  rw [str_neq,h]
  exact decide_eq_false (fun g=>g rfl)
theorem turnPoints_law (n1:Bool) (a1 b1:ByteArray) (n2:Bool) (a2 b2:ByteArray) (s1:a1.size≤1048576) (t1:b1.size≤1048576) (s2:a2.size≤1048576) (t2:b2.size≤1048576):CSpec Tryz.prog 5 #[ag [rr n1 a1 b1,rr n2 a2 b2]] (.bool true):=by
  have r1:=IsR.raw n1 a1 b1 s1 t1 (by decide)
  have r2:=IsR.raw n2 a2 b2 s2 t2 (by decide)
  have k1:1048576≤4000000:=by decide
  generalize qv n1 a1 b1=x at *
  generalize qv n2 a2 b2=y at *
  cases hs:decide ((500:Int) < mx4 a1 b1 a2 b2) with
  | true=>exact tpa hs
  | false =>
    have hq:=sq2_nn x y
    by_cases hz:x*x+y*y=0
    · exact tpb r1 r2 k1 k1 hs hz (decide_eq_true (sign_eq.2 hz))
    have hz0:=decide_eq_false (fun g=>hz (sign_eq.1 g))
    by_cases hp:Perf (x*x+y*y)
    · have hpp:PP (x*x+y*y):=⟨hz,hp⟩
      have e:=perf_rho hq hp
      have hr:rho (x*x+y*y).num.natAbs (x*x+y*y).den≠0:=fun g=>hz (by rw [← e,g,Rat.mul_zero])
      have ht:=tof_to (x:=x) (y:=y) hr
      by_cases hx:rho (x*x+y*y).num.natAbs (x*x+y*y).den+x=0
      · rw [if_pos hx] at ht
        exact tpe r1 r2 k1 k1 hs hpp hz0 hr hx (bne_f hp.1) (bne_f hp.2) (by rw [ht]) (by rw [ht])
      rw [if_neg hx] at ht
      exact tpd r1 r2 k1 k1 hs hpp hz0 hr hx (bne_f hp.1) (bne_f hp.2) (by rw [ht]) (by rw [ht])
    have hnp:NP (x*x+y*y):=⟨hz,hp⟩
    by_cases h1:isq (x*x+y*y).num.natAbs*isq (x*x+y*y).num.natAbs=(x*x+y*y).num.natAbs
    · exact tpc2 r1 r2 k1 k1 hs hnp hz0 (bne_f h1) (bne_t (fun g=>hp ⟨h1,g⟩))
    exact tpc1 r1 r2 k1 k1 hs hnp hz0 (bne_t h1)
theorem mx2_l (x y:Int):x≤mx2 x y:=by unfold mx2; split<;>omega
theorem mx2_r (x y:Int):y≤mx2 x y:=by unfold mx2; split<;>omega
theorem turnPoints_full (n1:Bool) (a1 b1:ByteArray) (n2:Bool) (a2 b2:ByteArray):CSpec Tryz.prog 5 #[ag [rr n1 a1 b1,rr n2 a2 b2]] (.bool true):=by
  cases hs:decide ((500:Int) < mx4 a1 b1 a2 b2) with
  | true=>exact tpa hs
  | false =>
    have h0:=of_decide_eq_false hs
    unfold mx4 at h0
    have h1:=mx2_l (mx2 (mx2 a1.size b1.size) a2.size) b2.size
    have h2:=mx2_r (mx2 (mx2 a1.size b1.size) a2.size) b2.size
    have h3:=mx2_l (mx2 a1.size b1.size) a2.size
    have h4:=mx2_r (mx2 a1.size b1.size) a2.size
    have h5:=mx2_l a1.size b1.size
    have h6:=mx2_r a1.size b1.size
    exact turnPoints_law n1 a1 b1 n2 a2 b2 (by omega) (by omega) (by omega) (by omega)
end Go.Proofs.YtbfpmofhopglfaaGreatDoor.G
end
