import Derived.Test.YtmkgijiniopalaaDoorYGJ
namespace Go.Proofs.YtmkgijiniopalaaDoor.G
open Go.Proofs.YtmkgijiniopalaaDoor.U Go.RowKit
set_option linter.unusedVariables false
set_option maxRecDepth 100000
theorem str_neq (a b:ByteArray):(!(a.toList==b.toList))=decide (a≠b):=by
 rw [ByteArray.toList_eq,ByteArray.toList_eq]
 by_cases h:a=b
 ·subst h; simp
 have:¬ a.data=b.data:=fun hh=>h (by
  cases a; cases b
  exact congrArg _ hh)
 simp [h,this]
theorem str_ne_f {a:ByteArray} (h:a=⟨#[]⟩):V.c (.bool (!(a.toList==ByteArray.toList ⟨#[]⟩)))=V.c (.bool false):=by rw [str_neq,h]; simp
theorem str_ne_t {a:ByteArray} (h:a≠⟨#[]⟩):V.c (.bool (!(a.toList==ByteArray.toList ⟨#[]⟩)))=V.c (.bool true):=by rw [str_neq]; simp [h]
theorem size_lt {a b:ByteArray} (h:a.size < b.size):V.c (.bool (decide ((a.size:Int) < (b.size:Int))))=V.c (.bool true):=by congr 2; exact decide_eq_true (by omega)
theorem size_lt_f {a b:ByteArray} (h:¬ a.size < b.size):V.c (.bool (decide ((a.size:Int) < (b.size:Int))))=V.c (.bool false):=by congr 2; exact decide_eq_false (by omega)
theorem size_le8 {a:ByteArray} (h:a.size≤8):V.c (.bool (decide ((a.size:Int)≤8)))=V.c (.bool true):=by congr 2; exact decide_eq_true (by omega)
theorem size_le8_f {a:ByteArray} (h:¬ a.size≤8):V.c (.bool (decide ((a.size:Int)≤8)))=V.c (.bool false):=by congr 2; exact decide_eq_false (by omega)
theorem size_le9 {a b:ByteArray} (h:a.size≤b.size+8):V.c (.bool (decide ((a.size:Int)≤((b.size+8:Nat):Int))))=V.c (.bool true):=by congr 2; exact decide_eq_true (by omega)
theorem size_le9_f {a b:ByteArray} (h:¬ a.size≤b.size+8):V.c (.bool (decide ((a.size:Int)≤((b.size+8:Nat):Int))))=V.c (.bool false):=by congr 2; exact decide_eq_false (by omega)
theorem size_8 {b:ByteArray} (h:b.size < 1125899906842624):V.c (Value.int IntKind.i64 (IntKind.wrap IntKind.i64 ((b.size:Int)+8)))=V.c (Value.int IntKind.i64 ((b.size+8:Nat):Int)):=by
 congr 2
 simp [IntKind.wrap,IntKind.signed,IntKind.bits]; omega
theorem sv_concat {P:Program} {S:St} {x y:Operand} {a b r:ByteArray} {d:Option Tmp} {ty ty2 ty3:TypeId} {ps:String} {af:Array Edge} {g:Option (Nat × Bool)}
 (h1:St.rho S x = .string a) (h2:St.rho S y = .string b) (hs:a.size+b.size≤9223372036854775807) (hr:a++b=r) :
 sval P (execOp (St.rho S) { dst:=d,op:=.binOp .add ty x y ty2,type:=ty3,pos:=ps,after:=af,guard:=g })=some (.value (.string r)):=by
 have hb:binOp .add ty (.string a) (.string b)=pure (.string r):=by
  show Op.stringOp .add a b=_
  unfold Op.stringOp
  simp only
  rw [if_neg (by simp [IntKind.max,IntKind.signed,IntKind.bits]; omega),hr]
 have hg:∀ u v,eqGuard .add ty u v (.string a) (.string b)=pure ():=fun u v=>rfl
 simp only [execOp,h1,h2,hg,hb]
 rfl
def gS (a b:ByteArray):St:=⟨slots 57 0 [(0,.c (.string a)),(1,.c (.string b))],[]⟩
def gR (r:ByteArray):St:=⟨slots 57 0 [(4,.c (.string r))],[]⟩
theorem gc_ea (a b:ByteArray) (ha:a=⟨#[]⟩):TSpec Tryd.prog (loopOf Tryd.f70 0) (gS a b) (Ex.exit 0) (gS a b) :=
 tspec_dim (sc:=[(2,1,.is (.c (.bool false)))]) (sb:=[]) (obs:=[Ob.prop (V.c (Value.bool !ByteArray.toList a==ByteArray.toList { data:=#[] })=vF)]) (mask 57 0 [0,1]) 0 (by kernel_rfl) (hP (str_ne_f ha) hN) trivial
theorem gc_eb (a b:ByteArray) (ha:a≠⟨#[]⟩) (hb:b=⟨#[]⟩):TSpec Tryd.prog (loopOf Tryd.f70 0) (gS a b) (Ex.exit 0) (gS a b) :=
 tspec_dim (sc:=[(2,1,.is (.c (.bool true))),(2,4,.is (.c (.bool false)))]) (sb:=[]) (obs:=[Ob.prop (V.c (Value.bool !ByteArray.toList a==ByteArray.toList { data:=#[] })=vT),Ob.prop (V.c (Value.bool !ByteArray.toList b==ByteArray.toList { data:=#[] })=vF)]) (mask 57 0 [0,1]) 0 (by kernel_rfl) (hP (str_ne_t ha) (hP (str_ne_f hb) hN)) trivial
theorem gc_s0 (a b r:ByteArray) (x y g:Int) (ha:a≠⟨#[]⟩) (hb:b≠⟨#[]⟩) (hsw:¬ a.size < b.size) (sa:a.size < 1125899906842624) (sb:b.size < 1125899906842624) (h8:a.size≤8) (hp:CSpec Tryd.prog 74 #[.string a] (.int .u64 x)) (hq:CSpec Tryd.prog 74 #[.string b] (.int .u64 y)) (hc:CSpec Tryd.prog 81 #[.int .u64 x,.int .u64 y] (.int .u64 g)) (hr:CSpec Tryd.prog 73 #[.int .u64 g] (.string r)):TSpec Tryd.prog (loopOf Tryd.f70 0) (gS a b) (Ex.ret) (gR r) :=
 tspec_dim (sc:=[(2,1,.is (.c (.bool true))),(2,4,.is (.c (.bool true))),(3,4,.is (.c (.bool false))),(5,2,.is (.c (.bool true))),(6,1,.fix (.int .u64 x)),(6,3,.fix (.int .u64 y)),(6,4,.fix (.int .u64 g)),(6,5,.fix (.string r))]) (sb:=[]) (obs:=[Ob.prop (V.c (Value.bool !ByteArray.toList a==ByteArray.toList { data:=#[] })=vT),Ob.prop (V.c (Value.bool !ByteArray.toList b==ByteArray.toList { data:=#[] })=vT),Ob.prop (V.c (Value.bool (decide ((↑(ByteArray.size a):Int) < (↑(ByteArray.size b):Int))))=vF),Ob.prop (V.c (Value.bool (decide ((↑(ByteArray.size a):Int)≤(8:Int))))=vT),Ob.call 74 { toList:=[Value.string a] } (Value.int IntKind.u64 x),Ob.call 74 { toList:=[Value.string b] } (Value.int IntKind.u64 y),Ob.call 81 { toList:=[Value.int IntKind.u64 x,Value.int IntKind.u64 y] } (Value.int IntKind.u64 g),Ob.call 73 { toList:=[Value.int IntKind.u64 g] } (Value.string r)]) (mask 57 0 [4]) 0 (by kernel_rfl) (hP (str_ne_t ha) (hP (str_ne_t hb) (hP (size_lt_f hsw) (hP (size_le8 h8) (hC hp (hC hq (hC hc (hC hr hN)))))))) trivial
theorem gc_h0 (a b r:ByteArray) (ha:a≠⟨#[]⟩) (hb:b≠⟨#[]⟩) (hsw:¬ a.size < b.size) (sa:a.size < 1125899906842624) (sb:b.size < 1125899906842624) (h8:¬ a.size≤8) (h9:a.size≤b.size+8) (hr:CSpec Tryd.prog 82 #[.string a,.string b] (.string r)):TSpec Tryd.prog (loopOf Tryd.f70 0) (gS a b) (Ex.ret) (gR r) :=
 tspec_dim (sc:=[(2,1,.is (.c (.bool true))),(2,4,.is (.c (.bool true))),(3,4,.is (.c (.bool false))),(5,2,.is (.c (.bool false))),(7,4,.is (.c (.int .i64 (b.size+8:Nat)))),(7,5,.is (.c (.bool true))),(8,2,.fix (.string r))]) (sb:=[]) (obs:=[Ob.prop (V.c (Value.bool !ByteArray.toList a==ByteArray.toList { data:=#[] })=vT),Ob.prop (V.c (Value.bool !ByteArray.toList b==ByteArray.toList { data:=#[] })=vT),Ob.prop (V.c (Value.bool (decide ((↑(ByteArray.size a):Int) < (↑(ByteArray.size b):Int))))=vF),Ob.prop (V.c (Value.bool (decide ((↑(ByteArray.size a):Int)≤(8:Int))))=vF),Ob.prop (vI (IntKind.wrap .i64 ((↑(ByteArray.size b):Int)+(8:Int)))=vI (↑(ByteArray.size b+8):Int)),Ob.prop (V.c (Value.bool (decide ((↑(ByteArray.size a):Int)≤(↑(ByteArray.size b+8):Int))))=vT),Ob.call 82 { toList:=[Value.string a,Value.string b] } (Value.string r)]) (mask 57 0 [4]) 0 (by kernel_rfl) (hP (str_ne_t ha) (hP (str_ne_t hb) (hP (size_lt_f hsw) (hP (size_le8_f h8) (hP (size_8 (by omega)) (hP (size_le9 h9) (hC hr hN))))))) trivial
theorem gc_d0 (a b r s:ByteArray) (ha:a≠⟨#[]⟩) (hb:b≠⟨#[]⟩) (hsw:¬ a.size < b.size) (sa:a.size < 1125899906842624) (sb:b.size < 1125899906842624) (h8:¬ a.size≤8) (h9:¬ a.size≤b.size+8) (hd:CSpec Tryd.prog 71 #[.string a,.string b] (.tuple #[.string s,.string r,.int .i64 0])):TSpec Tryd.prog (loopOf Tryd.f70 0) (gS a b) (Ex.normal) (gS b r) :=
 tspec_dim (sc:=[(2,1,.is (.c (.bool true))),(2,4,.is (.c (.bool true))),(3,4,.is (.c (.bool false))),(5,2,.is (.c (.bool false))),(7,4,.is (.c (.int .i64 (b.size+8:Nat)))),(7,5,.is (.c (.bool false))),(9,2,.fix (.tuple #[.string s,.string r,.int .i64 0]))]) (sb:=[]) (obs:=[Ob.prop (V.c (Value.bool !ByteArray.toList a==ByteArray.toList { data:=#[] })=vT),Ob.prop (V.c (Value.bool !ByteArray.toList b==ByteArray.toList { data:=#[] })=vT),Ob.prop (V.c (Value.bool (decide ((↑(ByteArray.size a):Int) < (↑(ByteArray.size b):Int))))=vF),Ob.prop (V.c (Value.bool (decide ((↑(ByteArray.size a):Int)≤(8:Int))))=vF),Ob.prop (vI (IntKind.wrap .i64 ((↑(ByteArray.size b):Int)+(8:Int)))=vI (↑(ByteArray.size b+8):Int)),Ob.prop (V.c (Value.bool (decide ((↑(ByteArray.size a):Int)≤(↑(ByteArray.size b+8):Int))))=vF),Ob.call 71 { toList:=[Value.string a,Value.string b] } (Value.tuple { toList:=[Value.string s,Value.string r,Value.int IntKind.i64 (0:Int)] })]) (mask 57 0 [0,1]) 0 (by kernel_rfl) (hP (str_ne_t ha) (hP (str_ne_t hb) (hP (size_lt_f hsw) (hP (size_le8_f h8) (hP (size_8 (by omega)) (hP (size_le9_f h9) (hC hd hN))))))) trivial
theorem gc_s1 (a b r:ByteArray) (x y g:Int) (ha:a≠⟨#[]⟩) (hb:b≠⟨#[]⟩) (hsw:a.size < b.size) (sa:a.size < 1125899906842624) (sb:b.size < 1125899906842624) (h8:b.size≤8) (hp:CSpec Tryd.prog 74 #[.string b] (.int .u64 x)) (hq:CSpec Tryd.prog 74 #[.string a] (.int .u64 y)) (hc:CSpec Tryd.prog 81 #[.int .u64 x,.int .u64 y] (.int .u64 g)) (hr:CSpec Tryd.prog 73 #[.int .u64 g] (.string r)):TSpec Tryd.prog (loopOf Tryd.f70 0) (gS a b) (Ex.ret) (gR r) :=
 tspec_dim (sc:=[(2,1,.is (.c (.bool true))),(2,4,.is (.c (.bool true))),(3,4,.is (.c (.bool true))),(5,2,.is (.c (.bool true))),(6,1,.fix (.int .u64 x)),(6,3,.fix (.int .u64 y)),(6,4,.fix (.int .u64 g)),(6,5,.fix (.string r))]) (sb:=[]) (obs:=[Ob.prop (V.c (Value.bool !ByteArray.toList a==ByteArray.toList { data:=#[] })=vT),Ob.prop (V.c (Value.bool !ByteArray.toList b==ByteArray.toList { data:=#[] })=vT),Ob.prop (V.c (Value.bool (decide ((↑(ByteArray.size a):Int) < (↑(ByteArray.size b):Int))))=vT),Ob.prop (V.c (Value.bool (decide ((↑(ByteArray.size b):Int)≤(8:Int))))=vT),Ob.call 74 { toList:=[Value.string b] } (Value.int IntKind.u64 x),Ob.call 74 { toList:=[Value.string a] } (Value.int IntKind.u64 y),Ob.call 81 { toList:=[Value.int IntKind.u64 x,Value.int IntKind.u64 y] } (Value.int IntKind.u64 g),Ob.call 73 { toList:=[Value.int IntKind.u64 g] } (Value.string r)]) (mask 57 0 [4]) 0 (by kernel_rfl) (hP (str_ne_t ha) (hP (str_ne_t hb) (hP (size_lt hsw) (hP (size_le8 h8) (hC hp (hC hq (hC hc (hC hr hN)))))))) trivial
theorem gc_h1 (a b r:ByteArray) (ha:a≠⟨#[]⟩) (hb:b≠⟨#[]⟩) (hsw:a.size < b.size) (sa:a.size < 1125899906842624) (sb:b.size < 1125899906842624) (h8:¬ b.size≤8) (h9:b.size≤a.size+8) (hr:CSpec Tryd.prog 82 #[.string b,.string a] (.string r)):TSpec Tryd.prog (loopOf Tryd.f70 0) (gS a b) (Ex.ret) (gR r) :=
 tspec_dim (sc:=[(2,1,.is (.c (.bool true))),(2,4,.is (.c (.bool true))),(3,4,.is (.c (.bool true))),(5,2,.is (.c (.bool false))),(7,4,.is (.c (.int .i64 (a.size+8:Nat)))),(7,5,.is (.c (.bool true))),(8,2,.fix (.string r))]) (sb:=[]) (obs:=[Ob.prop (V.c (Value.bool !ByteArray.toList a==ByteArray.toList { data:=#[] })=vT),Ob.prop (V.c (Value.bool !ByteArray.toList b==ByteArray.toList { data:=#[] })=vT),Ob.prop (V.c (Value.bool (decide ((↑(ByteArray.size a):Int) < (↑(ByteArray.size b):Int))))=vT),Ob.prop (V.c (Value.bool (decide ((↑(ByteArray.size b):Int)≤(8:Int))))=vF),Ob.prop (vI (IntKind.wrap .i64 ((↑(ByteArray.size a):Int)+(8:Int)))=vI (↑(ByteArray.size a+8):Int)),Ob.prop (V.c (Value.bool (decide ((↑(ByteArray.size b):Int)≤(↑(ByteArray.size a+8):Int))))=vT),Ob.call 82 { toList:=[Value.string b,Value.string a] } (Value.string r)]) (mask 57 0 [4]) 0 (by kernel_rfl) (hP (str_ne_t ha) (hP (str_ne_t hb) (hP (size_lt hsw) (hP (size_le8_f h8) (hP (size_8 (by omega)) (hP (size_le9 h9) (hC hr hN))))))) trivial
theorem gc_d1 (a b r s:ByteArray) (ha:a≠⟨#[]⟩) (hb:b≠⟨#[]⟩) (hsw:a.size < b.size) (sa:a.size < 1125899906842624) (sb:b.size < 1125899906842624) (h8:¬ b.size≤8) (h9:¬ b.size≤a.size+8) (hd:CSpec Tryd.prog 71 #[.string b,.string a] (.tuple #[.string s,.string r,.int .i64 0])):TSpec Tryd.prog (loopOf Tryd.f70 0) (gS a b) (Ex.normal) (gS a r) :=
 tspec_dim (sc:=[(2,1,.is (.c (.bool true))),(2,4,.is (.c (.bool true))),(3,4,.is (.c (.bool true))),(5,2,.is (.c (.bool false))),(7,4,.is (.c (.int .i64 (a.size+8:Nat)))),(7,5,.is (.c (.bool false))),(9,2,.fix (.tuple #[.string s,.string r,.int .i64 0]))]) (sb:=[]) (obs:=[Ob.prop (V.c (Value.bool !ByteArray.toList a==ByteArray.toList { data:=#[] })=vT),Ob.prop (V.c (Value.bool !ByteArray.toList b==ByteArray.toList { data:=#[] })=vT),Ob.prop (V.c (Value.bool (decide ((↑(ByteArray.size a):Int) < (↑(ByteArray.size b):Int))))=vT),Ob.prop (V.c (Value.bool (decide ((↑(ByteArray.size b):Int)≤(8:Int))))=vF),Ob.prop (vI (IntKind.wrap .i64 ((↑(ByteArray.size a):Int)+(8:Int)))=vI (↑(ByteArray.size a+8):Int)),Ob.prop (V.c (Value.bool (decide ((↑(ByteArray.size b):Int)≤(↑(ByteArray.size a+8):Int))))=vF),Ob.call 71 { toList:=[Value.string b,Value.string a] } (Value.tuple { toList:=[Value.string s,Value.string r,Value.int IntKind.i64 (0:Int)] })]) (mask 57 0 [0,1]) 0 (by kernel_rfl) (hP (str_ne_t ha) (hP (str_ne_t hb) (hP (size_lt hsw) (hP (size_le8_f h8) (hP (size_8 (by omega)) (hP (size_le9_f h9) (hC hd hN))))))) trivial
theorem gc_fnR (a0 b0 a b r:ByteArray) (ta:CSpec Tryd.prog 72 #[.string a0] (.string a)) (tb:CSpec Tryd.prog 72 #[.string b0] (.string b)) (h:TSpec Tryd.prog (.block 0 (.loop (loopOf Tryd.f70 0))) (gS a b) .ret (gR r)):FSpec Tryd.prog 70 [.c (.string a0),.c (.string b0)] [] (V.c (Value.string r)) [] :=
 fspec_ok Tryd.func70 (sc:=[(1,1,.fix (.string a)),(1,3,.fix (.string b))]) (sb:=[(0,.ret,gR r)]) (keep:=[]) (obs:=[Ob.prop (Flat ([]:List (Option Row))),Ob.call 72 { toList:=[Value.string a0] } (Value.string a),Ob.call 72 { toList:=[Value.string b0] } (Value.string b),Ob.prop (TSpec Tryd.prog (Code.block 0 (Code.loop (loopOf Tryd.f70 0))) ({ t:=[V.c (Value.string a),V.c (Value.string b),V.c (Value.tuple { toList:=[] }),V.c (Value.tuple { toList:=[] }),V.c (Value.string { data:=#[] }),V.c (Value.tuple { toList:=[] }),V.c (Value.tuple { toList:=[] }),V.c (Value.tuple { toList:=[] }),V.c (Value.string a0),V.c (Value.string a),V.c (Value.string b0),V.c (Value.string b),V.c (Value.tuple { toList:=[] }),V.c (Value.tuple { toList:=[] }),V.c (Value.tuple { toList:=[] }),V.c (Value.tuple { toList:=[] }),V.c (Value.tuple { toList:=[] }),V.c (Value.tuple { toList:=[] }),V.c (Value.tuple { toList:=[] }),V.c (Value.tuple { toList:=[] }),V.c (Value.tuple { toList:=[] }),V.c (Value.tuple { toList:=[] }),V.c (Value.tuple { toList:=[] }),V.c (Value.tuple { toList:=[] }),V.c (Value.tuple { toList:=[] }),V.c (Value.tuple { toList:=[] }),V.c (Value.tuple { toList:=[] }),V.c (Value.tuple { toList:=[] }),V.c (Value.tuple { toList:=[] }),V.c (Value.tuple { toList:=[] }),V.c (Value.tuple { toList:=[] }),V.c (Value.tuple { toList:=[] }),V.c (Value.tuple { toList:=[] }),V.c (Value.tuple { toList:=[] }),V.c (Value.tuple { toList:=[] }),V.c (Value.tuple { toList:=[] }),V.c (Value.tuple { toList:=[] }),V.c (Value.tuple { toList:=[] }),V.c (Value.tuple { toList:=[] }),V.c (Value.tuple { toList:=[] }),V.c (Value.tuple { toList:=[] }),V.c (Value.tuple { toList:=[] }),V.c (Value.tuple { toList:=[] }),V.c (Value.tuple { toList:=[] }),V.c (Value.tuple { toList:=[] }),V.c (Value.tuple { toList:=[] }),V.c (Value.tuple { toList:=[] }),V.c (Value.tuple { toList:=[] }),V.c (Value.tuple { toList:=[] }),V.c (Value.tuple { toList:=[] }),V.c (Value.tuple { toList:=[] }),V.c (Value.tuple { toList:=[] }),V.c (Value.tuple { toList:=[] }),V.c (Value.tuple { toList:=[] }),V.c (Value.tuple { toList:=[] }),V.c (Value.tuple { toList:=[] }),V.c (Value.tuple { toList:=[] })],m:=[] }) (Ex.ret) (gR r))]) (by kernel_rfl) (hP trivial (hC ta (hC tb (hP (TSpec.from (mask 57 0 [0,1]) h (by kernel_rfl) (by kernel_rfl) trivial) hN))))
theorem gc_fnE (a0 b0 a b c d r:ByteArray) (ta:CSpec Tryd.prog 72 #[.string a0] (.string a)) (tb:CSpec Tryd.prog 72 #[.string b0] (.string b)) (h:TSpec Tryd.prog (.block 0 (.loop (loopOf Tryd.f70 0))) (gS a b) .normal (gS c d)) (hr:c++d=r) (hcs:c.size+d.size≤9223372036854775807):FSpec Tryd.prog 70 [.c (.string a0),.c (.string b0)] [] (V.c (Value.string r)) [] :=
 fspec_ok Tryd.func70 (sc:=[(1,1,.fix (.string a)),(1,3,.fix (.string b)),(11,2,.fix (.string r))]) (sb:=[(0,.normal,gS c d)]) (keep:=[]) (obs:=[Ob.prop (Flat ([]:List (Option Row))),Ob.call 72 { toList:=[Value.string a0] } (Value.string a),Ob.call 72 { toList:=[Value.string b0] } (Value.string b),Ob.prop (TSpec Tryd.prog (Code.block 0 (Code.loop (loopOf Tryd.f70 0))) ({ t:=[V.c (Value.string a),V.c (Value.string b),V.c (Value.tuple { toList:=[] }),V.c (Value.tuple { toList:=[] }),V.c (Value.string { data:=#[] }),V.c (Value.tuple { toList:=[] }),V.c (Value.tuple { toList:=[] }),V.c (Value.tuple { toList:=[] }),V.c (Value.string a0),V.c (Value.string a),V.c (Value.string b0),V.c (Value.string b),V.c (Value.tuple { toList:=[] }),V.c (Value.tuple { toList:=[] }),V.c (Value.tuple { toList:=[] }),V.c (Value.tuple { toList:=[] }),V.c (Value.tuple { toList:=[] }),V.c (Value.tuple { toList:=[] }),V.c (Value.tuple { toList:=[] }),V.c (Value.tuple { toList:=[] }),V.c (Value.tuple { toList:=[] }),V.c (Value.tuple { toList:=[] }),V.c (Value.tuple { toList:=[] }),V.c (Value.tuple { toList:=[] }),V.c (Value.tuple { toList:=[] }),V.c (Value.tuple { toList:=[] }),V.c (Value.tuple { toList:=[] }),V.c (Value.tuple { toList:=[] }),V.c (Value.tuple { toList:=[] }),V.c (Value.tuple { toList:=[] }),V.c (Value.tuple { toList:=[] }),V.c (Value.tuple { toList:=[] }),V.c (Value.tuple { toList:=[] }),V.c (Value.tuple { toList:=[] }),V.c (Value.tuple { toList:=[] }),V.c (Value.tuple { toList:=[] }),V.c (Value.tuple { toList:=[] }),V.c (Value.tuple { toList:=[] }),V.c (Value.tuple { toList:=[] }),V.c (Value.tuple { toList:=[] }),V.c (Value.tuple { toList:=[] }),V.c (Value.tuple { toList:=[] }),V.c (Value.tuple { toList:=[] }),V.c (Value.tuple { toList:=[] }),V.c (Value.tuple { toList:=[] }),V.c (Value.tuple { toList:=[] }),V.c (Value.tuple { toList:=[] }),V.c (Value.tuple { toList:=[] }),V.c (Value.tuple { toList:=[] }),V.c (Value.tuple { toList:=[] }),V.c (Value.tuple { toList:=[] }),V.c (Value.tuple { toList:=[] }),V.c (Value.tuple { toList:=[] }),V.c (Value.tuple { toList:=[] }),V.c (Value.tuple { toList:=[] }),V.c (Value.tuple { toList:=[] }),V.c (Value.tuple { toList:=[] })],m:=[] }) (Ex.normal) (gS c d)),Ob.val (execOp (St.rho ⟨(slots 56 0 [(54,V.c (Value.string c)),(55,V.c (Value.string d))]),[]⟩) { dst:=some 56,op:=Op.binOp BinOp.add 9 (Operand.tmp 54) (Operand.tmp 55) 9,type:=9,pos := "nat.go:268",after:={ toList:=[{ on:=0,ground:=Ground.data },{ on:=1,ground:=Ground.data }] },guard:=none }) (Value.string r) ]) (by kernel_rfl) (hP trivial (hC ta (hC tb (hP (TSpec.from (mask 57 0 [0,1]) h (by kernel_rfl) (by kernel_rfl) trivial) (hV (sv_concat rfl rfl hcs hr) hN)))))
theorem B_ne {m:Nat} (h:m≠0):M.B m≠⟨#[]⟩:=fun hh=>h (M.B_size_zero.1 (by rw [hh]; rfl))
theorem B_nil {m:Nat} (h:m=0):M.B m=⟨#[]⟩:=by
 subst h
 unfold M.B
 rw [M.bytesOf_zero]
theorem B_mono {m n:Nat} (h:m≤n):(M.B m).size≤(M.B n).size:=M.size_B_le (Nat.lt_of_le_of_lt h (M.lt_of_size_B (Nat.le_refl _)))
theorem gc_loop:∀ (fuel m n:Nat),m+n < fuel→(M.B m).size≤68719476736→(M.B n).size≤68719476736 →
 Rounds Tryd.prog (loopOf Tryd.f70 0) 0 (gS (M.B m) (M.B n)) .ret (gR (M.B (Nat.gcd m n))) ∨
 ∃ c d,Rounds Tryd.prog (loopOf Tryd.f70 0) 0 (gS (M.B m) (M.B n)) .normal (gS c d)∧c++d=M.B (Nat.gcd m n)∧c.size+d.size≤9223372036854775807
 | 0,m,n,h,_,_=>by omega
 | fuel+1,m,n,hf,sm,sn=>by
   by_cases h0:m=0
   ·refine .inr ⟨_,_,.stop (gc_ea _ _ (B_nil h0)),?_,by omega⟩
    rw [B_nil h0,h0,Nat.gcd_zero_left]
    exact ByteArray.empty_append
   by_cases h1:n=0
   ·refine .inr ⟨_,_,.stop (gc_eb _ _ (B_ne h0) (B_nil h1)),?_,by omega⟩
    rw [B_nil h1,h1,Nat.gcd_zero_right]
    exact ByteArray.append_empty
   have na:=B_ne h0
   have nb:=B_ne h1
   have vm:=M.V_B m
   have vn:=M.V_B n
   have sh:∀ k,(M.B k).size≤8→CSpec Tryd.prog 74 #[.string (M.B k)] (.int .u64 (k:Int)):=fun k hk=>by
    have:=short_c (M.B k) hk
    rwa [M.V_B] at this
   have fs:∀ k l,(M.B k).size≤8→k≠0→CSpec Tryd.prog 73 #[.int .u64 (Nat.gcd k l:Nat)] (.string (M.B (Nat.gcd k l))):=fun k l hk h=>by
    refine fromShort_c _ ?_
    have h2:=M.lt_of_size_B hk
    have h3:=Nat.gcd_le_left l (Nat.pos_of_ne_zero h)
    have:(256:Nat)^8=18446744073709551616:=by decide
    omega
   have ha:∀ k l,k≠0→l≠0→(M.B k).size≤68719476736→(M.B l).size≤68719476736→CSpec Tryd.prog 82 #[.string (M.B k),.string (M.B l)] (.string (M.B (Nat.gcd k l))):=fun k l hk hl k1 l1=>by
    have:=halves_c (M.B k) (M.B l) k1 l1 (by rw [M.V_B]) (by rw [M.V_B]) (by rw [M.V_B]; exact hk) (by rw [M.V_B]; exact hl)
    rwa [M.V_B,M.V_B] at this
   have dv:∀ k l,l≠0→(M.B k).size≤68719476736→(M.B l).size≤68719476736→CSpec Tryd.prog 71 #[.string (M.B k),.string (M.B l)] (.tuple #[.string (M.B (k/l)),.string (M.B (k%l)),.int .i64 0]):=fun k l hl k1 l1=>by
    have:=div_c (M.B k) (M.B l) (by omega) (by omega) (by rw [M.V_B]; exact hl)
    rwa [M.V_B,M.V_B] at this
   by_cases hsw:(M.B m).size < (M.B n).size
   ·by_cases h8:(M.B n).size≤8
    ·refine .inl (.ret ?_)
     rw [Nat.gcd_comm]
     exact gc_s1 _ _ _ _ _ _ na nb hsw (by omega) (by omega) h8 (sh n h8) (sh m (by omega)) (common_c n m) (fs n m h8 h1)
    by_cases h9:(M.B n).size≤(M.B m).size+8
    ·refine .inl (.ret ?_)
     rw [Nat.gcd_comm]
     exact gc_h1 _ _ _ na nb hsw (by omega) (by omega) h8 h9 (ha n m h1 h0 sn sm)
    have hst:=gc_d1 _ _ _ _ na nb hsw (by omega) (by omega) h8 h9 (dv n m h0 sn sm)
    have hlt:n%m < m:=Nat.mod_lt _ (Nat.pos_of_ne_zero h0)
    have hmn:m < n:=by
     rcases Nat.lt_or_ge m n with h | h
     ·exact h
     have:=B_mono h
     omega
    have hs:=B_mono (Nat.le_of_lt hlt)
    have hg:Nat.gcd m (n%m)=Nat.gcd m n:=by rw [Nat.gcd_rec m n,Nat.gcd_comm]
    rcases gc_loop fuel m (n%m) (by omega) sm (by omega) with h | ⟨c,d,h,h',h''⟩
    ·rw [hg] at h
     exact .inl (.step hst h)
    rw [hg] at h'
    exact .inr ⟨c,d,.step hst h,h',h''⟩
   by_cases h8:(M.B m).size≤8
   ·exact .inl (.ret (gc_s0 _ _ _ _ _ _ na nb hsw (by omega) (by omega) h8 (sh m h8) (sh n (by omega)) (common_c m n) (fs m n h8 h0)))
   by_cases h9:(M.B m).size≤(M.B n).size+8
   ·exact .inl (.ret (gc_h0 _ _ _ na nb hsw (by omega) (by omega) h8 h9 (ha m n h0 h1 sm sn)))
   have hst:=gc_d0 _ _ _ _ na nb hsw (by omega) (by omega) h8 h9 (dv m n h1 sm sn)
   have hlt:m%n < n:=Nat.mod_lt _ (Nat.pos_of_ne_zero h1)
   have hmn:n < m:=by
    rcases Nat.lt_or_ge n m with h | h
    ·exact h
    have:=B_mono h
    omega
   have hs:=B_mono (Nat.le_of_lt hlt)
   have hg:Nat.gcd n (m%n)=Nat.gcd m n:=by rw [Nat.gcd_comm m n,Nat.gcd_rec n m,Nat.gcd_comm]
   rcases gc_loop fuel n (m%n) (by omega) sn (by omega) with h | ⟨c,d,h,h',h''⟩
   ·rw [hg] at h
    exact .inl (.step hst h)
   rw [hg] at h'
   exact .inr ⟨c,d,.step hst h,h',h''⟩
theorem gcd_c (a b:ByteArray) (ha:a.size≤68719476736) (hb:b.size≤68719476736):CSpec Tryd.prog 70 #[.string a,.string b] (.string (M.B (Nat.gcd (M.V a) (M.V b)))):=by
 have h1:=M.size_BV a
 have h2:=M.size_BV b
 rcases gc_loop _ (M.V a) (M.V b) (Nat.lt_succ_self _) (by omega) (by omega) with h | ⟨c,d,h,h',h''⟩
 ·exact cspec_of (gc_fnR a b _ _ _ (trim_c a) (trim_c b) h.spec)
 exact cspec_of (gc_fnE a b _ _ c d _ (trim_c a) (trim_c b) h.spec h' h'')
#print axioms gcd_c
end Go.Proofs.YtmkgijiniopalaaDoor.G
