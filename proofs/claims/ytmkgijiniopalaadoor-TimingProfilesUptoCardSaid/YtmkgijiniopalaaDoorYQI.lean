import Derived.Test.YtmkgijiniopalaaDoorYGG
set_option maxRecDepth 100000
set_option linter.unusedVariables false
section
namespace Go.Proofs.YtmkgijiniopalaaDoor.G
open Go.Proofs.YtmkgijiniopalaaDoor.U Go.RowKit Go.Proofs.YtmkgijiniopalaaDoorW.PrintWords Go.Proofs.YtmkgijiniopalaaDoorW.PrintLast Go.Proofs.YtmkgijiniopalaaDoorW.PrintMore
abbrev rv (n:Bool) (a b:ByteArray):Value:=.agg #[.bool n,.string a,.string b]
def one1:ByteArray:=⟨#[1]⟩
theorem str_eqd (a b:ByteArray):(a.toList==b.toList)=decide (a=b):=by
 have:=str_neq a b
 by_cases h:a=b<;>simp_all
theorem str_eq_t {a b:ByteArray} (h:a=b):V.c (.bool (a.toList==b.toList))=V.c (.bool true):=by rw [str_eqd,h]; simp
theorem str_eq_f {a b:ByteArray} (h:a≠b):V.c (.bool (a.toList==b.toList))=V.c (.bool false):=by rw [str_eqd]; simp [h]
theorem str_eq_r {a b:ByteArray} {r:Bool} (h:decide (a=b)=r):V.c (.bool (a.toList==b.toList))=V.c (.bool r):=by rw [str_eqd,h]
theorem str_ne_t' {a b:ByteArray} (h:a≠b):V.c (.bool (!(a.toList==b.toList)))=V.c (.bool true):=by rw [str_neq]; simp [h]
theorem str_ne_f' {a b:ByteArray} (h:a=b):V.c (.bool (!(a.toList==b.toList)))=V.c (.bool false):=by rw [str_neq]; simp [h]
theorem bool_v {a b:Bool} (h:a=b):V.c (.bool a)=V.c (.bool b):=by rw [h]
theorem pos_of {b:ByteArray} (h:b≠⟨#[]⟩):0 < b.size:=by
 rcases Nat.eq_zero_or_pos b.size with h0 | h0
 ·refine (h ?_).elim
  cases b with
  | mk d =>
    congr 1
    exact Array.eq_empty_of_size_eq_zero h0
 exact h0
theorem sv_index0 {P:Program} {S:St} {x y:Operand} {a:ByteArray} {d:Nat} {dd:Option Tmp} {ty ty3:TypeId} {ps:String} {af:Array Edge} {g:Option (Nat × Bool)}
 (h1:St.rho S x = .string a) (h2:St.rho S y = .int .i64 0) (hu:P.underlying ty=some .string) (hk:0 < a.size) (hd:bt a 0=(d:Int)) :
 sval P (execOp (St.rho S) { dst:=dd,op:=.index ty x y,type:=ty3,pos:=ps,after:=af,guard:=g })=some (.value (.int .u8 (d:Int))):=by
 have hb:bt a 0=((a[0]'hk).toNat:Int):=by
  unfold bt
  simp [hk]
 rw [hb] at hd
 simp only [execOp,h1,h2,Instr.index]
 have hund:sval P (underlying ty)=some .string:=by
  unfold underlying
  refine sval_bind' (a:=P) rfl ?_
  rw [hu]
  rfl
 refine sval_bind' (a:=.int .u8 (d:Int)) ?_ rfl
 refine sval_bind' (a:=(IntKind.i64,(0:Int))) rfl ?_
 refine sval_bind' hund ?_
 have hg:(if 0≤(0:Int) then a[(0:Int).toNat]? else none)=some (a[0]'hk):=by
  rw [if_pos (by omega)]
  exact getElem?_pos a 0 hk
 simp only [hg]
 rw [hd]
 rfl
theorem go_1 (n:Bool) (a b:ByteArray) (hb:b=⟨#[]⟩):FSpec Tryd.prog 66 [.c (rv n a b)] [] (vF) [] :=
 fspec_ok Tryd.func66 (sc:=[(1,2,.is (.c (.bool true)))]) (sb:=[]) (keep:=[]) (obs:=[Ob.prop (Flat ([]:List (Option Row))),Ob.prop (V.c (Value.bool (ByteArray.toList b==ByteArray.toList { data:=#[] }))=vT)]) (by kernel_rfl) (hP trivial (hP (str_eq_t hb) hN))
theorem go_2 (n:Bool) (a b:ByteArray) (d:Nat) (hb:b≠⟨#[]⟩) (hd:bt b 0=(d:Int)) (h0:d=0):FSpec Tryd.prog 66 [.c (rv n a b)] [] (vF) [] :=
 fspec_ok Tryd.func66 (sc:=[(1,2,.is (.c (.bool false))),(1,6,.fix (.int .u8 (d:Nat))),(1,7,.is (.c (.bool true)))]) (sb:=[]) (keep:=[]) (obs:=[Ob.prop (Flat ([]:List (Option Row))),Ob.prop (V.c (Value.bool (ByteArray.toList b==ByteArray.toList { data:=#[] }))=vF),Ob.val (execOp (St.rho ⟨(slots 9 0 [(8,V.c (Value.string b))]),[]⟩) { dst:=some 9,op:=Op.index 9 (Operand.tmp 8) (Operand.const (Value.int IntKind.i64 (0:Int))),type:=5,pos := "rat.go:14",after:={ toList:=[{ on:=5,ground:=Ground.data },{ on:=3,ground:=Ground.guard }] },guard:=some (3,false) }) (Value.int IntKind.u8 (↑d:Int)),Ob.prop (V.c (Value.bool ((↑d:Int)==(0:Int)))=vT)]) (by kernel_rfl) (hP trivial (hP (str_eq_f hb) (hV (sv_index0 rfl rfl (by kernel_rfl) (pos_of hb) hd) (hP zV hN))))
theorem go_3 (n:Bool) (a b:ByteArray) (d:Nat) (hb:b≠⟨#[]⟩) (hd:bt b 0=(d:Int)) (h0:d≠0) (ha:a=⟨#[]⟩) (hn:n=true):FSpec Tryd.prog 66 [.c (rv n a b)] [] (vF) [] :=
 fspec_ok Tryd.func66 (sc:=[(1,2,.is (.c (.bool false))),(1,6,.fix (.int .u8 (d:Nat))),(1,7,.is (.c (.bool false))),(1,12,.is (.c (.bool true))),(1,15,.is (.c (.bool true)))]) (sb:=[]) (keep:=[]) (obs:=[Ob.prop (Flat ([]:List (Option Row))),Ob.prop (V.c (Value.bool (ByteArray.toList b==ByteArray.toList { data:=#[] }))=vF),Ob.val (execOp (St.rho ⟨(slots 9 0 [(8,V.c (Value.string b))]),[]⟩) { dst:=some 9,op:=Op.index 9 (Operand.tmp 8) (Operand.const (Value.int IntKind.i64 (0:Int))),type:=5,pos := "rat.go:14",after:={ toList:=[{ on:=5,ground:=Ground.data },{ on:=3,ground:=Ground.guard }] },guard:=some (3,false) }) (Value.int IntKind.u8 (↑d:Int)),Ob.prop (V.c (Value.bool ((↑d:Int)==(0:Int)))=vF),Ob.prop (V.c (Value.bool (ByteArray.toList a==ByteArray.toList { data:=#[] }))=vT),Ob.prop (V.c (Value.bool n)=vT)]) (by kernel_rfl) (hP trivial (hP (str_eq_f hb) (hV (sv_index0 rfl rfl (by kernel_rfl) (pos_of hb) hd) (hP zV (hP (str_eq_t ha) (hP (bool_v hn) hN))))))
theorem go_4 (n:Bool) (a b:ByteArray) (d:Nat) (hb:b≠⟨#[]⟩) (hd:bt b 0=(d:Int)) (h0:d≠0) (ha:a=⟨#[]⟩) (hn:n=false) (h1:b≠one1):FSpec Tryd.prog 66 [.c (rv n a b)] [] (vF) [] :=
 fspec_ok Tryd.func66 (sc:=[(1,2,.is (.c (.bool false))),(1,6,.fix (.int .u8 (d:Nat))),(1,7,.is (.c (.bool false))),(1,12,.is (.c (.bool true))),(1,15,.is (.c (.bool false))),(1,19,.is (.c (.bool true)))]) (sb:=[]) (keep:=[]) (obs:=[Ob.prop (Flat ([]:List (Option Row))),Ob.prop (V.c (Value.bool (ByteArray.toList b==ByteArray.toList { data:=#[] }))=vF),Ob.val (execOp (St.rho ⟨(slots 9 0 [(8,V.c (Value.string b))]),[]⟩) { dst:=some 9,op:=Op.index 9 (Operand.tmp 8) (Operand.const (Value.int IntKind.i64 (0:Int))),type:=5,pos := "rat.go:14",after:={ toList:=[{ on:=5,ground:=Ground.data },{ on:=3,ground:=Ground.guard }] },guard:=some (3,false) }) (Value.int IntKind.u8 (↑d:Int)),Ob.prop (V.c (Value.bool ((↑d:Int)==(0:Int)))=vF),Ob.prop (V.c (Value.bool (ByteArray.toList a==ByteArray.toList { data:=#[] }))=vT),Ob.prop (V.c (Value.bool n)=vF),Ob.prop (V.c (Value.bool !ByteArray.toList b==ByteArray.toList { data:=#[(1:UInt8)] })=vT)]) (by kernel_rfl) (hP trivial (hP (str_eq_f hb) (hV (sv_index0 rfl rfl (by kernel_rfl) (pos_of hb) hd) (hP zV (hP (str_eq_t ha) (hP (bool_v hn) (hP (str_ne_t' h1) hN)))))))
theorem go_5 (n:Bool) (a b:ByteArray) (d:Nat) (hb:b≠⟨#[]⟩) (hd:bt b 0=(d:Int)) (h0:d≠0) (ha:a=⟨#[]⟩) (hn:n=false) (h1:b=one1):FSpec Tryd.prog 66 [.c (rv n a b)] [] (vT) [] :=
 fspec_ok Tryd.func66 (sc:=[(1,2,.is (.c (.bool false))),(1,6,.fix (.int .u8 (d:Nat))),(1,7,.is (.c (.bool false))),(1,12,.is (.c (.bool true))),(1,15,.is (.c (.bool false))),(1,19,.is (.c (.bool false))),(1,26,.is (.c (.bool false))),(3,2,.is (.c (.bool true)))]) (sb:=[]) (keep:=[]) (obs:=[Ob.prop (Flat ([]:List (Option Row))),Ob.prop (V.c (Value.bool (ByteArray.toList b==ByteArray.toList { data:=#[] }))=vF),Ob.val (execOp (St.rho ⟨(slots 9 0 [(8,V.c (Value.string b))]),[]⟩) { dst:=some 9,op:=Op.index 9 (Operand.tmp 8) (Operand.const (Value.int IntKind.i64 (0:Int))),type:=5,pos := "rat.go:14",after:={ toList:=[{ on:=5,ground:=Ground.data },{ on:=3,ground:=Ground.guard }] },guard:=some (3,false) }) (Value.int IntKind.u8 (↑d:Int)),Ob.prop (V.c (Value.bool ((↑d:Int)==(0:Int)))=vF),Ob.prop (V.c (Value.bool (ByteArray.toList a==ByteArray.toList { data:=#[] }))=vT),Ob.prop (V.c (Value.bool n)=vF),Ob.prop (V.c (Value.bool !ByteArray.toList b==ByteArray.toList { data:=#[(1:UInt8)] })=vF),Ob.prop (V.c (Value.bool !ByteArray.toList a==ByteArray.toList { data:=#[] })=vF),Ob.prop (V.c (Value.bool (ByteArray.toList b==ByteArray.toList { data:=#[(1:UInt8)] }))=vT)]) (by kernel_rfl) (hP trivial (hP (str_eq_f hb) (hV (sv_index0 rfl rfl (by kernel_rfl) (pos_of hb) hd) (hP zV (hP (str_eq_t ha) (hP (bool_v hn) (hP (str_ne_f' h1) (hP (str_ne_f' ha) (hP (str_eq_t h1) hN)))))))))
theorem go_6 (n:Bool) (a b:ByteArray) (d e:Nat) (hb:b≠⟨#[]⟩) (hd:bt b 0=(d:Int)) (h0:d≠0) (ha:a≠⟨#[]⟩) (he:bt a 0=(e:Int)) (h1:e=0):FSpec Tryd.prog 66 [.c (rv n a b)] [] (vF) [] :=
 fspec_ok Tryd.func66 (sc:=[(1,2,.is (.c (.bool false))),(1,6,.fix (.int .u8 (d:Nat))),(1,7,.is (.c (.bool false))),(1,12,.is (.c (.bool false))),(1,26,.is (.c (.bool true))),(1,30,.fix (.int .u8 (e:Nat))),(1,31,.is (.c (.bool true)))]) (sb:=[]) (keep:=[]) (obs:=[Ob.prop (Flat ([]:List (Option Row))),Ob.prop (V.c (Value.bool (ByteArray.toList b==ByteArray.toList { data:=#[] }))=vF),Ob.val (execOp (St.rho ⟨(slots 9 0 [(8,V.c (Value.string b))]),[]⟩) { dst:=some 9,op:=Op.index 9 (Operand.tmp 8) (Operand.const (Value.int IntKind.i64 (0:Int))),type:=5,pos := "rat.go:14",after:={ toList:=[{ on:=5,ground:=Ground.data },{ on:=3,ground:=Ground.guard }] },guard:=some (3,false) }) (Value.int IntKind.u8 (↑d:Int)),Ob.prop (V.c (Value.bool ((↑d:Int)==(0:Int)))=vF),Ob.prop (V.c (Value.bool (ByteArray.toList a==ByteArray.toList { data:=#[] }))=vF),Ob.prop (V.c (Value.bool !ByteArray.toList a==ByteArray.toList { data:=#[] })=vT),Ob.val (execOp (St.rho ⟨(slots 33 0 [(32,V.c (Value.string a))]),[]⟩) { dst:=some 33,op:=Op.index 9 (Operand.tmp 32) (Operand.const (Value.int IntKind.i64 (0:Int))),type:=5,pos := "rat.go:14",after:={ toList:=[{ on:=29,ground:=Ground.data },{ on:=27,ground:=Ground.guard }] },guard:=some (27,true) }) (Value.int IntKind.u8 (↑e:Int)),Ob.prop (V.c (Value.bool ((↑e:Int)==(0:Int)))=vT)]) (by kernel_rfl) (hP trivial (hP (str_eq_f hb) (hV (sv_index0 rfl rfl (by kernel_rfl) (pos_of hb) hd) (hP zV (hP (str_eq_f ha) (hP (str_ne_t' ha) (hV (sv_index0 rfl rfl (by kernel_rfl) (pos_of ha) he) (hP zV hN))))))))
theorem go_7 (n:Bool) (a b:ByteArray) (d e:Nat) (hb:b≠⟨#[]⟩) (hd:bt b 0=(d:Int)) (h0:d≠0) (ha:a≠⟨#[]⟩) (he:bt a 0=(e:Int)) (h1:e≠0) (h2:b=one1):FSpec Tryd.prog 66 [.c (rv n a b)] [] (vT) [] :=
 fspec_ok Tryd.func66 (sc:=[(1,2,.is (.c (.bool false))),(1,6,.fix (.int .u8 (d:Nat))),(1,7,.is (.c (.bool false))),(1,12,.is (.c (.bool false))),(1,26,.is (.c (.bool true))),(1,30,.fix (.int .u8 (e:Nat))),(1,31,.is (.c (.bool false))),(3,2,.is (.c (.bool true)))]) (sb:=[]) (keep:=[]) (obs:=[Ob.prop (Flat ([]:List (Option Row))),Ob.prop (V.c (Value.bool (ByteArray.toList b==ByteArray.toList { data:=#[] }))=vF),Ob.val (execOp (St.rho ⟨(slots 9 0 [(8,V.c (Value.string b))]),[]⟩) { dst:=some 9,op:=Op.index 9 (Operand.tmp 8) (Operand.const (Value.int IntKind.i64 (0:Int))),type:=5,pos := "rat.go:14",after:={ toList:=[{ on:=5,ground:=Ground.data },{ on:=3,ground:=Ground.guard }] },guard:=some (3,false) }) (Value.int IntKind.u8 (↑d:Int)),Ob.prop (V.c (Value.bool ((↑d:Int)==(0:Int)))=vF),Ob.prop (V.c (Value.bool (ByteArray.toList a==ByteArray.toList { data:=#[] }))=vF),Ob.prop (V.c (Value.bool !ByteArray.toList a==ByteArray.toList { data:=#[] })=vT),Ob.val (execOp (St.rho ⟨(slots 33 0 [(32,V.c (Value.string a))]),[]⟩) { dst:=some 33,op:=Op.index 9 (Operand.tmp 32) (Operand.const (Value.int IntKind.i64 (0:Int))),type:=5,pos := "rat.go:14",after:={ toList:=[{ on:=29,ground:=Ground.data },{ on:=27,ground:=Ground.guard }] },guard:=some (27,true) }) (Value.int IntKind.u8 (↑e:Int)),Ob.prop (V.c (Value.bool ((↑e:Int)==(0:Int)))=vF),Ob.prop (V.c (Value.bool (ByteArray.toList b==ByteArray.toList { data:=#[(1:UInt8)] }))=vT)]) (by kernel_rfl) (hP trivial (hP (str_eq_f hb) (hV (sv_index0 rfl rfl (by kernel_rfl) (pos_of hb) hd) (hP zV (hP (str_eq_f ha) (hP (str_ne_t' ha) (hV (sv_index0 rfl rfl (by kernel_rfl) (pos_of ha) he) (hP zV (hP (str_eq_t h2) hN)))))))))
theorem go_8 (n:Bool) (a b:ByteArray) (d e:Nat) (g:ByteArray) (r:Bool) (hb:b≠⟨#[]⟩) (hd:bt b 0=(d:Int)) (h0:d≠0) (ha:a≠⟨#[]⟩) (he:bt a 0=(e:Int)) (h1:e≠0) (h2:b≠one1) (hg:CSpec Tryd.prog 70 #[.string a,.string b] (.string g)) (hr:decide (g=one1)=r):FSpec Tryd.prog 66 [.c (rv n a b)] [] (V.c (Value.bool r)) [] :=
 fspec_ok Tryd.func66 (sc:=[(1,2,.is (.c (.bool false))),(1,6,.fix (.int .u8 (d:Nat))),(1,7,.is (.c (.bool false))),(1,12,.is (.c (.bool false))),(1,26,.is (.c (.bool true))),(1,30,.fix (.int .u8 (e:Nat))),(1,31,.is (.c (.bool false))),(3,2,.is (.c (.bool false))),(3,8,.fix (.string g)),(3,9,.is (.c (.bool r)))]) (sb:=[]) (keep:=[]) (obs:=[Ob.prop (Flat ([]:List (Option Row))),Ob.prop (V.c (Value.bool (ByteArray.toList b==ByteArray.toList { data:=#[] }))=vF),Ob.val (execOp (St.rho ⟨(slots 9 0 [(8,V.c (Value.string b))]),[]⟩) { dst:=some 9,op:=Op.index 9 (Operand.tmp 8) (Operand.const (Value.int IntKind.i64 (0:Int))),type:=5,pos := "rat.go:14",after:={ toList:=[{ on:=5,ground:=Ground.data },{ on:=3,ground:=Ground.guard }] },guard:=some (3,false) }) (Value.int IntKind.u8 (↑d:Int)),Ob.prop (V.c (Value.bool ((↑d:Int)==(0:Int)))=vF),Ob.prop (V.c (Value.bool (ByteArray.toList a==ByteArray.toList { data:=#[] }))=vF),Ob.prop (V.c (Value.bool !ByteArray.toList a==ByteArray.toList { data:=#[] })=vT),Ob.val (execOp (St.rho ⟨(slots 33 0 [(32,V.c (Value.string a))]),[]⟩) { dst:=some 33,op:=Op.index 9 (Operand.tmp 32) (Operand.const (Value.int IntKind.i64 (0:Int))),type:=5,pos := "rat.go:14",after:={ toList:=[{ on:=29,ground:=Ground.data },{ on:=27,ground:=Ground.guard }] },guard:=some (27,true) }) (Value.int IntKind.u8 (↑e:Int)),Ob.prop (V.c (Value.bool ((↑e:Int)==(0:Int)))=vF),Ob.prop (V.c (Value.bool (ByteArray.toList b==ByteArray.toList { data:=#[(1:UInt8)] }))=vF),Ob.call 70 { toList:=[Value.string a,Value.string b] } (Value.string g),Ob.prop (V.c (Value.bool (ByteArray.toList g==ByteArray.toList { data:=#[(1:UInt8)] }))=V.c (Value.bool r))]) (by kernel_rfl) (hP trivial (hP (str_eq_f hb) (hV (sv_index0 rfl rfl (by kernel_rfl) (pos_of hb) hd) (hP zV (hP (str_eq_f ha) (hP (str_ne_t' ha) (hV (sv_index0 rfl rfl (by kernel_rfl) (pos_of ha) he) (hP zV (hP (str_eq_f h2) (hC hg (hP (str_eq_r hr) hN)))))))))))
theorem ze_fn   : FSpec Tryd.prog 67 [] [] (V.c (Value.agg { toList:=[Value.bool false,Value.string { data:=#[] },Value.string { data:=#[(1:UInt8)] }] })) [] :=
 fspec_ok Tryd.func67 (sc:=[]) (sb:=[]) (keep:=[]) (obs:=[Ob.prop (Flat ([]:List (Option Row)))]) (by kernel_rfl) (hP trivial hN)
theorem fi_t (n:Bool) (a b:ByteArray) (hg:CSpec Tryd.prog 66 #[rv n a b] (.bool true)):FSpec Tryd.prog 48 [.c (rv n a b)] [] (V.c (Value.agg { toList:=[Value.bool n,Value.string a,Value.string b] })) [] :=
 fspec_ok Tryd.func48 (sc:=[(1,1,.fix (.bool true))]) (sb:=[]) (keep:=[]) (obs:=[Ob.prop (Flat ([]:List (Option Row))),Ob.call 66 { toList:=[Value.agg { toList:=[Value.bool n,Value.string a,Value.string b] }] } (Value.bool true)]) (by kernel_rfl) (hP trivial (hC hg hN))
theorem fi_f (n:Bool) (a b:ByteArray) (hg:CSpec Tryd.prog 66 #[rv n a b] (.bool false)) (hz:CSpec Tryd.prog 67 #[] (rv false ⟨#[]⟩ one1)):FSpec Tryd.prog 48 [.c (rv n a b)] [] (V.c (Value.agg { toList:=[Value.bool false,Value.string { data:=#[] },Value.string one1] })) [] :=
 fspec_ok Tryd.func48 (sc:=[(1,1,.fix (.bool false)),(2,0,.fix (rv false ⟨#[]⟩ one1))]) (sb:=[]) (keep:=[]) (obs:=[Ob.prop (Flat ([]:List (Option Row))),Ob.call 66 { toList:=[Value.agg { toList:=[Value.bool n,Value.string a,Value.string b] }] } (Value.bool false),Ob.call 67 { toList:=[] } (Value.agg { toList:=[Value.bool false,Value.string { data:=#[] },Value.string one1] }) ]) (by kernel_rfl) (hP trivial (hC hg (hC hz hN)))
end Go.Proofs.YtmkgijiniopalaaDoor.G
end
section
namespace Go.Proofs.YtmkgijiniopalaaDoor.G
open Go.Proofs.YtmkgijiniopalaaDoor.U Go.RowKit Go.Proofs.YtmkgijiniopalaaDoorW.PrintWords Go.Proofs.YtmkgijiniopalaaDoorW.PrintLast Go.Proofs.YtmkgijiniopalaaDoorW.PrintMore
abbrev Rv (x:Rat):Value:=rv (decide (x.num < 0)) (M.B x.num.natAbs) (M.B x.den)
structure Can (n:Bool) (a b:ByteArray):Prop where
 nz:M.V b≠0
 la:M.B (M.V a)=a
 lb:M.B (M.V b)=b
 red:Nat.gcd (M.V a) (M.V b)=1
 sg:M.V a=0→n=false
def sgn (n:Bool) (k:Nat):Int:=if n then -(k:Int) else (k:Int)
theorem sgn_abs (n:Bool) (k:Nat):(sgn n k).natAbs=k:=by cases n<;>simp [sgn]
open Classical in
noncomputable def qv (n:Bool) (a b:ByteArray):Rat:=if h:Can n a b then ⟨sgn n (M.V a),M.V b,h.nz,by rw [sgn_abs]; exact h.red⟩ else 0
theorem Can.rv {n:Bool} {a b:ByteArray} (h:Can n a b):rv n a b=Rv (qv n a b):=by
 unfold qv Rv
 rw [dif_pos h]
 simp only [sgn_abs]
 rw [h.la,h.lb]
 congr 1
 show n=decide (sgn n (M.V a) < 0)
 have hs:=h.sg
 clear h
 generalize M.V a=k at hs
 cases n with
 | false=>simp [sgn]
 | true =>
   have:k≠0:=fun h0=>by have:=hs h0; cases this
   simp only [sgn,if_true]
   exact (decide_eq_true (by omega)).symm
theorem can_Rv (x:Rat):Can (decide (x.num < 0)) (M.B x.num.natAbs) (M.B x.den) where
 nz:=by rw [M.V_B]; exact x.den_nz
 la:=by rw [M.V_B]
 lb:=by rw [M.V_B]
 red:=by rw [M.V_B,M.V_B]; exact x.reduced
 sg:=by
  rw [M.V_B]
  intro h
  have:x.num=0:=Int.natAbs_eq_zero.1 h
  simp [this]
theorem qv_Rv (x:Rat):qv (decide (x.num < 0)) (M.B x.num.natAbs) (M.B x.den)=x:=by
 unfold qv
 rw [dif_pos (can_Rv x)]
 have e:sgn (decide (x.num < 0)) (M.V (M.B x.num.natAbs))=x.num:=by
  rw [M.V_B]
  by_cases h:x.num < 0
  ·simp [sgn,h]; omega
  simp [sgn,h]; omega
 refine Rat.ext ?_ ?_
 ·exact e
 exact M.V_B _
theorem lead_iff (a:ByteArray):M.B (M.V a)=a↔(a.size=0∨bt a 0≠0):=by
 constructor
 ·intro h
  rcases Nat.eq_zero_or_pos a.size with h0 | h0
  ·exact .inl h0
  refine .inr ?_
  have hl:a.data.toList=M.bytesOf (M.V a):=by rw [← M.B_toList,h]
  have hb:=M.Lead_bytesOf (M.V a)
  rw [SA.bt0,hl]
  cases hq:M.bytesOf (M.V a) with
  | nil =>
    rw [hq] at hl
    have:=M.size_toList a
    rw [hl] at this
    simp at this
    omega
  | cons c l =>
    rw [hq] at hb
    have:=hb c rfl
    intro hc
    refine this ?_
    have h2:c.toNat=0:=by simpa using hc
    exact UInt8.toNat_inj.1 h2
 exact SA.lead_of a
theorem V_one1:M.V one1=1:=rfl
theorem nil_of {a:ByteArray} (h:M.B (M.V a)=a) (h0:M.V a=0):a=⟨#[]⟩:=by rw [← h,h0,B_nil rfl]
theorem one_of {a:ByteArray} (h:M.B (M.V a)=a):a=one1↔M.V a=1:=by
 constructor
 ·intro h1; rw [h1]; rfl
 intro h1
 have h2:M.B (M.V one1)=one1:=SA.lead_of _ (.inr (by decide))
 rw [← h,h1,← V_one1,h2]
open Classical in
theorem good_c (n:Bool) (a b:ByteArray) (ha:a.size≤68719476736) (hb:b.size≤68719476736):CSpec Tryd.prog 66 #[rv n a b] (.bool (decide (Can n a b))):=by
 by_cases b0:b=⟨#[]⟩
 ·rw [decide_eq_false (fun h=>h.nz (by rw [b0]; rfl))]
  exact cspec_of (go_1 n a b b0)
 have bp:=pos_of b0
 obtain ⟨d,hd,hd2⟩:=bt_nat b 0
 by_cases d0:d=0
 ·rw [decide_eq_false (fun h => by
   rcases (lead_iff b).1 h.lb with h1 | h1
   ·omega
   rw [hd,d0] at h1; exact h1 rfl)]
  exact cspec_of (go_2 n a b d b0 hd d0)
 have lb:M.B (M.V b)=b:=SA.lead_of b (.inr (by rw [hd]; omega))
 have nz:M.V b≠0:=fun h=>b0 (nil_of lb h)
 by_cases a0:a=⟨#[]⟩
 ·have va:M.V a=0:=by rw [a0]; rfl
  have la:M.B (M.V a)=a:=SA.lead_of a (.inl (by rw [a0]; rfl))
  cases n with
  | true =>
    rw [decide_eq_false (fun h=>by have:=h.sg va; cases this)]
    exact cspec_of (go_3 true a b d b0 hd d0 a0 rfl)
  | false =>
    by_cases b1:b=one1
    ·rw [decide_eq_true (⟨nz,la,lb,by rw [va,b1]; rfl,fun _=>rfl⟩:Can false a b)]
     exact cspec_of (go_5 false a b d b0 hd d0 a0 rfl b1)
    rw [decide_eq_false (fun h=>by
     have:=h.red
     rw [va,Nat.gcd_zero_left] at this
     exact b1 ((one_of lb).2 this))]
    exact cspec_of (go_4 false a b d b0 hd d0 a0 rfl b1)
 have ap:=pos_of a0
 obtain ⟨e,he,he2⟩:=bt_nat a 0
 by_cases e0:e=0
 ·rw [decide_eq_false (fun h => by
   rcases (lead_iff a).1 h.la with h1 | h1
   ·omega
   rw [he,e0] at h1; exact h1 rfl)]
  exact cspec_of (go_6 n a b d e b0 hd d0 a0 he e0)
 have la:M.B (M.V a)=a:=SA.lead_of a (.inr (by rw [he]; omega))
 have va:M.V a≠0:=fun h=>a0 (nil_of la h)
 by_cases b1:b=one1
 ·rw [decide_eq_true (⟨nz,la,lb,by rw [b1,V_one1,Nat.gcd_one_right],fun h=>(va h).elim⟩:Can n a b)]
  exact cspec_of (go_7 n a b d e b0 hd d0 a0 he e0 b1)
 refine cspec_of (go_8 n a b d e _ _ b0 hd d0 a0 he e0 b1 (gcd_c a b ha hb) ?_)
 refine decide_eq_decide.2 ⟨fun h=>⟨nz,la,lb,?_,fun h=>(va h).elim⟩,fun h=>?_⟩
 ·have:=(one_of (a:=M.B (Nat.gcd (M.V a) (M.V b))) (by rw [M.V_B])).1 h
  rwa [M.V_B] at this
 refine (one_of (by rw [M.V_B])).2 ?_
 rw [M.V_B]
 exact h.red
theorem Rv_zero:Rv 0=rv false ⟨#[]⟩ one1:=by
 have h:=(⟨by rw [V_one1]; decide,B_nil rfl,SA.lead_of _ (.inr (by decide)),rfl,fun _=>rfl⟩:Can false ⟨#[]⟩ one1)
 rw [h.rv]
 congr 1
 unfold qv
 rw [dif_pos h]
 exact Rat.ext rfl rfl
theorem zero_c:CSpec Tryd.prog 67 #[] (Rv 0):=by
 rw [Rv_zero]
 exact cspec_of ze_fn
open Classical in
theorem fit_c (n:Bool) (a b:ByteArray) (ha:a.size≤68719476736) (hb:b.size≤68719476736):CSpec Tryd.prog 48 #[rv n a b] (Rv (qv n a b)):=by
 have hg:=good_c n a b ha hb
 by_cases h:Can n a b
 ·rw [decide_eq_true h] at hg
  rw [← h.rv]
  exact cspec_of (fi_t n a b hg)
 rw [decide_eq_false h] at hg
 have:qv n a b=0:=dif_neg h
 rw [this,Rv_zero]
 have hz:=zero_c
 rw [Rv_zero] at hz
 exact cspec_of (fi_f n a b hg hz)
end Go.Proofs.YtmkgijiniopalaaDoor.G
end
section
namespace Go.Proofs.YtmkgijiniopalaaDoor.G
open Go.Proofs.YtmkgijiniopalaaDoor.U Go.RowKit Go.Proofs.YtmkgijiniopalaaDoorW.PrintWords Go.Proofs.YtmkgijiniopalaaDoorW.PrintLast Go.Proofs.YtmkgijiniopalaaDoorW.PrintMore
theorem bool_eq {a b:Bool} (h:a=b):V.c (.bool (a==b))=V.c (.bool true):=by subst h; simp
theorem bool_neq {a b:Bool} (h:a≠b):V.c (.bool (a==b))=V.c (.bool false):=by simp [h]
theorem bool_nev {a b:Bool} (h:a≠b):V.c (.bool (!(a==b)))=V.c (.bool true):=by simp [h]
theorem bool_nev_f {a b:Bool} (h:a=b):V.c (.bool (!(a==b)))=V.c (.bool false):=by subst h; simp
theorem neg_kk {k:Int} (h:-1≤k∧k≤1):V.c (Value.int IntKind.i64 (IntKind.wrap .i64 (0 - k)))=V.c (.int .i64 (-k)):=by
 congr 2
 simp [IntKind.wrap,IntKind.signed,IntKind.bits]; omega
theorem ge_t {n:Int} (h:0≤n):V.c (.bool (decide (n≥0)))=V.c (.bool true):=by congr 2; exact decide_eq_true h
theorem ge_f {n:Int} (h:n < 0):V.c (.bool (decide (n≥0)))=V.c (.bool false):=by congr 2; exact decide_eq_false (by omega)
theorem add_1 {n:Int} (h:n < 0) (h2:-9223372036854775808≤n):V.c (Value.int IntKind.i64 (IntKind.wrap .i64 (n+1)))=V.c (.int .i64 (n+1)):=by
 congr 2
 simp [IntKind.wrap,IntKind.signed,IntKind.bits]; omega
theorem neg_1 {n:Int} (h:n < 0) (h2:-9223372036854775808≤n):V.c (Value.int IntKind.i64 (IntKind.wrap .i64 (0 - (n+1))))=V.c (.int .i64 (-(n+1))):=by
 congr 2
 simp [IntKind.wrap,IntKind.signed,IntKind.bits]; omega
theorem si_1 (n m:Bool) (a b c:ByteArray) (h:n=m) (ha:CSpec Tryd.prog 63 #[.string a,.string b] (.string c)):FSpec Tryd.prog 50 [.c (.bool n),.c (.string a),.c (.bool m),.c (.string b)] [] (V.c (Value.tuple { toList:=[Value.bool n,Value.string c] })) [] :=
 fspec_ok Tryd.func50 (sc:=[(1,2,.is (.c (.bool true))),(2,3,.fix (.string c))]) (sb:=[]) (keep:=[]) (obs:=[Ob.prop (Flat ([]:List (Option Row))),Ob.prop (V.c (Value.bool (n==m))=vT),Ob.call 63 { toList:=[Value.string a,Value.string b] } (Value.string c)]) (by kernel_rfl) (hP trivial (hP (bool_eq h) (hC ha hN)))
theorem si_2 (n m:Bool) (a b c:ByteArray) (h:n≠m) (ha:CSpec Tryd.prog 69 #[.string a,.string b] (.tuple #[.string c,.int .i64 0])):FSpec Tryd.prog 50 [.c (.bool n),.c (.string a),.c (.bool m),.c (.string b)] [] (V.c (Value.tuple { toList:=[Value.bool n,Value.string c] })) [] :=
 fspec_ok Tryd.func50 (sc:=[(1,2,.is (.c (.bool false))),(3,2,.fix (.tuple #[.string c,.int .i64 0]))]) (sb:=[]) (keep:=[]) (obs:=[Ob.prop (Flat ([]:List (Option Row))),Ob.prop (V.c (Value.bool (n==m))=vF),Ob.call 69 { toList:=[Value.string a,Value.string b] } (Value.tuple { toList:=[Value.string c,Value.int IntKind.i64 (0:Int)] })]) (by kernel_rfl) (hP trivial (hP (bool_neq h) (hC ha hN)))
theorem si_3 (n m:Bool) (a b c c':ByteArray) (h:n≠m) (ha:CSpec Tryd.prog 69 #[.string a,.string b] (.tuple #[.string c',.int .i64 1])) (hb:CSpec Tryd.prog 69 #[.string b,.string a] (.tuple #[.string c,.int .i64 0])):FSpec Tryd.prog 50 [.c (.bool n),.c (.string a),.c (.bool m),.c (.string b)] [] (V.c (Value.tuple { toList:=[Value.bool m,Value.string c] })) [] :=
 fspec_ok Tryd.func50 (sc:=[(1,2,.is (.c (.bool false))),(3,2,.fix (.tuple #[.string c',.int .i64 1])),(6,2,.fix (.tuple #[.string c,.int .i64 0]))]) (sb:=[]) (keep:=[]) (obs:=[Ob.prop (Flat ([]:List (Option Row))),Ob.prop (V.c (Value.bool (n==m))=vF),Ob.call 69 { toList:=[Value.string a,Value.string b] } (Value.tuple { toList:=[Value.string c',Value.int IntKind.i64 (1:Int)] }),Ob.call 69 { toList:=[Value.string b,Value.string a] } (Value.tuple { toList:=[Value.string c,Value.int IntKind.i64 (0:Int)] })]) (by kernel_rfl) (hP trivial (hP (bool_neq h) (hC ha (hC hb hN))))
theorem ma_1 (n:Bool) (a b:ByteArray) (h:a=⟨#[]⟩) (hz:CSpec Tryd.prog 67 #[] (rv false ⟨#[]⟩ one1)):FSpec Tryd.prog 51 [.c (.bool n),.c (.string a),.c (.string b)] [] (V.c (Value.agg { toList:=[Value.bool false,Value.string { data:=#[] },Value.string one1] })) [] :=
 fspec_ok Tryd.func51 (sc:=[(1,1,.is (.c (.bool true))),(2,0,.fix (rv false ⟨#[]⟩ one1))]) (sb:=[]) (keep:=[]) (obs:=[Ob.prop (Flat ([]:List (Option Row))),Ob.prop (V.c (Value.bool (ByteArray.toList a==ByteArray.toList { data:=#[] }))=vT),Ob.call 67 { toList:=[] } (Value.agg { toList:=[Value.bool false,Value.string { data:=#[] },Value.string one1] })]) (by kernel_rfl) (hP trivial (hP (str_eq_t h) (hC hz hN)))
theorem ma_2 (n:Bool) (a b:ByteArray) (h:a≠⟨#[]⟩) (h1:b=one1):FSpec Tryd.prog 51 [.c (.bool n),.c (.string a),.c (.string b)] [] (V.c (Value.agg { toList:=[Value.bool n,Value.string a,Value.string b] })) [] :=
 fspec_ok Tryd.func51 (sc:=[(1,1,.is (.c (.bool false))),(3,1,.is (.c (.bool false)))]) (sb:=[]) (keep:=[]) (obs:=[Ob.prop (Flat ([]:List (Option Row))),Ob.prop (V.c (Value.bool (ByteArray.toList a==ByteArray.toList { data:=#[] }))=vF),Ob.prop (V.c (Value.bool !ByteArray.toList b==ByteArray.toList { data:=#[(1:UInt8)] })=vF)]) (by kernel_rfl) (hP trivial (hP (str_eq_f h) (hP (str_ne_f' h1) hN)))
theorem ma_3 (n:Bool) (a b g:ByteArray) (h:a≠⟨#[]⟩) (h1:b≠one1) (hg:CSpec Tryd.prog 70 #[.string a,.string b] (.string g)) (h2:g=one1):FSpec Tryd.prog 51 [.c (.bool n),.c (.string a),.c (.string b)] [] (V.c (Value.agg { toList:=[Value.bool n,Value.string a,Value.string b] })) [] :=
 fspec_ok Tryd.func51 (sc:=[(1,1,.is (.c (.bool false))),(3,1,.is (.c (.bool true))),(4,2,.fix (.string g)),(5,1,.is (.c (.bool false)))]) (sb:=[]) (keep:=[]) (obs:=[Ob.prop (Flat ([]:List (Option Row))),Ob.prop (V.c (Value.bool (ByteArray.toList a==ByteArray.toList { data:=#[] }))=vF),Ob.prop (V.c (Value.bool !ByteArray.toList b==ByteArray.toList { data:=#[(1:UInt8)] })=vT),Ob.call 70 { toList:=[Value.string a,Value.string b] } (Value.string g),Ob.prop (V.c (Value.bool !ByteArray.toList g==ByteArray.toList { data:=#[(1:UInt8)] })=vF)]) (by kernel_rfl) (hP trivial (hP (str_eq_f h) (hP (str_ne_t' h1) (hC hg (hP (str_ne_f' h2) hN)))))
theorem ma_4 (n:Bool) (a b g c d c' d':ByteArray) (h:a≠⟨#[]⟩) (h1:b≠one1) (hg:CSpec Tryd.prog 70 #[.string a,.string b] (.string g)) (h2:g≠one1) (hc:CSpec Tryd.prog 71 #[.string a,.string g] (.tuple #[.string c,.string c',.int .i64 0])) (hd:CSpec Tryd.prog 71 #[.string b,.string g] (.tuple #[.string d,.string d',.int .i64 0])):FSpec Tryd.prog 51 [.c (.bool n),.c (.string a),.c (.string b)] [] (V.c (Value.agg { toList:=[Value.bool n,Value.string c,Value.string d] })) [] :=
 fspec_ok Tryd.func51 (sc:=[(1,1,.is (.c (.bool false))),(3,1,.is (.c (.bool true))),(4,2,.fix (.string g)),(5,1,.is (.c (.bool true))),(6,2,.fix (.tuple #[.string c,.string c',.int .i64 0])),(7,2,.fix (.tuple #[.string d,.string d',.int .i64 0]))]) (sb:=[]) (keep:=[]) (obs:=[Ob.prop (Flat ([]:List (Option Row))),Ob.prop (V.c (Value.bool (ByteArray.toList a==ByteArray.toList { data:=#[] }))=vF),Ob.prop (V.c (Value.bool !ByteArray.toList b==ByteArray.toList { data:=#[(1:UInt8)] })=vT),Ob.call 70 { toList:=[Value.string a,Value.string b] } (Value.string g),Ob.prop (V.c (Value.bool !ByteArray.toList g==ByteArray.toList { data:=#[(1:UInt8)] })=vT),Ob.call 71 { toList:=[Value.string a,Value.string g] } (Value.tuple { toList:=[Value.string c,Value.string c',Value.int IntKind.i64 (0:Int)] }),Ob.call 71 { toList:=[Value.string b,Value.string g] } (Value.tuple { toList:=[Value.string d,Value.string d',Value.int IntKind.i64 (0:Int)] })]) (by kernel_rfl) (hP trivial (hP (str_eq_f h) (hP (str_ne_t' h1) (hC hg (hP (str_ne_t' h2) (hC hc (hC hd hN)))))))
theorem ad_1 (n1 n2 x1 x2:Bool) (a1 b1 a2 b2 p1 q1 p2 q2:ByteArray) (s:Bool) (c:ByteArray) (rn:Bool) (ra rb:ByteArray)  (hf1:CSpec Tryd.prog 48 #[rv n1 a1 b1] (rv x1 p1 q1)) (hf2:CSpec Tryd.prog 48 #[rv n2 a2 b2] (rv x2 p2 q2)) (h:q1=q2) (hs:CSpec Tryd.prog 50 #[.bool x1,.string p1,.bool x2,.string p2] (.tuple #[.bool s,.string c])) (hm:CSpec Tryd.prog 51 #[.bool s,.string c,.string q1] (rv rn ra rb)):FSpec Tryd.prog 24 [.c (rv n1 a1 b1),.c (rv n2 a2 b2)] [] (V.c (Value.agg { toList:=[Value.bool rn,Value.string ra,Value.string rb] })) [] :=
 fspec_ok Tryd.func24 (sc:=[(1,1,.fix (rv x1 p1 q1)),(1,3,.fix (rv x2 p2 q2)),(2,4,.is (.c (.bool true))),(3,8,.fix (.tuple #[.bool s,.string c])),(4,4,.fix (rv rn ra rb))]) (sb:=[]) (keep:=[]) (obs:=[Ob.prop (Flat ([]:List (Option Row))),Ob.call 48 { toList:=[Value.agg { toList:=[Value.bool n1,Value.string a1,Value.string b1] }] } (Value.agg { toList:=[Value.bool x1,Value.string p1,Value.string q1] }),Ob.call 48 { toList:=[Value.agg { toList:=[Value.bool n2,Value.string a2,Value.string b2] }] } (Value.agg { toList:=[Value.bool x2,Value.string p2,Value.string q2] }),Ob.prop (V.c (Value.bool (ByteArray.toList q1==ByteArray.toList q2))=vT),Ob.call 50 { toList:=[Value.bool x1,Value.string p1,Value.bool x2,Value.string p2] } (Value.tuple { toList:=[Value.bool s,Value.string c] }),Ob.call 51 { toList:=[Value.bool s,Value.string c,Value.string q1] } (Value.agg { toList:=[Value.bool rn,Value.string ra,Value.string rb] })]) (by kernel_rfl) (hP trivial (hC hf1 (hC hf2 (hP (str_eq_t h) (hC hs (hC hm hN))))))
theorem ad_2 (n1 n2 x1 x2:Bool) (a1 b1 a2 b2 p1 q1 p2 q2:ByteArray) (s:Bool) (c u v w:ByteArray) (rn:Bool) (ra rb:ByteArray)  (hf1:CSpec Tryd.prog 48 #[rv n1 a1 b1] (rv x1 p1 q1)) (hf2:CSpec Tryd.prog 48 #[rv n2 a2 b2] (rv x2 p2 q2)) (h:q1≠q2) (hu:CSpec Tryd.prog 52 #[.string p1,.string q2] (.string u)) (hv:CSpec Tryd.prog 52 #[.string p2,.string q1] (.string v)) (hs:CSpec Tryd.prog 50 #[.bool x1,.string u,.bool x2,.string v] (.tuple #[.bool s,.string c])) (hw:CSpec Tryd.prog 52 #[.string q1,.string q2] (.string w)) (hm:CSpec Tryd.prog 51 #[.bool s,.string c,.string w] (rv rn ra rb)):FSpec Tryd.prog 24 [.c (rv n1 a1 b1),.c (rv n2 a2 b2)] [] (V.c (Value.agg { toList:=[Value.bool rn,Value.string ra,Value.string rb] })) [] :=
 fspec_ok Tryd.func24 (sc:=[(1,1,.fix (rv x1 p1 q1)),(1,3,.fix (rv x2 p2 q2)),(2,4,.is (.c (.bool false))),(5,6,.fix (.string u)),(5,13,.fix (.string v)),(5,14,.fix (.tuple #[.bool s,.string c])),(6,6,.fix (.string w)),(6,7,.fix (rv rn ra rb))]) (sb:=[]) (keep:=[]) (obs:=[Ob.prop (Flat ([]:List (Option Row))),Ob.call 48 { toList:=[Value.agg { toList:=[Value.bool n1,Value.string a1,Value.string b1] }] } (Value.agg { toList:=[Value.bool x1,Value.string p1,Value.string q1] }),Ob.call 48 { toList:=[Value.agg { toList:=[Value.bool n2,Value.string a2,Value.string b2] }] } (Value.agg { toList:=[Value.bool x2,Value.string p2,Value.string q2] }),Ob.prop (V.c (Value.bool (ByteArray.toList q1==ByteArray.toList q2))=vF),Ob.call 52 { toList:=[Value.string p1,Value.string q2] } (Value.string u),Ob.call 52 { toList:=[Value.string p2,Value.string q1] } (Value.string v),Ob.call 50 { toList:=[Value.bool x1,Value.string u,Value.bool x2,Value.string v] } (Value.tuple { toList:=[Value.bool s,Value.string c] }),Ob.call 52 { toList:=[Value.string q1,Value.string q2] } (Value.string w),Ob.call 51 { toList:=[Value.bool s,Value.string c,Value.string w] } (Value.agg { toList:=[Value.bool rn,Value.string ra,Value.string rb] })]) (by kernel_rfl) (hP trivial (hC hf1 (hC hf2 (hP (str_eq_f h) (hC hu (hC hv (hC hs (hC hw (hC hm hN)))))))))
theorem mu_1 (n1 n2 x1 x2:Bool) (a1 b1 a2 b2 p1 q1 p2 q2:ByteArray) (u v:ByteArray) (rn:Bool) (ra rb:ByteArray)  (hf1:CSpec Tryd.prog 48 #[rv n1 a1 b1] (rv x1 p1 q1)) (hf2:CSpec Tryd.prog 48 #[rv n2 a2 b2] (rv x2 p2 q2)) (hu:CSpec Tryd.prog 52 #[.string p1,.string p2] (.string u)) (hv:CSpec Tryd.prog 52 #[.string q1,.string q2] (.string v)) (hm:CSpec Tryd.prog 51 #[.bool (x1 != x2),.string u,.string v] (rv rn ra rb)):FSpec Tryd.prog 25 [.c (rv n1 a1 b1),.c (rv n2 a2 b2)] [] (V.c (Value.agg { toList:=[Value.bool rn,Value.string ra,Value.string rb] })) [] :=
 fspec_ok Tryd.func25 (sc:=[(1,1,.fix (rv x1 p1 q1)),(1,3,.fix (rv x2 p2 q2)),(2,4,.is (.c (.bool (x1 != x2)))),(2,9,.fix (.string u)),(2,14,.fix (.string v)),(2,15,.fix (rv rn ra rb))]) (sb:=[]) (keep:=[]) (obs:=[Ob.prop (Flat ([]:List (Option Row))),Ob.call 48 { toList:=[Value.agg { toList:=[Value.bool n1,Value.string a1,Value.string b1] }] } (Value.agg { toList:=[Value.bool x1,Value.string p1,Value.string q1] }),Ob.call 48 { toList:=[Value.agg { toList:=[Value.bool n2,Value.string a2,Value.string b2] }] } (Value.agg { toList:=[Value.bool x2,Value.string p2,Value.string q2] }),Ob.prop (V.c (Value.bool !x1==x2)=V.c (Value.bool (x1 != x2))),Ob.call 52 { toList:=[Value.string p1,Value.string p2] } (Value.string u),Ob.call 52 { toList:=[Value.string q1,Value.string q2] } (Value.string v),Ob.call 51 { toList:=[Value.bool (x1 != x2),Value.string u,Value.string v] } (Value.agg { toList:=[Value.bool rn,Value.string ra,Value.string rb] })]) (by kernel_rfl) (hP trivial (hC hf1 (hC hf2 (hP rfl (hC hu (hC hv (hC hm hN)))))))
theorem di_1 (n1 n2 x1 x2:Bool) (a1 b1 a2 b2 p1 q1 p2 q2:ByteArray) (u v:ByteArray) (rn:Bool) (ra rb:ByteArray)  (hf1:CSpec Tryd.prog 48 #[rv n1 a1 b1] (rv x1 p1 q1)) (hf2:CSpec Tryd.prog 48 #[rv n2 a2 b2] (rv x2 p2 q2)) (h:p2≠⟨#[]⟩) (hu:CSpec Tryd.prog 52 #[.string p1,.string q2] (.string u)) (hv:CSpec Tryd.prog 52 #[.string q1,.string p2] (.string v)) (hm:CSpec Tryd.prog 51 #[.bool (x1 != x2),.string u,.string v] (rv rn ra rb)):FSpec Tryd.prog 38 [.c (rv n1 a1 b1),.c (rv n2 a2 b2)] [] (V.c (Value.tuple { toList:=[Value.agg { toList:=[Value.bool rn,Value.string ra,Value.string rb] },Value.int IntKind.i64 (0:Int)] })) [] :=
 fspec_ok Tryd.func38 (sc:=[(1,1,.fix (rv x1 p1 q1)),(1,3,.fix (rv x2 p2 q2)),(2,2,.is (.c (.bool false))),(4,4,.is (.c (.bool (x1 != x2)))),(4,9,.fix (.string u)),(4,14,.fix (.string v)),(4,15,.fix (rv rn ra rb))]) (sb:=[]) (keep:=[]) (obs:=[Ob.prop (Flat ([]:List (Option Row))),Ob.call 48 { toList:=[Value.agg { toList:=[Value.bool n1,Value.string a1,Value.string b1] }] } (Value.agg { toList:=[Value.bool x1,Value.string p1,Value.string q1] }),Ob.call 48 { toList:=[Value.agg { toList:=[Value.bool n2,Value.string a2,Value.string b2] }] } (Value.agg { toList:=[Value.bool x2,Value.string p2,Value.string q2] }),Ob.prop (V.c (Value.bool (ByteArray.toList p2==ByteArray.toList { data:=#[] }))=vF),Ob.prop (V.c (Value.bool !x1==x2)=V.c (Value.bool (x1 != x2))),Ob.call 52 { toList:=[Value.string p1,Value.string q2] } (Value.string u),Ob.call 52 { toList:=[Value.string q1,Value.string p2] } (Value.string v),Ob.call 51 { toList:=[Value.bool (x1 != x2),Value.string u,Value.string v] } (Value.agg { toList:=[Value.bool rn,Value.string ra,Value.string rb] })]) (by kernel_rfl) (hP trivial (hC hf1 (hC hf2 (hP (str_eq_f h) (hP rfl (hC hu (hC hv (hC hm hN))))))))
theorem sg_0 (n x:Bool) (a b p q:ByteArray) (hf:CSpec Tryd.prog 48 #[rv n a b] (rv x p q)) (h:p=⟨#[]⟩):FSpec Tryd.prog 36 [.c (rv n a b)] [] (vI (0:Int)) [] :=
 fspec_ok Tryd.func36 (sc:=[(1,1,.fix (rv x p q)),(2,2,.is (.c (.bool true)))]) (sb:=[]) (keep:=[]) (obs:=[Ob.prop (Flat ([]:List (Option Row))),Ob.call 48 { toList:=[Value.agg { toList:=[Value.bool n,Value.string a,Value.string b] }] } (Value.agg { toList:=[Value.bool x,Value.string p,Value.string q] }),Ob.prop (V.c (Value.bool (ByteArray.toList p==ByteArray.toList { data:=#[] }))=vT)]) (by kernel_rfl) (hP trivial (hC hf (hP (str_eq_t h) hN)))
theorem sg_1 (n x:Bool) (a b p q:ByteArray) (hf:CSpec Tryd.prog 48 #[rv n a b] (rv x p q)) (h:p≠⟨#[]⟩) (hx:x=true):FSpec Tryd.prog 36 [.c (rv n a b)] [] (vI (-1:Int)) [] :=
 fspec_ok Tryd.func36 (sc:=[(1,1,.fix (rv x p q)),(2,2,.is (.c (.bool false))),(4,1,.is (.c (.bool true)))]) (sb:=[]) (keep:=[]) (obs:=[Ob.prop (Flat ([]:List (Option Row))),Ob.call 48 { toList:=[Value.agg { toList:=[Value.bool n,Value.string a,Value.string b] }] } (Value.agg { toList:=[Value.bool x,Value.string p,Value.string q] }),Ob.prop (V.c (Value.bool (ByteArray.toList p==ByteArray.toList { data:=#[] }))=vF),Ob.prop (V.c (Value.bool x)=vT)]) (by kernel_rfl) (hP trivial (hC hf (hP (str_eq_f h) (hP (bool_v hx) hN))))
theorem sg_2 (n x:Bool) (a b p q:ByteArray) (hf:CSpec Tryd.prog 48 #[rv n a b] (rv x p q)) (h:p≠⟨#[]⟩) (hx:x=false):FSpec Tryd.prog 36 [.c (rv n a b)] [] (vI (1:Int)) [] :=
 fspec_ok Tryd.func36 (sc:=[(1,1,.fix (rv x p q)),(2,2,.is (.c (.bool false))),(4,1,.is (.c (.bool false)))]) (sb:=[]) (keep:=[]) (obs:=[Ob.prop (Flat ([]:List (Option Row))),Ob.call 48 { toList:=[Value.agg { toList:=[Value.bool n,Value.string a,Value.string b] }] } (Value.agg { toList:=[Value.bool x,Value.string p,Value.string q] }),Ob.prop (V.c (Value.bool (ByteArray.toList p==ByteArray.toList { data:=#[] }))=vF),Ob.prop (V.c (Value.bool x)=vF)]) (by kernel_rfl) (hP trivial (hC hf (hP (str_eq_f h) (hP (bool_v hx) hN))))
theorem cm_1 (n1 n2 x1 x2:Bool) (a1 b1 a2 b2 p1 q1 p2 q2:ByteArray)  (hf1:CSpec Tryd.prog 48 #[rv n1 a1 b1] (rv x1 p1 q1)) (hf2:CSpec Tryd.prog 48 #[rv n2 a2 b2] (rv x2 p2 q2)) (h:x1≠x2) (hx:x1=true):FSpec Tryd.prog 47 [.c (rv n1 a1 b1),.c (rv n2 a2 b2)] [] (vI (-1:Int)) [] :=
 fspec_ok Tryd.func47 (sc:=[(1,1,.fix (rv x1 p1 q1)),(1,3,.fix (rv x2 p2 q2)),(2,4,.is (.c (.bool true))),(3,1,.is (.c (.bool true)))]) (sb:=[]) (keep:=[]) (obs:=[Ob.prop (Flat ([]:List (Option Row))),Ob.call 48 { toList:=[Value.agg { toList:=[Value.bool n1,Value.string a1,Value.string b1] }] } (Value.agg { toList:=[Value.bool x1,Value.string p1,Value.string q1] }),Ob.call 48 { toList:=[Value.agg { toList:=[Value.bool n2,Value.string a2,Value.string b2] }] } (Value.agg { toList:=[Value.bool x2,Value.string p2,Value.string q2] }),Ob.prop (V.c (Value.bool !x1==x2)=vT),Ob.prop (V.c (Value.bool x1)=vT)]) (by kernel_rfl) (hP trivial (hC hf1 (hC hf2 (hP (bool_nev h) (hP (bool_v hx) hN)))))
theorem cm_2 (n1 n2 x1 x2:Bool) (a1 b1 a2 b2 p1 q1 p2 q2:ByteArray)  (hf1:CSpec Tryd.prog 48 #[rv n1 a1 b1] (rv x1 p1 q1)) (hf2:CSpec Tryd.prog 48 #[rv n2 a2 b2] (rv x2 p2 q2)) (h:x1≠x2) (hx:x1=false):FSpec Tryd.prog 47 [.c (rv n1 a1 b1),.c (rv n2 a2 b2)] [] (vI (1:Int)) [] :=
 fspec_ok Tryd.func47 (sc:=[(1,1,.fix (rv x1 p1 q1)),(1,3,.fix (rv x2 p2 q2)),(2,4,.is (.c (.bool true))),(3,1,.is (.c (.bool false)))]) (sb:=[]) (keep:=[]) (obs:=[Ob.prop (Flat ([]:List (Option Row))),Ob.call 48 { toList:=[Value.agg { toList:=[Value.bool n1,Value.string a1,Value.string b1] }] } (Value.agg { toList:=[Value.bool x1,Value.string p1,Value.string q1] }),Ob.call 48 { toList:=[Value.agg { toList:=[Value.bool n2,Value.string a2,Value.string b2] }] } (Value.agg { toList:=[Value.bool x2,Value.string p2,Value.string q2] }),Ob.prop (V.c (Value.bool !x1==x2)=vT),Ob.prop (V.c (Value.bool x1)=vF)]) (by kernel_rfl) (hP trivial (hC hf1 (hC hf2 (hP (bool_nev h) (hP (bool_v hx) hN)))))
theorem cm_3 (n1 n2 x1 x2:Bool) (a1 b1 a2 b2 p1 q1 p2 q2:ByteArray) (u v:ByteArray) (k:Int)  (hf1:CSpec Tryd.prog 48 #[rv n1 a1 b1] (rv x1 p1 q1)) (hf2:CSpec Tryd.prog 48 #[rv n2 a2 b2] (rv x2 p2 q2)) (h:x1=x2) (hx:x1=true) (hu:CSpec Tryd.prog 52 #[.string p1,.string q2] (.string u)) (hv:CSpec Tryd.prog 52 #[.string p2,.string q1] (.string v)) (hc:CSpec Tryd.prog 65 #[.string u,.string v] (.int .i64 k)) (hk:-1≤k∧k≤1):FSpec Tryd.prog 47 [.c (rv n1 a1 b1),.c (rv n2 a2 b2)] [] (vI (-k)) [] :=
 fspec_ok Tryd.func47 (sc:=[(1,1,.fix (rv x1 p1 q1)),(1,3,.fix (rv x2 p2 q2)),(2,4,.is (.c (.bool false))),(6,4,.fix (.string u)),(6,9,.fix (.string v)),(6,10,.fix (.int .i64 k)),(7,1,.is (.c (.bool true))),(8,1,.is (.c (.int .i64 (-k))))]) (sb:=[]) (keep:=[]) (obs:=[Ob.prop (Flat ([]:List (Option Row))),Ob.call 48 { toList:=[Value.agg { toList:=[Value.bool n1,Value.string a1,Value.string b1] }] } (Value.agg { toList:=[Value.bool x1,Value.string p1,Value.string q1] }),Ob.call 48 { toList:=[Value.agg { toList:=[Value.bool n2,Value.string a2,Value.string b2] }] } (Value.agg { toList:=[Value.bool x2,Value.string p2,Value.string q2] }),Ob.prop (V.c (Value.bool !x1==x2)=vF),Ob.call 52 { toList:=[Value.string p1,Value.string q2] } (Value.string u),Ob.call 52 { toList:=[Value.string p2,Value.string q1] } (Value.string v),Ob.call 65 { toList:=[Value.string u,Value.string v] } (Value.int IntKind.i64 k),Ob.prop (V.c (Value.bool x1)=vT),Ob.prop (vI (IntKind.wrap .i64 ((0:Int) - k))=vI (-k))]) (by kernel_rfl) (hP trivial (hC hf1 (hC hf2 (hP (bool_nev_f h) (hC hu (hC hv (hC hc (hP (bool_v hx) (hP (neg_kk hk) hN)))))))))
theorem cm_4 (n1 n2 x1 x2:Bool) (a1 b1 a2 b2 p1 q1 p2 q2:ByteArray) (u v:ByteArray) (k:Int)  (hf1:CSpec Tryd.prog 48 #[rv n1 a1 b1] (rv x1 p1 q1)) (hf2:CSpec Tryd.prog 48 #[rv n2 a2 b2] (rv x2 p2 q2)) (h:x1=x2) (hx:x1=false) (hu:CSpec Tryd.prog 52 #[.string p1,.string q2] (.string u)) (hv:CSpec Tryd.prog 52 #[.string p2,.string q1] (.string v)) (hc:CSpec Tryd.prog 65 #[.string u,.string v] (.int .i64 k)):FSpec Tryd.prog 47 [.c (rv n1 a1 b1),.c (rv n2 a2 b2)] [] (vI k) [] :=
 fspec_ok Tryd.func47 (sc:=[(1,1,.fix (rv x1 p1 q1)),(1,3,.fix (rv x2 p2 q2)),(2,4,.is (.c (.bool false))),(6,4,.fix (.string u)),(6,9,.fix (.string v)),(6,10,.fix (.int .i64 k)),(7,1,.is (.c (.bool false)))]) (sb:=[]) (keep:=[]) (obs:=[Ob.prop (Flat ([]:List (Option Row))),Ob.call 48 { toList:=[Value.agg { toList:=[Value.bool n1,Value.string a1,Value.string b1] }] } (Value.agg { toList:=[Value.bool x1,Value.string p1,Value.string q1] }),Ob.call 48 { toList:=[Value.agg { toList:=[Value.bool n2,Value.string a2,Value.string b2] }] } (Value.agg { toList:=[Value.bool x2,Value.string p2,Value.string q2] }),Ob.prop (V.c (Value.bool !x1==x2)=vF),Ob.call 52 { toList:=[Value.string p1,Value.string q2] } (Value.string u),Ob.call 52 { toList:=[Value.string p2,Value.string q1] } (Value.string v),Ob.call 65 { toList:=[Value.string u,Value.string v] } (Value.int IntKind.i64 k),Ob.prop (V.c (Value.bool x1)=vF)]) (by kernel_rfl) (hP trivial (hC hf1 (hC hf2 (hP (bool_nev_f h) (hC hu (hC hv (hC hc (hP (bool_v hx) hN))))))))
theorem mn_1 (n1 n2 x:Bool) (a1 b1 a2 b2 p q:ByteArray) (k:Int) (hc:CSpec Tryd.prog 47 #[rv n1 a1 b1,rv n2 a2 b2] (.int .i64 k)) (hf:CSpec Tryd.prog 48 #[rv n1 a1 b1] (rv x p q)) (hk:decide (k≤0)=true):FSpec Tryd.prog 19 [.c (rv n1 a1 b1),.c (rv n2 a2 b2)] [] (V.c (Value.agg { toList:=[Value.bool x,Value.string p,Value.string q] })) [] :=
 fspec_ok Tryd.func19 (sc:=[(1,2,.fix (.int .i64 k)),(1,3,.is (.c (.bool true))),(2,1,.fix (rv x p q))]) (sb:=[]) (keep:=[]) (obs:=[Ob.prop (Flat ([]:List (Option Row))),Ob.call 47 { toList:=[Value.agg { toList:=[Value.bool n1,Value.string a1,Value.string b1] },Value.agg { toList:=[Value.bool n2,Value.string a2,Value.string b2] }] } (Value.int IntKind.i64 k),Ob.prop (V.c (Value.bool (decide (k≤(0:Int))))=vT),Ob.call 48 { toList:=[Value.agg { toList:=[Value.bool n1,Value.string a1,Value.string b1] }] } (Value.agg { toList:=[Value.bool x,Value.string p,Value.string q] })]) (by kernel_rfl) (hP trivial (hC hc (hP (bool_v hk) (hC hf hN))))
theorem mn_2 (n1 n2 x:Bool) (a1 b1 a2 b2 p q:ByteArray) (k:Int) (hc:CSpec Tryd.prog 47 #[rv n1 a1 b1,rv n2 a2 b2] (.int .i64 k)) (hf:CSpec Tryd.prog 48 #[rv n2 a2 b2] (rv x p q)) (hk:decide (k≤0)=false):FSpec Tryd.prog 19 [.c (rv n1 a1 b1),.c (rv n2 a2 b2)] [] (V.c (Value.agg { toList:=[Value.bool x,Value.string p,Value.string q] })) [] :=
 fspec_ok Tryd.func19 (sc:=[(1,2,.fix (.int .i64 k)),(1,3,.is (.c (.bool false))),(3,1,.fix (rv x p q))]) (sb:=[]) (keep:=[]) (obs:=[Ob.prop (Flat ([]:List (Option Row))),Ob.call 47 { toList:=[Value.agg { toList:=[Value.bool n1,Value.string a1,Value.string b1] },Value.agg { toList:=[Value.bool n2,Value.string a2,Value.string b2] }] } (Value.int IntKind.i64 k),Ob.prop (V.c (Value.bool (decide (k≤(0:Int))))=vF),Ob.call 48 { toList:=[Value.agg { toList:=[Value.bool n2,Value.string a2,Value.string b2] }] } (Value.agg { toList:=[Value.bool x,Value.string p,Value.string q] })]) (by kernel_rfl) (hP trivial (hC hc (hP (bool_v hk) (hC hf hN))))
theorem of_1 (n:Int) (a:ByteArray) (rn:Bool) (ra rb:ByteArray)  (h:0≤n) (ho:CSpec Tryd.prog 62 #[.int .i64 n] (.string a)) (hm:CSpec Tryd.prog 51 #[.bool false,.string a,.string one1] (rv rn ra rb)):FSpec Tryd.prog 40 [.c (.int .i64 n)] [] (V.c (Value.agg { toList:=[Value.bool rn,Value.string ra,Value.string rb] })) [] :=
 fspec_ok Tryd.func40 (sc:=[(1,1,.is (.c (.bool true))),(2,1,.fix (.string a)),(2,2,.fix (rv rn ra rb))]) (sb:=[]) (keep:=[]) (obs:=[Ob.prop (Flat ([]:List (Option Row))),Ob.prop (V.c (Value.bool (decide (n≥(0:Int))))=vT),Ob.call 62 { toList:=[Value.int IntKind.i64 n] } (Value.string a),Ob.call 51 { toList:=[Value.bool false,Value.string a,Value.string { data:=#[(1:UInt8)] }] } (Value.agg { toList:=[Value.bool rn,Value.string ra,Value.string rb] })]) (by kernel_rfl) (hP trivial (hP (ge_t h) (hC ho (hC hm hN))))
theorem of_2 (n:Int) (a b:ByteArray) (rn:Bool) (ra rb:ByteArray)  (h:n < 0) (h2:-9223372036854775808≤n) (ho:CSpec Tryd.prog 62 #[.int .i64 (-(n+1))] (.string a)) (hb:CSpec Tryd.prog 63 #[.string a,.string one1] (.string b)) (hm:CSpec Tryd.prog 51 #[.bool true,.string b,.string one1] (rv rn ra rb)):FSpec Tryd.prog 40 [.c (.int .i64 n)] [] (V.c (Value.agg { toList:=[Value.bool rn,Value.string ra,Value.string rb] })) [] :=
 fspec_ok Tryd.func40 (sc:=[(1,1,.is (.c (.bool false))),(3,1,.is (.c (.int .i64 (n+1)))),(3,2,.is (.c (.int .i64 (-(n+1))))),(3,3,.fix (.string a)),(3,4,.fix (.string b)),(3,5,.fix (rv rn ra rb))]) (sb:=[]) (keep:=[]) (obs:=[Ob.prop (Flat ([]:List (Option Row))),Ob.prop (V.c (Value.bool (decide (n≥(0:Int))))=vF),Ob.prop (vI (IntKind.wrap .i64 (n+(1:Int)))=vI (n+(1:Int))),Ob.prop (vI (IntKind.wrap .i64 ((0:Int) - (n+(1:Int))))=vI (-(n+(1:Int)))),Ob.call 62 { toList:=[Value.int IntKind.i64 (-(n+(1:Int)))] } (Value.string a),Ob.call 63 { toList:=[Value.string a,Value.string { data:=#[(1:UInt8)] }] } (Value.string b),Ob.call 51 { toList:=[Value.bool true,Value.string b,Value.string { data:=#[(1:UInt8)] }] } (Value.agg { toList:=[Value.bool rn,Value.string ra,Value.string rb] })]) (by kernel_rfl) (hP trivial (hP (ge_f h) (hP (add_1 h h2) (hP (neg_1 h h2) (hC ho (hC hb (hC hm hN)))))))
end Go.Proofs.YtmkgijiniopalaaDoor.G
end
section
namespace Go.Proofs.YtmkgijiniopalaaDoor.G
open Go.Proofs.YtmkgijiniopalaaDoor.U Go.RowKit Go.Proofs.YtmkgijiniopalaaDoorW.PrintWords Go.Proofs.YtmkgijiniopalaaDoorW.PrintLast Go.Proofs.YtmkgijiniopalaaDoorW.PrintMore
theorem sgn_div (n:Bool) (m g:Nat) (h:g ∣ m):sgn n m/(g:Int)=sgn n (m/g):=by
 cases n
 ·simp [sgn]
 simp only [sgn,if_true]
 rw [Int.neg_ediv_of_dvd (by exact_mod_cast h)]
 simp
theorem mk_num (n:Bool) (m k:Nat) (hk:k≠0):(mkRat (sgn n m) k).num=sgn n (m/Nat.gcd m k)∧(mkRat (sgn n m) k).den=k/Nat.gcd m k:=by
 rw [← Rat.normalize_eq_mkRat hk,Rat.num_normalize,Rat.den_normalize,sgn_abs]
 exact ⟨sgn_div n m _ (Nat.gcd_dvd_left m k),rfl⟩
theorem rv_mk (n:Bool) (m k:Nat) (hm:m≠0) (hk:k≠0):Rv (mkRat (sgn n m) k)=rv n (M.B (m/Nat.gcd m k)) (M.B (k/Nat.gcd m k)):=by
 obtain ⟨h1,h2⟩:=mk_num n m k hk
 unfold Rv
 rw [h1,h2,sgn_abs]
 have hp:m/Nat.gcd m k≠0:=by
  have hg:=Nat.gcd_le_left k (Nat.pos_of_ne_zero hm)
  have:=Nat.div_pos hg (Nat.gcd_pos_of_pos_left k (Nat.pos_of_ne_zero hm))
  omega
 congr 1
 generalize m/Nat.gcd m k=j at hp
 cases n with
 | false=>simp [sgn]
 | true =>
   simp only [sgn,if_true]
   exact decide_eq_true (by omega)
theorem B_one1:M.B 1=one1:=by
 have h:M.B (M.V one1)=one1:=SA.lead_of _ (.inr (by decide))
 exact h
theorem B_is_one {k:Nat}:M.B k=one1↔k=1:=by
 rw [← B_one1]
 exact ⟨fun h=>M.B_inj h,fun h=>by rw [h]⟩
theorem made_c (n:Bool) (m k:Nat) (hk:k≠0) (sm:(M.B m).size≤68719476736) (sk:(M.B k).size≤68719476736):CSpec Tryd.prog 51 #[.bool n,.string (M.B m),.string (M.B k)] (Rv (mkRat (sgn n m) k)):=by
 by_cases hm:m=0
 ·subst hm
  have e:mkRat (sgn n 0) k=0:=(Rat.mkRat_eq_zero hk).2 (by cases n<;>rfl)
  have hz:=zero_c
  rw [Rv_zero] at hz
  rw [e,Rv_zero]
  exact cspec_of (ma_1 n _ _ (B_nil rfl) hz)
 have nm:=B_ne hm
 rw [rv_mk n m k hm hk]
 by_cases h1:k=1
 ·subst h1
  rw [Nat.gcd_one_right,Nat.div_one,Nat.div_one]
  exact cspec_of (ma_2 n _ _ nm B_one1)
 have hg:=gcd_c (M.B m) (M.B k) sm sk
 rw [M.V_B,M.V_B] at hg
 have h1':M.B k≠one1:=fun h=>h1 (B_is_one.1 h)
 by_cases h2:Nat.gcd m k=1
 ·rw [h2,Nat.div_one,Nat.div_one]
  exact cspec_of (ma_3 n _ _ _ nm h1' hg (by rw [h2,B_one1]))
 have gz:Nat.gcd m k≠0:=fun h=>hm (Nat.eq_zero_of_gcd_eq_zero_left h)
 have gs:(M.B (Nat.gcd m k)).size≤68719476736:=by
  have:=B_mono (Nat.gcd_le_left k (Nat.pos_of_ne_zero hm))
  omega
 have dc:=div_c (M.B m) (M.B (Nat.gcd m k)) (by omega) (by omega) (by rw [M.V_B]; exact gz)
 have dd:=div_c (M.B k) (M.B (Nat.gcd m k)) (by omega) (by omega) (by rw [M.V_B]; exact gz)
 rw [M.V_B,M.V_B] at dc dd
 exact cspec_of (ma_4 n _ _ _ _ _ _ _ nm h1' hg (fun h=>h2 (B_is_one.1 h)) dc dd)
theorem signed_c (n m:Bool) (a b:Nat) (sa:(M.B a).size≤68719476736) (sb:(M.B b).size≤68719476736) :
 ∃ (s:Bool) (c:Nat),sgn s c=sgn n a+sgn m b∧c≤a+b∧CSpec Tryd.prog 50 #[.bool n,.string (M.B a),.bool m,.string (M.B b)] (.tuple #[.bool s,.string (M.B c)]):=by
 by_cases h:n=m
 ·have ha:=add_c (M.B a) (M.B b) (by omega) (by omega)
  rw [M.V_B,M.V_B] at ha
  refine ⟨n,a+b,?_,Nat.le_refl _,cspec_of (si_1 n m _ _ _ h ha)⟩
  subst h
  cases n<;>simp [sgn]<;>omega
 have h1:=sub_c (M.B a) (M.B b) (by omega) (by omega)
 have h2:=sub_c (M.B b) (M.B a) (by omega) (by omega)
 rw [M.V_B,M.V_B] at h1 h2
 by_cases hab:a < b
 ·rw [if_pos hab] at h1
  rw [if_neg (by omega)] at h2
  refine ⟨m,b - a,?_,by omega,cspec_of (si_3 n m _ _ _ _ h h1 h2)⟩
  cases n<;>cases m<;>simp [sgn] at h ⊢ <;> omega
 rw [if_neg hab] at h1
 refine ⟨n,a - b,?_,by omega,cspec_of (si_2 n m _ _ _ h h1)⟩
 cases n<;>cases m<;>simp [sgn] at h ⊢ <;> omega
end Go.Proofs.YtmkgijiniopalaaDoor.G
end
section
namespace Go.Proofs.YtmkgijiniopalaaDoor.G
open Go.Proofs.YtmkgijiniopalaaDoor.U Go.RowKit Go.Proofs.YtmkgijiniopalaaDoorW.PrintWords Go.Proofs.YtmkgijiniopalaaDoorW.PrintLast Go.Proofs.YtmkgijiniopalaaDoorW.PrintMore
def Sz (x:Rat) (K:Nat):Prop:=x.num.natAbs < 256^K∧x.den < 256^K
theorem Sz.num {x:Rat} {K:Nat} (h:Sz x K):(M.B x.num.natAbs).size≤K:=M.size_B_le h.1
theorem Sz.den {x:Rat} {K:Nat} (h:Sz x K):(M.B x.den).size≤K:=M.size_B_le h.2
theorem Sz.mono {x:Rat} {K L:Nat} (h:Sz x K) (hl:K≤L):Sz x L :=
 ⟨Nat.lt_of_lt_of_le h.1 (Nat.pow_le_pow_right (by decide) hl),Nat.lt_of_lt_of_le h.2 (Nat.pow_le_pow_right (by decide) hl)⟩
theorem Sz.mk {n:Int} {d K:Nat} (hd:d≠0) (h1:n.natAbs < 256^K) (h2:d < 256^K):Sz (mkRat n d) K:=by
 rw [← Rat.normalize_eq_mkRat hd]
 unfold Sz
 rw [Rat.num_normalize,Rat.den_normalize]
 refine ⟨Nat.lt_of_le_of_lt ?_ h1,Nat.lt_of_le_of_lt (Nat.div_le_self _ _) h2⟩
 rw [Int.natAbs_ediv_of_dvd (Int.ofNat_dvd_left.2 (Nat.gcd_dvd_left _ _))]
 exact Nat.div_le_self _ _
theorem mul_lt {a b K L:Nat} (ha:a < 256^K) (hb:b < 256^L):a*b < 256^(K+L):=by
 rw [Nat.pow_add]
 exact Nat.mul_lt_mul'' ha hb
theorem Sz.mul {x y:Rat} {K L:Nat} (hx:Sz x K) (hy:Sz y L):Sz (x*y) (K+L):=by
 rw [Rat.mul_def']
 refine Sz.mk (Nat.mul_ne_zero x.den_nz y.den_nz) ?_ (mul_lt hx.2 hy.2)
 rw [Int.natAbs_mul]
 exact mul_lt hx.1 hy.1
theorem Sz.add {x y:Rat} {K L:Nat} (hx:Sz x K) (hy:Sz y L):Sz (x+y) (K+L+1):=by
 rw [Rat.add_def']
 have h1:=mul_lt hx.1 hy.2
 have h2:=mul_lt hy.1 hx.2
 have h3:=mul_lt hx.2 hy.2
 rw [Nat.add_comm L K] at h2
 have hp:256^(K+L+1)=256^(K+L)*256:=Nat.pow_succ ..
 refine Sz.mk (Nat.mul_ne_zero x.den_nz y.den_nz) ?_ (by omega)
 have h4:=Int.natAbs_add_le (x.num*y.den) (y.num*x.den)
 rw [Int.natAbs_mul,Int.natAbs_mul,Int.natAbs_natCast,Int.natAbs_natCast] at h4
 omega
theorem Sz.neg {x:Rat} {K:Nat} (hx:Sz x K):Sz (-x) K:=by
 unfold Sz
 rw [Rat.neg_num,Rat.neg_den,Int.natAbs_neg]
 exact hx
theorem sgn_num (x:Rat):sgn (decide (x.num < 0)) x.num.natAbs=x.num:=by
 by_cases h:x.num < 0
 ·simp [sgn,h]; omega
 simp [sgn,h]; omega
section
variable {n1 n2:Bool} {a1 b1 a2 b2:ByteArray} {x y:Rat} {K L:Nat}
theorem add_r (h1:CSpec Tryd.prog 48 #[rv n1 a1 b1] (Rv x)) (h2:CSpec Tryd.prog 48 #[rv n2 a2 b2] (Rv y)) (hx:Sz x K) (hy:Sz y L) (hs:K+L≤17179869184):CSpec Tryd.prog 24 #[rv n1 a1 b1,rv n2 a2 b2] (Rv (x+y)):=by
 have p1:=hx.num
 have p2:=hy.num
 have q1:=hx.den
 have q2:=hy.den
 by_cases h:x.den=y.den
 ·obtain ⟨s,c,e,hc,hsp⟩:=signed_c (decide (x.num < 0)) (decide (y.num < 0)) x.num.natAbs y.num.natAbs (by omega) (by omega)
  rw [sgn_num,sgn_num] at e
  have hcs:(M.B c).size≤K+L+1:=M.size_B_le (by
   have e1:=Nat.pow_le_pow_right (n:=256) (by decide) (show K≤K+L by omega)
   have e2:=Nat.pow_le_pow_right (n:=256) (by decide) (show L≤K+L by omega)
   have hp:256^(K+L+1)=256^(K+L)*256:=Nat.pow_succ ..
   have:=hx.1
   have:=hy.1
   omega)
  have hm:=made_c s c x.den x.den_nz (by omega) (by omega)
  have he:mkRat (sgn s c) x.den=x+y:=by
   rw [Rat.add_def',e,← h,← Int.add_mul,Rat.mkRat_mul_right x.den_nz]
  rw [he] at hm
  exact cspec_of (ad_1 n1 n2 _ _ a1 b1 a2 b2 _ _ _ _ s _ _ _ _ h1 h2 (by rw [h]) hsp hm)
 have hu:=mul_c (M.B x.num.natAbs) (M.B y.den) (by omega) (by omega)
 have hv:=mul_c (M.B y.num.natAbs) (M.B x.den) (by omega) (by omega)
 have hw:=mul_c (M.B x.den) (M.B y.den) (by omega) (by omega)
 rw [M.V_B,M.V_B] at hu hv hw
 have l1:=mul_lt hx.1 hy.2
 have l2:=mul_lt hy.1 hx.2
 have l3:=mul_lt hx.2 hy.2
 rw [Nat.add_comm L K] at l2
 obtain ⟨s,c,e,hc,hsp⟩:=signed_c (decide (x.num < 0)) (decide (y.num < 0)) (x.num.natAbs*y.den) (y.num.natAbs*x.den) (by have:=M.size_B_le l1; omega) (by have:=M.size_B_le l2; omega)
 have m1:∀ (n:Bool) (a b:Nat),sgn n (a*b)=sgn n a*b:=fun n a b=>by cases n<;>simp [sgn,Int.neg_mul]
 rw [m1,m1,sgn_num,sgn_num] at e
 have hcs:(M.B c).size≤K+L+1:=M.size_B_le (by
  have hp:256^(K+L+1)=256^(K+L)*256:=Nat.pow_succ ..
  omega)
 have hm:=made_c s c (x.den*y.den) (Nat.mul_ne_zero x.den_nz y.den_nz) (by omega) (by have:=M.size_B_le l3; omega)
 rw [e,← Rat.add_def'] at hm
 exact cspec_of (ad_2 n1 n2 _ _ a1 b1 a2 b2 _ _ _ _ s _ _ _ _ _ _ _ h1 h2 (fun hh=>h (M.B_inj hh)) hu hv hsp hw hm)
end
end Go.Proofs.YtmkgijiniopalaaDoor.G
end
section
namespace Go.Proofs.YtmkgijiniopalaaDoor.G
open Go.Proofs.YtmkgijiniopalaaDoor.U Go.RowKit Go.Proofs.YtmkgijiniopalaaDoorW.PrintWords Go.Proofs.YtmkgijiniopalaaDoorW.PrintLast Go.Proofs.YtmkgijiniopalaaDoorW.PrintMore
theorem sgn_mul (n m:Bool) (a b:Nat):sgn (n != m) (a*b)=sgn n a*sgn m b:=by
 cases n<;>cases m<;>simp [sgn,Int.neg_mul,Int.mul_neg]
section
variable {n1 n2:Bool} {a1 b1 a2 b2:ByteArray} {x y:Rat} {K L:Nat}
theorem mul_r (h1:CSpec Tryd.prog 48 #[rv n1 a1 b1] (Rv x)) (h2:CSpec Tryd.prog 48 #[rv n2 a2 b2] (Rv y)) (hx:Sz x K) (hy:Sz y L) (hs:K+L≤17179869184):CSpec Tryd.prog 25 #[rv n1 a1 b1,rv n2 a2 b2] (Rv (x*y)):=by
 have p1:=hx.num
 have p2:=hy.num
 have q1:=hx.den
 have q2:=hy.den
 have hu:=mul_c (M.B x.num.natAbs) (M.B y.num.natAbs) (by omega) (by omega)
 have hv:=mul_c (M.B x.den) (M.B y.den) (by omega) (by omega)
 rw [M.V_B,M.V_B] at hu hv
 have hm:=made_c (decide (x.num < 0) != decide (y.num < 0)) (x.num.natAbs*y.num.natAbs) (x.den*y.den) (Nat.mul_ne_zero x.den_nz y.den_nz) (by have:=M.size_B_le (mul_lt hx.1 hy.1); omega) (by have:=M.size_B_le (mul_lt hx.2 hy.2); omega)
 rw [sgn_mul,sgn_num,sgn_num,← Rat.mul_def'] at hm
 exact cspec_of (mu_1 n1 n2 _ _ a1 b1 a2 b2 _ _ _ _ _ _ _ _ _ h1 h2 hu hv hm)
end
end Go.Proofs.YtmkgijiniopalaaDoor.G
end
section
namespace Go.Proofs.YtmkgijiniopalaaDoor.G
open Go.Proofs.YtmkgijiniopalaaDoor.U Go.RowKit Go.Proofs.YtmkgijiniopalaaDoorW.PrintWords Go.Proofs.YtmkgijiniopalaaDoorW.PrintLast Go.Proofs.YtmkgijiniopalaaDoorW.PrintMore
def r0:Value:=rv false ⟨#[]⟩ ⟨#[]⟩
section
variable {n1 n2:Bool} {a1 b1 a2 b2:ByteArray} {x y:Rat} {K L:Nat}
theorem num_nil:M.B x.num.natAbs=⟨#[]⟩↔x=0:=by
 rw [← Rat.num_eq_zero]
 constructor
 ·intro h
  rcases Nat.eq_zero_or_pos x.num.natAbs with h3 | h3
  ·omega
  exact (B_ne (by omega) h).elim
 intro h
 rw [h]
 exact B_nil rfl
theorem div_r (h1:CSpec Tryd.prog 48 #[rv n1 a1 b1] (Rv x)) (h2:CSpec Tryd.prog 48 #[rv n2 a2 b2] (Rv y)) (hx:Sz x K) (hy:Sz y L) (hs:K+L≤17179869184) (h0:y≠0):CSpec Tryd.prog 38 #[rv n1 a1 b1,rv n2 a2 b2] (.tuple #[Rv (x/y),.int .i64 0]):=by
 have p1:=hx.num
 have p2:=hy.num
 have q1:=hx.den
 have q2:=hy.den
 have yn:y.num≠0:=fun h=>h0 (Rat.num_eq_zero.1 h)
 have hu:=mul_c (M.B x.num.natAbs) (M.B y.den) (by omega) (by omega)
 have hv:=mul_c (M.B x.den) (M.B y.num.natAbs) (by omega) (by omega)
 rw [M.V_B,M.V_B] at hu hv
 have hm:=made_c (decide (x.num < 0) != decide (y.num < 0)) (x.num.natAbs*y.den) (x.den*y.num.natAbs) (Nat.mul_ne_zero x.den_nz (by omega)) (by have:=M.size_B_le (mul_lt hx.1 hy.2); omega) (by have:=M.size_B_le (mul_lt hx.2 hy.1); omega)
 have e:mkRat (sgn (decide (x.num < 0) != decide (y.num < 0)) (x.num.natAbs*y.den)) (x.den*y.num.natAbs)=x/y:=by
  rw [Rat.div_def,Rat.mul_def',Rat.num_inv,Rat.den_inv,if_neg yn,sgn_mul,sgn_num]
  congr 2
  rcases Int.lt_or_gt_of_ne yn with h | h
  ·rw [Int.sign_eq_neg_one_of_neg h]; simp [sgn,h]
  have:¬ y.num < 0:=by omega
  rw [Int.sign_eq_one_of_pos h]; simp [sgn,this]
 rw [e] at hm
 exact cspec_of (di_1 n1 n2 _ _ a1 b1 a2 b2 _ _ _ _ _ _ _ _ _ h1 h2 (fun h=>h0 (num_nil.1 h)) hu hv hm)
theorem sign_r (h1:CSpec Tryd.prog 48 #[rv n1 a1 b1] (Rv x)):CSpec Tryd.prog 36 #[rv n1 a1 b1] (.int .i64 x.num.sign):=by
 rcases Int.lt_trichotomy x.num 0 with h | h | h
 ·rw [Int.sign_eq_neg_one_of_neg h]
  exact cspec_of (sg_1 n1 _ a1 b1 _ _ h1 (B_ne (by omega)) (decide_eq_true h))
 ·rw [h]
  exact cspec_of (sg_0 n1 _ a1 b1 _ _ h1 (B_nil (by omega)))
 rw [Int.sign_eq_one_of_pos h]
 exact cspec_of (sg_2 n1 _ a1 b1 _ _ h1 (B_ne (by omega)) (decide_eq_false (by omega)))
end
end Go.Proofs.YtmkgijiniopalaaDoor.G
end
section
namespace Go.Proofs.YtmkgijiniopalaaDoor.G
open Go.Proofs.YtmkgijiniopalaaDoor.U Go.RowKit Go.Proofs.YtmkgijiniopalaaDoorW.PrintWords Go.Proofs.YtmkgijiniopalaaDoorW.PrintLast Go.Proofs.YtmkgijiniopalaaDoorW.PrintMore
def cmpI (a b:Int):Int:=if a < b then -1 else if a=b then 0 else 1
def cmpR (x y:Rat):Int:=cmpI (x.num*y.den) (y.num*x.den)
section
variable {n1 n2:Bool} {a1 b1 a2 b2:ByteArray} {x y:Rat} {K L:Nat}
theorem cmp_r (h1:CSpec Tryd.prog 48 #[rv n1 a1 b1] (Rv x)) (h2:CSpec Tryd.prog 48 #[rv n2 a2 b2] (Rv y)) (hx:Sz x K) (hy:Sz y L) (hs:K+L≤17179869184):CSpec Tryd.prog 47 #[rv n1 a1 b1,rv n2 a2 b2] (.int .i64 (cmpR x y)):=by
 have p1:=hx.num
 have p2:=hy.num
 have q1:=hx.den
 have q2:=hy.den
 have dx:(0:Int) < x.den:=by have:=x.den_nz; omega
 have dy:(0:Int) < y.den:=by have:=y.den_nz; omega
 have hu:=mul_c (M.B x.num.natAbs) (M.B y.den) (by omega) (by omega)
 have hv:=mul_c (M.B y.num.natAbs) (M.B x.den) (by omega) (by omega)
 have hc:=cmp_c (M.B (M.V (M.B x.num.natAbs)*M.V (M.B y.den))) (M.B (M.V (M.B y.num.natAbs)*M.V (M.B x.den)))
 rw [M.V_B,M.V_B] at hu hv
 simp only [M.V_B] at hc
 have ax:((x.num.natAbs*y.den:Nat):Int)=x.num.natAbs*y.den:=by simp
 have ay:((y.num.natAbs*x.den:Nat):Int)=y.num.natAbs*x.den:=by simp
 by_cases hxn:x.num < 0
 ·by_cases hyn:y.num < 0
  ·have e : cmpR x y = -SB.cmpN (x.num.natAbs * y.den) (y.num.natAbs * x.den) := by
    unfold cmpR cmpI SB.cmpN
    have e1:x.num*y.den = -((x.num.natAbs*y.den:Nat):Int):=by rw [ax,← Int.neg_mul]; congr 1; omega
    have e2:y.num*x.den = -((y.num.natAbs*x.den:Nat):Int):=by rw [ay,← Int.neg_mul]; congr 1; omega
    rw [e1,e2]
    generalize x.num.natAbs*y.den=p
    generalize y.num.natAbs*x.den=q
    split<;>split<;>(try split)<;>omega
   rw [e]
   exact cspec_of (cm_3 n1 n2 _ _ a1 b1 a2 b2 _ _ _ _ _ _ _ h1 h2 (by rw [decide_eq_true hxn,decide_eq_true hyn]) (decide_eq_true hxn) hu hv hc (by unfold SB.cmpN; split<;>(try split)<;>omega))
  have e:cmpR x y = -1:=by
   unfold cmpR cmpI
   rw [if_pos]
   have:=Int.mul_neg_of_neg_of_pos hxn dy
   have:=Int.mul_nonneg (show 0≤y.num by omega) (Int.le_of_lt dx)
   omega
  rw [e]
  exact cspec_of (cm_1 n1 n2 _ _ a1 b1 a2 b2 _ _ _ _ h1 h2 (by rw [decide_eq_true hxn,decide_eq_false hyn]; decide) (decide_eq_true hxn))
 by_cases hyn:y.num < 0
 ·have e : cmpR x y = 1 := by
   unfold cmpR cmpI
   have:=Int.mul_neg_of_neg_of_pos hyn dx
   have:=Int.mul_nonneg (show 0≤x.num by omega) (Int.le_of_lt dy)
   rw [if_neg (by omega),if_neg (by omega)]
  rw [e]
  exact cspec_of (cm_2 n1 n2 _ _ a1 b1 a2 b2 _ _ _ _ h1 h2 (by rw [decide_eq_false hxn,decide_eq_true hyn]; decide) (decide_eq_false hxn))
 have e:cmpR x y=SB.cmpN (x.num.natAbs*y.den) (y.num.natAbs*x.den):=by
  unfold cmpR cmpI SB.cmpN
  have e1:x.num*y.den=((x.num.natAbs*y.den:Nat):Int):=by rw [ax]; congr 1; omega
  have e2:y.num*x.den=((y.num.natAbs*x.den:Nat):Int):=by rw [ay]; congr 1; omega
  rw [e1,e2]
  generalize x.num.natAbs*y.den=p
  generalize y.num.natAbs*x.den=q
  split<;>split<;>(try split)<;>omega
 rw [e]
 exact cspec_of (cm_4 n1 n2 _ _ a1 b1 a2 b2 _ _ _ _ _ _ _ h1 h2 (by rw [decide_eq_false hxn,decide_eq_false hyn]) (decide_eq_false hxn) hu hv hc)
end
theorem of_r (n:Int) (hn:-9223372036854775808≤n) (hn2:n≤9223372036854775807):CSpec Tryd.prog 40 #[.int .i64 n] (Rv n):=by
 have hsz : ∀ k : Nat, k ≤ 9223372036854775808 → (M.B k).size ≤ 8 := fun k hk => M.size_B_le (by have : (256 : Nat) ^ 8 = 18446744073709551616 := by decide
                                                                                                 omega)
 by_cases h:0≤n
 ·have ho:=of_c n (by omega)
  have hm:=made_c false n.toNat 1 (by decide) (by have:=hsz n.toNat (by omega); omega) (by have:=hsz 1 (by omega); omega)
  have e:mkRat (sgn false n.toNat) 1=(n:Rat):=by
   have:sgn false n.toNat=n:=by simp [sgn]; omega
   rw [this]
   exact Rat.mkRat_one n
  rw [e,B_one1] at hm
  exact cspec_of (of_1 n _ _ _ _ h ho hm)
 have ho:=of_c (-(n+1)) (by omega)
 have hb:=add_c (M.B (-(n+1)).toNat) one1 (by have:=hsz (-(n+1)).toNat (by omega); omega) (by decide)
 rw [M.V_B,V_one1] at hb
 have hm:=made_c true ((-(n+1)).toNat+1) 1 (by decide) (by have:=hsz ((-(n+1)).toNat+1) (by omega); omega) (by have:=hsz 1 (by omega); omega)
 have e:mkRat (sgn true ((-(n+1)).toNat+1)) 1=(n:Rat):=by
  have:sgn true ((-(n+1)).toNat+1)=n:=by simp [sgn]; omega
  rw [this]
  exact Rat.mkRat_one n
 rw [e,B_one1] at hm
 exact cspec_of (of_2 n _ _ _ _ _ (by omega) hn ho hb hm)
end Go.Proofs.YtmkgijiniopalaaDoor.G
end
section
namespace Go.Proofs.YtmkgijiniopalaaDoor.G
open Go.Proofs.YtmkgijiniopalaaDoor.U Go.RowKit Go.Proofs.YtmkgijiniopalaaDoorW.PrintWords Go.Proofs.YtmkgijiniopalaaDoorW.PrintLast Go.Proofs.YtmkgijiniopalaaDoorW.PrintMore
theorem Sz.int {n:Int} (h:n.natAbs≤9223372036854775808):Sz (n:Rat) 8:=by
 have h8:(256:Nat)^8=18446744073709551616:=by decide
 refine ⟨?_,?_⟩
 ·rw [Rat.num_intCast]; omega
 rw [Rat.den_intCast,h8]; decide
theorem min_r {n1 n2:Bool} {a1 b1 a2 b2:ByteArray} {x y:Rat} {K L:Nat} (h1:CSpec Tryd.prog 48 #[rv n1 a1 b1] (Rv x)) (h2:CSpec Tryd.prog 48 #[rv n2 a2 b2] (Rv y)) (hx:Sz x K) (hy:Sz y L) (hs:K+L≤17179869184) :
 CSpec Tryd.prog 19 #[rv n1 a1 b1,rv n2 a2 b2] (Rv (if cmpR x y≤0 then x else y)):=by
 have hc:=cmp_r h1 h2 hx hy hs
 split
 ·rename_i h
  exact cspec_of (mn_1 n1 n2 _ a1 b1 a2 b2 _ _ _ hc h1 (decide_eq_true h))
 rename_i h
 exact cspec_of (mn_2 n1 n2 _ a1 b1 a2 b2 _ _ _ hc h2 (decide_eq_false h))
end Go.Proofs.YtmkgijiniopalaaDoor.G
end
