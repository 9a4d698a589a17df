import Derived.Test.YtkpeembfagcpcaaDoorYU6
import Derived.Test.YtkpeembfagcpcaaDoorProg
import Derived.KernelRfl
namespace Go.Proofs.YtkpeembfagcpcaaDoor.G
open Go.Proofs.YtkpeembfagcpcaaDoor.U
set_option linter.unusedVariables false
set_option maxRecDepth 100000
def uu (x:Nat):V:=.c (.int .u64 (x:Int))
def cutS (off c:Nat) (b:Bool) (X:List Nat) (n:Nat):St:=⟨.sl 0 off n c::List.replicate 20 .any,[some ⟨b,X.map uu⟩]⟩
def cutN (X:List Nat) (off:Nat):Nat→Nat
  | 0=>0
  | n+1=>if X.getD (off+n) 0=0 then cutN X off n else n+1
theorem uflat (b:Bool) (X:List Nat):Flat [some ⟨b,X.map uu⟩]:=⟨fun v hv=>by
  obtain ⟨x,_,rfl⟩:=List.mem_map.1 hv
  rfl,trivial⟩
theorem uget {X:List Nat} {i:Nat} (h:i < X.length):(X.map uu)[i]? = some (uu (X.getD i 0)):=by
  rw [List.getElem?_map,List.getElem?_eq_getElem h]
  simp [List.getD_eq_getElem?_getD,List.getElem?_eq_getElem h]
theorem cut_go (off c:Nat) (b:Bool) (X:List Nat) (n:Nat) (x:Nat) (hn:0 < n) (hc:n≤c) (hb:(n:Int) < 9223372036854775807) (hx:(X.map uu)[off+(n - 1)]? = some (uu x)) (h0:x=0):TSpec Tryd.prog (loopOf Tryd.f210 0) (cutS off c b X n) (Ex.normal) (cutS off c b X (n - 1)) :=
  tspec_dim (sc:=[(1,2,.is (.c (.bool true))),(1,7,.is (.c (.int .i64 (n - 1)))),(1,8,.is (.p 0 (off+(n-1)))),(1,9,.fix (.int .u64 (x:Nat))),(1,10,.is (.c (.bool true))),(2,3,.is (.c (.int .i64 (n - 1)))),(2,4,.is (.sl 0 off (n-1) c))]) (sb:=[]) (obs:=[Ob.prop (V.c (Value.bool (decide ((↑n:Int) > (0:Int))))=vT),Ob.prop (vI (IntKind.wrap .i64 ((↑n:Int) - (1:Int)))=vI ((↑n:Int) - (1:Int))),Ob.prop (V.p 0 (off+Int.toNat ((↑n:Int) - (1:Int))*1)=V.p 0 (off+(n - 1))),Ob.prop ((0:Int)≤(↑n:Int) - (1:Int)∧(↑n:Int) - (1:Int) < (↑n:Int)),Ob.prop ((List.map uu X)[off+(n - 1)]? = some (vU ↑x)),Ob.prop (V.c (Value.bool ((↑x:Int)==(0:Int)))=vT),Ob.prop (vI (IntKind.wrap .i64 ((↑n:Int) - (1:Int)))=vI ((↑n:Int) - (1:Int))),Ob.prop (V.sl 0 (off+if c=0 then (0:Nat) else (0:Nat)) (Int.toNat ((↑n:Int) - (1:Int)) - 0) (c - 0)=V.sl 0 off (n - 1) c),Ob.prop ((0:Int)≤(0:Int)∧(0:Int)≤(↑n:Int) - (1:Int)∧(↑n:Int) - (1:Int)≤(↑c:Int))]) [true] 1 (by kernel_rfl) (hP zV (hP zV (hP zV (hP zV (hP hx (hP zV (hP zV (hP zV (hP zV hN))))))))) (uflat b X)
theorem cut_stop (off c:Nat) (b:Bool) (X:List Nat) (n:Nat) (x:Nat) (hn:0 < n) (hc:n≤c) (hb:(n:Int) < 9223372036854775807) (hx:(X.map uu)[off+(n - 1)]? = some (uu x)) (h0:x≠0):TSpec Tryd.prog (loopOf Tryd.f210 0) (cutS off c b X n) (Ex.exit 0) (cutS off c b X n) :=
  tspec_dim (sc:=[(1,2,.is (.c (.bool true))),(1,7,.is (.c (.int .i64 (n - 1)))),(1,8,.is (.p 0 (off+(n-1)))),(1,9,.fix (.int .u64 (x:Nat))),(1,10,.is (.c (.bool false)))]) (sb:=[]) (obs:=[Ob.prop (V.c (Value.bool (decide ((↑n:Int) > (0:Int))))=vT),Ob.prop (vI (IntKind.wrap .i64 ((↑n:Int) - (1:Int)))=vI ((↑n:Int) - (1:Int))),Ob.prop (V.p 0 (off+Int.toNat ((↑n:Int) - (1:Int))*1)=V.p 0 (off+(n - 1))),Ob.prop ((0:Int)≤(↑n:Int) - (1:Int)∧(↑n:Int) - (1:Int) < (↑n:Int)),Ob.prop ((List.map uu X)[off+(n - 1)]? = some (vU ↑x)),Ob.prop (V.c (Value.bool ((↑x:Int)==(0:Int)))=vF)]) [true] 1 (by kernel_rfl) (hP zV (hP zV (hP zV (hP zV (hP hx (hP zV hN)))))) (uflat b X)
theorem cut_end (off c:Nat) (b:Bool) (X:List Nat)  : TSpec Tryd.prog (loopOf Tryd.f210 0) (cutS off c b X 0) (Ex.exit 0) (cutS off c b X 0) :=
  tspec_dim (sc:=[]) (sb:=[]) (obs:=[]) [true] 1 (by kernel_rfl) hN (uflat b X)
theorem cut_fnt (off c:Nat) (X:List Nat) (n m:Nat) (h:TSpec Tryd.prog (.block 0 (.loop (loopOf Tryd.f210 0))) (cutS off c true X n) .normal (cutS off c true X m)):FSpec Tryd.prog 210 [.sl 0 off n c] [some ⟨true,X.map uu⟩] (V.sl 0 off m c) [some ⟨true,X.map uu⟩] :=
  fspec_ok Tryd.func210 (sc:=[]) (sb:=[(0,.normal,cutS off c true X m)]) (keep:=[]) (obs:=[Ob.prop (Flat ([some ⟨true,X.map uu⟩]:List (Option Row))),Ob.prop (TSpec Tryd.prog (Code.block 0 (Code.loop (loopOf Tryd.f210 0))) ({ t:=[V.sl 0 off n c,V.c (Value.tuple { toList:=[] }),V.c (Value.slice none 0 0),V.c (Value.tuple { toList:=[] }),V.c (Value.tuple { toList:=[] }),V.c (Value.tuple { toList:=[] }),V.c (Value.tuple { toList:=[] }),V.c (Value.tuple { toList:=[] }),V.c (Value.tuple { toList:=[] }),V.c (Value.tuple { toList:=[] }),V.c (Value.tuple { toList:=[] }),V.c (Value.tuple { toList:=[] }),V.c (Value.tuple { toList:=[] }),V.c (Value.tuple { toList:=[] }),V.c (Value.tuple { toList:=[] }),V.c (Value.tuple { toList:=[] }),V.c (Value.tuple { toList:=[] }),V.c (Value.tuple { toList:=[] }),V.c (Value.tuple { toList:=[] }),V.c (Value.tuple { toList:=[] }),V.c (Value.tuple { toList:=[] })],m:=[some { own:=true,cells:=List.map uu X }] }) (Ex.normal) (cutS off c true X m))]) (by kernel_rfl) (hP (uflat true X) (hP (TSpec.from [true] h (by kernel_rfl) (by kernel_rfl) (uflat true X)) hN))
theorem cut_fnf (off c:Nat) (X:List Nat) (n m:Nat) (h:TSpec Tryd.prog (.block 0 (.loop (loopOf Tryd.f210 0))) (cutS off c false X n) .normal (cutS off c false X m)):FSpec Tryd.prog 210 [.sl 0 off n c] [some ⟨false,X.map uu⟩] (V.sl 0 off m c) [some ⟨false,X.map uu⟩] :=
  fspec_ok Tryd.func210 (sc:=[]) (sb:=[(0,.normal,cutS off c false X m)]) (keep:=[]) (obs:=[Ob.prop (Flat ([some ⟨false,X.map uu⟩]:List (Option Row))),Ob.prop (TSpec Tryd.prog (Code.block 0 (Code.loop (loopOf Tryd.f210 0))) ({ t:=[V.sl 0 off n c,V.c (Value.tuple { toList:=[] }),V.c (Value.slice none 0 0),V.c (Value.tuple { toList:=[] }),V.c (Value.tuple { toList:=[] }),V.c (Value.tuple { toList:=[] }),V.c (Value.tuple { toList:=[] }),V.c (Value.tuple { toList:=[] }),V.c (Value.tuple { toList:=[] }),V.c (Value.tuple { toList:=[] }),V.c (Value.tuple { toList:=[] }),V.c (Value.tuple { toList:=[] }),V.c (Value.tuple { toList:=[] }),V.c (Value.tuple { toList:=[] }),V.c (Value.tuple { toList:=[] }),V.c (Value.tuple { toList:=[] }),V.c (Value.tuple { toList:=[] }),V.c (Value.tuple { toList:=[] }),V.c (Value.tuple { toList:=[] }),V.c (Value.tuple { toList:=[] }),V.c (Value.tuple { toList:=[] })],m:=[some { own:=false,cells:=List.map uu X }] }) (Ex.normal) (cutS off c false X m)) ]) (by kernel_rfl) (hP (uflat false X) (hP (TSpec.from [true] h (by kernel_rfl) (by kernel_rfl) (uflat false X)) hN))
theorem cut_spec (off c:Nat) (b:Bool) (X:List Nat) (n:Nat) (hl:off+n≤X.length) (hc:n≤c) (hb:n < 9223372036854775807) :
    FSpec Tryd.prog 210 [.sl 0 off n c] [some ⟨b,X.map uu⟩] (.sl 0 off (cutN X off n) c) [some ⟨b,X.map uu⟩]:=by
  have key:=(loop_spec (cutS off c b X) id (fun k=>k≤n∧cutN X off k=cutN X off n) (e:=.normal) (s':=cutS off c b X (cutN X off n)) ?_ n ⟨Nat.le_refl _,rfl⟩:TSpec Tryd.prog (.block 0 (.loop (loopOf Tryd.f210 0))) (cutS off c b X n) .normal _)
  · cases b with
    | true=>exact cut_fnt off c X n _ key
    | false=>exact cut_fnf off c X n _ key
  rintro k ⟨hk,he⟩
  cases k with
  | zero=>exact .inr (.inl ⟨rfl,by rw [← he]; exact cut_end off c b X⟩)
  | succ k =>
    have hx:=uget (X:=X) (i:=off+(k+1 - 1)) (by omega)
    by_cases h0:X.getD (off+k) 0=0
    · exact .inl ⟨k,⟨by omega,by rw [← he,cutN,if_pos h0]⟩,by simp,cut_go off c b X (k+1) _ (by omega) (by omega) (by omega) hx h0⟩
    refine .inr (.inl ⟨rfl,?_⟩)
    have:cutN X off n=k+1:=by rw [← he,cutN,if_neg h0]
    rw [this]
    exact cut_stop off c b X (k+1) _ (by omega) (by omega) (by omega) hx h0
end Go.Proofs.YtkpeembfagcpcaaDoor.G
