import Derived.Test.YtkpeembfagcpcaaDoorYGR
namespace Go.Proofs.YtkpeembfagcpcaaDoor.G
open Go.Proofs.YtkpeembfagcpcaaDoor.U
set_option linter.unusedVariables false
set_option maxRecDepth 100000
theorem int_lt {x y:Nat}:V.c (.bool (decide ((x:Int) < (y:Int))))=V.c (.bool (decide (x < y))):=by
  congr 2
  exact decide_eq_decide.2 Int.ofNat_lt
theorem int_ne {x y:Nat} (h:x≠y):V.c (.bool ((x:Int) != (y:Int)))=V.c (.bool true):=by
  congr 2
  exact bne_iff_ne.2 (by omega)
theorem zero_w {y:Nat} (h:y=0):V.c (.int .u64 0)=V.c (.int .u64 (y:Int)):=by rw [h]; rfl
theorem int_eq {x:Nat}:V.c (.bool ((x:Int) != (x:Int)))=V.c (.bool false):=by
  congr 2
  simp
def bS (o1 n c1 o2 c2:Nat) (C1 C2:List V) (z:Int):St:=⟨[.sl 0 o1 n c1,.sl 1 o2 n c2,.any,.any,.any,.c (.int .i64 z)]++List.replicate 35 .any,[some ⟨true,C1⟩,some ⟨true,C2⟩]⟩
def bR (o1 n c1 o2 c2:Nat) (C1 C2:List V) (r:Bool):St:=⟨[.sl 0 o1 n c1,.sl 1 o2 n c2,.any,.any,.c (.bool r)]++List.replicate 36 .any,[some ⟨true,C1⟩,some ⟨true,C2⟩]⟩
def mS (o1 n c1 o2 m c2:Nat) (C1 C2:List V) (i bw:Nat):St:=⟨[.sl 0 o1 n c1,.sl 1 o2 m c2,.any,.any,.any,.c (.int .u64 (bw:Int)),.any,.any,.any,.c (.int .i64 (n:Nat)),.c (.int .i64 (i:Nat))]++List.replicate 26 .any,[some ⟨true,C1⟩,some ⟨true,C2⟩]⟩
theorem be_go (o1 n c1 o2 c2:Nat) (C1 C2:List V) (k x y:Nat) (f1:∀ v:V,v∈C1→v.isC=true) (f2:∀ v:V,v∈C2→v.isC=true) (hn:n < 1125899906842624) (hk:k < n) (hx:C1[o1+k]? = some (uu x)) (hy:C2[o2+k]? = some (uu y)) (h:x=y):TSpec Tryd.prog (loopOf Tryd.f192 0) (bS o1 n c1 o2 c2 C1 C2 (k:Int)) (Ex.normal) (bS o1 n c1 o2 c2 C1 C2 ((k:Int) - 1)) :=
  tspec_dim (sc:=[(4,1,.is (.c (.bool true))),(6,2,.is (.p 0 (o1+k))),(6,3,.fix (.int .u64 (x:Nat))),(6,6,.is (.p 1 (o2+k))),(6,7,.fix (.int .u64 (y:Nat))),(6,8,.is (.c (.bool false))),(5,1,.is (.c (.int .i64 ((k:Int) - 1))))]) (sb:=[]) (obs:=[Ob.prop (V.c (Value.bool (decide ((↑k:Int)≥(0:Int))))=vT),Ob.prop (V.p 0 (o1+Int.toNat (↑k:Int)*1)=V.p 0 (o1+k)),Ob.prop ((0:Int)≤(↑k:Int)∧(↑k:Int) < (↑n:Int)),Ob.prop (C1[o1+k]? = some (vU ↑x)),Ob.prop (V.p 1 (o2+Int.toNat (↑k:Int)*1)=V.p 1 (o2+k)),Ob.prop ((0:Int)≤(↑k:Int)∧(↑k:Int) < (↑n:Int)),Ob.prop (C2[o2+k]? = some (vU ↑y)),Ob.prop (V.c (Value.bool ((↑x:Int) != (↑y:Int)))=vF),Ob.prop (vI (IntKind.wrap .i64 ((↑k:Int) - (1:Int)))=vI ((↑k:Int) - (1:Int)))]) [true,true,false,false,false,true] 2 (by kernel_rfl) (hP zV (hP zV (hP zV (hP hx (hP zV (hP zV (hP hy (hP zV (hP zV hN))))))))) ⟨f1,f2,trivial⟩
theorem be_ret (o1 n c1 o2 c2:Nat) (C1 C2:List V) (k x y:Nat) (f1:∀ v:V,v∈C1→v.isC=true) (f2:∀ v:V,v∈C2→v.isC=true) (hn:n < 1125899906842624) (hk:k < n) (hx:C1[o1+k]? = some (uu x)) (hy:C2[o2+k]? = some (uu y)) (h:x≠y):TSpec Tryd.prog (loopOf Tryd.f192 0) (bS o1 n c1 o2 c2 C1 C2 (k:Int)) (Ex.ret) (bR o1 n c1 o2 c2 C1 C2 (decide (x < y))) :=
  tspec_dim (sc:=[(4,1,.is (.c (.bool true))),(6,2,.is (.p 0 (o1+k))),(6,3,.fix (.int .u64 (x:Nat))),(6,6,.is (.p 1 (o2+k))),(6,7,.fix (.int .u64 (y:Nat))),(6,8,.is (.c (.bool true))),(7,2,.is (.p 0 (o1+k))),(7,3,.fix (.int .u64 (x:Nat))),(7,6,.is (.p 1 (o2+k))),(7,7,.fix (.int .u64 (y:Nat))),(7,8,.is (.c (.bool (decide (x < y)))))]) (sb:=[]) (obs:=[Ob.prop (V.c (Value.bool (decide ((↑k:Int)≥(0:Int))))=vT),Ob.prop (V.p 0 (o1+Int.toNat (↑k:Int)*1)=V.p 0 (o1+k)),Ob.prop ((0:Int)≤(↑k:Int)∧(↑k:Int) < (↑n:Int)),Ob.prop (C1[o1+k]? = some (vU ↑x)),Ob.prop (V.p 1 (o2+Int.toNat (↑k:Int)*1)=V.p 1 (o2+k)),Ob.prop ((0:Int)≤(↑k:Int)∧(↑k:Int) < (↑n:Int)),Ob.prop (C2[o2+k]? = some (vU ↑y)),Ob.prop (V.c (Value.bool ((↑x:Int) != (↑y:Int)))=vT),Ob.prop (V.p 0 (o1+Int.toNat (↑k:Int)*1)=V.p 0 (o1+k)),Ob.prop ((0:Int)≤(↑k:Int)∧(↑k:Int) < (↑n:Int)),Ob.prop (C1[o1+k]? = some (vU ↑x)),Ob.prop (V.p 1 (o2+Int.toNat (↑k:Int)*1)=V.p 1 (o2+k)),Ob.prop ((0:Int)≤(↑k:Int)∧(↑k:Int) < (↑n:Int)),Ob.prop (C2[o2+k]? = some (vU ↑y)),Ob.prop (V.c (Value.bool (decide ((↑x:Int) < (↑y:Int))))=V.c (Value.bool (decide (x < y))))]) [true,true,false,false,true] 2 (by kernel_rfl) (hP zV (hP zV (hP zV (hP hx (hP zV (hP zV (hP hy (hP zV (hP zV (hP zV (hP hx (hP zV (hP zV (hP hy (hP int_lt hN))))))))))))))) ⟨f1,f2,trivial⟩
theorem be_end (o1 n c1 o2 c2:Nat) (C1 C2:List V) (f1:∀ v:V,v∈C1→v.isC=true) (f2:∀ v:V,v∈C2→v.isC=true):TSpec Tryd.prog (loopOf Tryd.f192 0) (bS o1 n c1 o2 c2 C1 C2 (-1)) (Ex.exit 0) (bS o1 n c1 o2 c2 C1 C2 (-1)) :=
  tspec_dim (sc:=[]) (sb:=[]) (obs:=[]) [true,true,false,false,false,true] 2 (by kernel_rfl) hN ⟨f1,f2,trivial⟩
theorem be_fnN (o1 n c1 o2 m c2:Nat) (C1 C2:List V) (f1:∀ v:V,v∈C1→v.isC=true) (f2:∀ v:V,v∈C2→v.isC=true) (h:n≠m):FSpec Tryd.prog 192 [.sl 0 o1 n c1,.sl 1 o2 m c2] [some ⟨true,C1⟩,some ⟨true,C2⟩] (V.c (Value.bool (decide (n < m)))) [some ⟨true,C1⟩,some ⟨true,C2⟩] :=
  fspec_ok Tryd.func192 (sc:=[(1,4,.is (.c (.bool true))),(2,4,.is (.c (.bool (decide (n < m)))))]) (sb:=[]) (keep:=[]) (obs:=[Ob.prop (Flat ([some ⟨true,C1⟩,some ⟨true,C2⟩]:List (Option Row))),Ob.prop (V.c (Value.bool ((↑n:Int) != (↑m:Int)))=vT),Ob.prop (V.c (Value.bool (decide ((↑n:Int) < (↑m:Int))))=V.c (Value.bool (decide (n < m))))]) (by kernel_rfl) (hP ⟨f1,f2,trivial⟩ (hP (int_ne h) (hP int_lt hN)))
theorem be_fnR (o1 n c1 o2 c2:Nat) (C1 C2:List V) (r:Bool) (f1:∀ v:V,v∈C1→v.isC=true) (f2:∀ v:V,v∈C2→v.isC=true) (hn:n < 1125899906842624) (h:TSpec Tryd.prog (.block 0 (.loop (loopOf Tryd.f192 0))) (bS o1 n c1 o2 c2 C1 C2 ((n:Int) - 1)) .ret (bR o1 n c1 o2 c2 C1 C2 r)):FSpec Tryd.prog 192 [.sl 0 o1 n c1,.sl 1 o2 n c2] [some ⟨true,C1⟩,some ⟨true,C2⟩] (V.c (Value.bool r)) [some ⟨true,C1⟩,some ⟨true,C2⟩] :=
  fspec_ok Tryd.func192 (sc:=[(1,4,.is (.c (.bool false))),(3,2,.is (.c (.int .i64 ((n:Int) - 1))))]) (sb:=[(0,.ret,bR o1 n c1 o2 c2 C1 C2 r)]) (keep:=[]) (obs:=[Ob.prop (Flat ([some ⟨true,C1⟩,some ⟨true,C2⟩]:List (Option Row))),Ob.prop (V.c (Value.bool ((↑n:Int) != (↑n:Int)))=vF),Ob.prop (vI (IntKind.wrap .i64 ((↑n:Int) - (1:Int)))=vI ((↑n:Int) - (1:Int))),Ob.prop (TSpec Tryd.prog (Code.block 0 (Code.loop (loopOf Tryd.f192 0))) ({ t:=[V.sl 0 o1 n c1,V.sl 1 o2 n c2,V.c (Value.tuple { toList:=[] }),V.c (Value.tuple { toList:=[] }),vF,vI ((↑n:Int) - (1:Int)),V.sl 0 o1 n c1,vI ↑n,V.sl 1 o2 n c2,vI ↑n,vF,V.c (Value.tuple { toList:=[] }),V.c (Value.tuple { toList:=[] }),V.c (Value.tuple { toList:=[] }),V.c (Value.tuple { toList:=[] }),V.c (Value.tuple { toList:=[] }),V.sl 0 o1 n c1,vI ↑n,vI ((↑n:Int) - (1:Int)),V.c (Value.tuple { toList:=[] }),V.c (Value.tuple { toList:=[] }),V.c (Value.tuple { toList:=[] }),V.c (Value.tuple { toList:=[] }),V.c (Value.tuple { toList:=[] }),V.c (Value.tuple { toList:=[] }),V.c (Value.tuple { toList:=[] }),V.c (Value.tuple { toList:=[] }),V.c (Value.tuple { toList:=[] }),V.c (Value.tuple { toList:=[] }),V.c (Value.tuple { toList:=[] }),V.c (Value.tuple { toList:=[] }),V.c (Value.tuple { toList:=[] }),V.c (Value.tuple { toList:=[] }),V.c (Value.tuple { toList:=[] }),V.c (Value.tuple { toList:=[] }),V.c (Value.tuple { toList:=[] }),V.c (Value.tuple { toList:=[] }),V.c (Value.tuple { toList:=[] }),V.c (Value.tuple { toList:=[] }),V.c (Value.tuple { toList:=[] }),V.c (Value.tuple { toList:=[] })],m:=[some { own:=true,cells:=C1 },some { own:=true,cells:=C2 }] }) (Ex.ret) (bR o1 n c1 o2 c2 C1 C2 r))]) (by kernel_rfl) (hP ⟨f1,f2,trivial⟩ (hP int_eq (hP zV (hP (TSpec.from [true,true,false,false,false,true] h (by kernel_rfl) (by kernel_rfl) ⟨f1,f2,trivial⟩) hN))))
theorem be_fnE (o1 n c1 o2 c2:Nat) (C1 C2:List V) (f1:∀ v:V,v∈C1→v.isC=true) (f2:∀ v:V,v∈C2→v.isC=true) (hn:n < 1125899906842624) (h:TSpec Tryd.prog (.block 0 (.loop (loopOf Tryd.f192 0))) (bS o1 n c1 o2 c2 C1 C2 ((n:Int) - 1)) .normal (bS o1 n c1 o2 c2 C1 C2 (-1))):FSpec Tryd.prog 192 [.sl 0 o1 n c1,.sl 1 o2 n c2] [some ⟨true,C1⟩,some ⟨true,C2⟩] (vF) [some ⟨true,C1⟩,some ⟨true,C2⟩] :=
  fspec_ok Tryd.func192 (sc:=[(1,4,.is (.c (.bool false))),(3,2,.is (.c (.int .i64 ((n:Int) - 1))))]) (sb:=[(0,.normal,bS o1 n c1 o2 c2 C1 C2 (-1))]) (keep:=[]) (obs:=[Ob.prop (Flat ([some ⟨true,C1⟩,some ⟨true,C2⟩]:List (Option Row))),Ob.prop (V.c (Value.bool ((↑n:Int) != (↑n:Int)))=vF),Ob.prop (vI (IntKind.wrap .i64 ((↑n:Int) - (1:Int)))=vI ((↑n:Int) - (1:Int))),Ob.prop (TSpec Tryd.prog (Code.block 0 (Code.loop (loopOf Tryd.f192 0))) ({ t:=[V.sl 0 o1 n c1,V.sl 1 o2 n c2,V.c (Value.tuple { toList:=[] }),V.c (Value.tuple { toList:=[] }),vF,vI ((↑n:Int) - (1:Int)),V.sl 0 o1 n c1,vI ↑n,V.sl 1 o2 n c2,vI ↑n,vF,V.c (Value.tuple { toList:=[] }),V.c (Value.tuple { toList:=[] }),V.c (Value.tuple { toList:=[] }),V.c (Value.tuple { toList:=[] }),V.c (Value.tuple { toList:=[] }),V.sl 0 o1 n c1,vI ↑n,vI ((↑n:Int) - (1:Int)),V.c (Value.tuple { toList:=[] }),V.c (Value.tuple { toList:=[] }),V.c (Value.tuple { toList:=[] }),V.c (Value.tuple { toList:=[] }),V.c (Value.tuple { toList:=[] }),V.c (Value.tuple { toList:=[] }),V.c (Value.tuple { toList:=[] }),V.c (Value.tuple { toList:=[] }),V.c (Value.tuple { toList:=[] }),V.c (Value.tuple { toList:=[] }),V.c (Value.tuple { toList:=[] }),V.c (Value.tuple { toList:=[] }),V.c (Value.tuple { toList:=[] }),V.c (Value.tuple { toList:=[] }),V.c (Value.tuple { toList:=[] }),V.c (Value.tuple { toList:=[] }),V.c (Value.tuple { toList:=[] }),V.c (Value.tuple { toList:=[] }),V.c (Value.tuple { toList:=[] }),V.c (Value.tuple { toList:=[] }),V.c (Value.tuple { toList:=[] }),V.c (Value.tuple { toList:=[] })],m:=[some { own:=true,cells:=C1 },some { own:=true,cells:=C2 }] }) (Ex.normal) (bS o1 n c1 o2 c2 C1 C2 (-1:Int)))]) (by kernel_rfl) (hP ⟨f1,f2,trivial⟩ (hP int_eq (hP zV (hP (TSpec.from [true,true,false,false,false,true] h (by kernel_rfl) (by kernel_rfl) ⟨f1,f2,trivial⟩) hN))))
theorem mi_y0 (o1 n c1 o2 m c2 i x y:Nat) (C1 C2:List V) (f1:∀ v:V,v∈C1→v.isC=true) (f2:∀ v:V,v∈C2→v.isC=true) (hn:n < 1125899906842624) (hi:i < n) (hx:C1[o1+i]? = some (uu x)) (hm:i < m) (hy:C2[o2+i]? = some (uu y)):TSpec Tryd.prog (loopOf Tryd.f193 0) (mS o1 n c1 o2 m c2 C1 C2 i 0) (Ex.normal) (mS o1 n c1 o2 m c2 (C1.set (o1+i) (uu ((x+18446744073709551616 - y - 0)%18446744073709551616))) C2 (i+1) (if x < y+0 then 1 else 0)) :=
  tspec_dim (sc:=[(3,0,.is (.c (.bool true))),(6,3,.is (.c (.bool true))),(7,2,.is (.p 1 (o2+i))),(7,3,.fix (.int .u64 (y:Nat))),(8,4,.is (.p 0 (o1+i))),(8,5,.fix (.int .u64 (x:Nat))),(8,10,.is (.c (.int .u64 ((x+18446744073709551616 - y - 0)%18446744073709551616:Nat)))),(8,11,.is (.c (.int .u64 ((if x < y+0 then 1 else 0:Nat):Int)))),(8,12,.is (.p 0 (o1+i))),(8,13,.fix undef),(9,0,.is (.c (.int .i64 (i+1:Nat))))]) (sb:=[]) (obs:=[Ob.prop (V.c (Value.bool (decide ((↑i:Int) < (↑n:Int))))=vT),Ob.prop (V.c (Value.bool (decide ((↑i:Int) < (↑m:Int))))=vT),Ob.prop (V.p 1 (o2+Int.toNat (↑i:Int)*1)=V.p 1 (o2+i)),Ob.prop ((0:Int)≤(↑i:Int)∧(↑i:Int) < (↑m:Int)),Ob.prop (C2[o2+i]? = some (vU ↑y)),Ob.prop (V.p 0 (o1+Int.toNat (↑i:Int)*1)=V.p 0 (o1+i)),Ob.prop ((0:Int)≤(↑i:Int)∧(↑i:Int) < (↑n:Int)),Ob.prop (C1[o1+i]? = some (vU ↑x)),Ob.prop (V.c #[Value.int IntKind.u64 (Int.ofNat ((Int.toNat (Prod.snd (IntKind.u64,(↑x:Int)))+18446744073709551616 - Int.toNat (Prod.snd (IntKind.u64,(↑y:Int))) - 0)%18446744073709551616)),Value.int IntKind.u64 (Int.ofNat (if Int.toNat (Prod.snd (IntKind.u64,(↑x:Int))) < Int.toNat (Prod.snd (IntKind.u64,(↑y:Int)))+0 then (1:Nat) else (0:Nat)))][0]=vU (↑((x+18446744073709551616 - y - 0)%18446744073709551616):Int)),Ob.prop (V.c #[Value.int IntKind.u64 (Int.ofNat ((Int.toNat (Prod.snd (IntKind.u64,(↑x:Int)))+18446744073709551616 - Int.toNat (Prod.snd (IntKind.u64,(↑y:Int))) - 0)%18446744073709551616)),Value.int IntKind.u64 (Int.ofNat (if Int.toNat (Prod.snd (IntKind.u64,(↑x:Int))) < Int.toNat (Prod.snd (IntKind.u64,(↑y:Int)))+0 then (1:Nat) else (0:Nat)))][1]=vU (↑(if x < y+0 then (1:Nat) else (0:Nat)):Int)),Ob.prop (V.p 0 (o1+Int.toNat (↑i:Int)*1)=V.p 0 (o1+i)),Ob.prop ((0:Int)≤(↑i:Int)∧(↑i:Int) < (↑n:Int)),Ob.prop (o1+i+List.length [vU (↑((x+18446744073709551616 - y - 0)%18446744073709551616):Int)]≤List.length C1),Ob.prop (vI (IntKind.wrap .i64 ((↑i:Int)+(1:Int)))=vI (↑(i+1):Int))]) ([true,true,false,false,false,true,false,false,false,true,true]) 2 (by kernel_rfl) (hP zV (hP zV (hP zV (hP zV (hP hy (hP zV (hP zV (hP hx (hP rfl (hP rfl (hP zV (hP zV (hP (len_of hx) (hP zV hN)))))))))))))) ⟨flat_set rfl f1,f2,trivial⟩
theorem mi_y1 (o1 n c1 o2 m c2 i x y:Nat) (C1 C2:List V) (f1:∀ v:V,v∈C1→v.isC=true) (f2:∀ v:V,v∈C2→v.isC=true) (hn:n < 1125899906842624) (hi:i < n) (hx:C1[o1+i]? = some (uu x)) (hm:i < m) (hy:C2[o2+i]? = some (uu y)):TSpec Tryd.prog (loopOf Tryd.f193 0) (mS o1 n c1 o2 m c2 C1 C2 i 1) (Ex.normal) (mS o1 n c1 o2 m c2 (C1.set (o1+i) (uu ((x+18446744073709551616 - y - 1)%18446744073709551616))) C2 (i+1) (if x < y+1 then 1 else 0)) :=
  tspec_dim (sc:=[(3,0,.is (.c (.bool true))),(6,3,.is (.c (.bool true))),(7,2,.is (.p 1 (o2+i))),(7,3,.fix (.int .u64 (y:Nat))),(8,4,.is (.p 0 (o1+i))),(8,5,.fix (.int .u64 (x:Nat))),(8,10,.is (.c (.int .u64 ((x+18446744073709551616 - y - 1)%18446744073709551616:Nat)))),(8,11,.is (.c (.int .u64 ((if x < y+1 then 1 else 0:Nat):Int)))),(8,12,.is (.p 0 (o1+i))),(8,13,.fix undef),(9,0,.is (.c (.int .i64 (i+1:Nat))))]) (sb:=[]) (obs:=[Ob.prop (V.c (Value.bool (decide ((↑i:Int) < (↑n:Int))))=vT),Ob.prop (V.c (Value.bool (decide ((↑i:Int) < (↑m:Int))))=vT),Ob.prop (V.p 1 (o2+Int.toNat (↑i:Int)*1)=V.p 1 (o2+i)),Ob.prop ((0:Int)≤(↑i:Int)∧(↑i:Int) < (↑m:Int)),Ob.prop (C2[o2+i]? = some (vU ↑y)),Ob.prop (V.p 0 (o1+Int.toNat (↑i:Int)*1)=V.p 0 (o1+i)),Ob.prop ((0:Int)≤(↑i:Int)∧(↑i:Int) < (↑n:Int)),Ob.prop (C1[o1+i]? = some (vU ↑x)),Ob.prop (V.c #[Value.int IntKind.u64 (Int.ofNat ((Int.toNat (Prod.snd (IntKind.u64,(↑x:Int)))+18446744073709551616 - Int.toNat (Prod.snd (IntKind.u64,(↑y:Int))) - 1)%18446744073709551616)),Value.int IntKind.u64 (Int.ofNat (if Int.toNat (Prod.snd (IntKind.u64,(↑x:Int))) < Int.toNat (Prod.snd (IntKind.u64,(↑y:Int)))+1 then (1:Nat) else (0:Nat)))][0]=vU (↑((x+18446744073709551616 - y - 1)%18446744073709551616):Int)),Ob.prop (V.c #[Value.int IntKind.u64 (Int.ofNat ((Int.toNat (Prod.snd (IntKind.u64,(↑x:Int)))+18446744073709551616 - Int.toNat (Prod.snd (IntKind.u64,(↑y:Int))) - 1)%18446744073709551616)),Value.int IntKind.u64 (Int.ofNat (if Int.toNat (Prod.snd (IntKind.u64,(↑x:Int))) < Int.toNat (Prod.snd (IntKind.u64,(↑y:Int)))+1 then (1:Nat) else (0:Nat)))][1]=vU (↑(if x < y+1 then (1:Nat) else (0:Nat)):Int)),Ob.prop (V.p 0 (o1+Int.toNat (↑i:Int)*1)=V.p 0 (o1+i)),Ob.prop ((0:Int)≤(↑i:Int)∧(↑i:Int) < (↑n:Int)),Ob.prop (o1+i+List.length [vU (↑((x+18446744073709551616 - y - 1)%18446744073709551616):Int)]≤List.length C1),Ob.prop (vI (IntKind.wrap .i64 ((↑i:Int)+(1:Int)))=vI (↑(i+1):Int))]) ([true,true,false,false,false,true,false,false,false,true,true]) 2 (by kernel_rfl) (hP zV (hP zV (hP zV (hP zV (hP hy (hP zV (hP zV (hP hx (hP rfl (hP rfl (hP zV (hP zV (hP (len_of hx) (hP zV hN)))))))))))))) ⟨flat_set rfl f1,f2,trivial⟩
theorem mi_n0 (o1 n c1 o2 m c2 i x y:Nat) (C1 C2:List V) (f1:∀ v:V,v∈C1→v.isC=true) (f2:∀ v:V,v∈C2→v.isC=true) (hn:n < 1125899906842624) (hi:i < n) (hx:C1[o1+i]? = some (uu x)) (hm:¬ i < m) (hy:y=0):TSpec Tryd.prog (loopOf Tryd.f193 0) (mS o1 n c1 o2 m c2 C1 C2 i 0) (Ex.normal) (mS o1 n c1 o2 m c2 (C1.set (o1+i) (uu ((x+18446744073709551616 - y - 0)%18446744073709551616))) C2 (i+1) (if x < y+0 then 1 else 0)) :=
  tspec_dim (sc:=[(3,0,.is (.c (.bool true))),(5,0,.is (.c (.int .u64 (y:Nat)))),(6,3,.is (.c (.bool false))),(8,4,.is (.p 0 (o1+i))),(8,5,.fix (.int .u64 (x:Nat))),(8,10,.is (.c (.int .u64 ((x+18446744073709551616 - y - 0)%18446744073709551616:Nat)))),(8,11,.is (.c (.int .u64 ((if x < y+0 then 1 else 0:Nat):Int)))),(8,12,.is (.p 0 (o1+i))),(8,13,.fix undef),(9,0,.is (.c (.int .i64 (i+1:Nat))))]) (sb:=[]) (obs:=[Ob.prop (V.c (Value.bool (decide ((↑i:Int) < (↑n:Int))))=vT),Ob.prop (St.at (stepSt (stepSt (stepSt (mS o1 n c1 o2 m c2 C1 C2 i 0) (Oper.dst { dst:=some 11,op:=Op.binOp BinOp.lss 3 (Operand.tmp 10) (Operand.tmp 9) 3,type:=0,pos := "gcd.go:61",after:=#[],guard:=none }) (Eff.val (vT))) (Oper.dst { dst:=some 12,op:=Op.move (Operand.tmp 10),type:=3,pos := "gcd.go:61",after:=#[],guard:=none }) (Eff.val (St.at (stepSt (mS o1 n c1 o2 m c2 C1 C2 i 0) (Oper.dst { dst:=some 11,op:=Op.binOp BinOp.lss 3 (Operand.tmp 10) (Operand.tmp 9) 3,type:=0,pos := "gcd.go:61",after:=#[],guard:=none }) (Eff.val (vT))) (Operand.tmp 10)))) (Oper.dst { dst:=some 6,op:=Op.assign (Operand.tmp 12),type:=3,pos := "gcd.go:61",after:=#[{ on:=0,ground:=Ground.data },{ on:=0,ground:=Ground.phase }],guard:=none }) (Eff.val (St.at (stepSt (stepSt (mS o1 n c1 o2 m c2 C1 C2 i 0) (Oper.dst { dst:=some 11,op:=Op.binOp BinOp.lss 3 (Operand.tmp 10) (Operand.tmp 9) 3,type:=0,pos := "gcd.go:61",after:=#[],guard:=none }) (Eff.val (vT))) (Oper.dst { dst:=some 12,op:=Op.move (Operand.tmp 10),type:=3,pos := "gcd.go:61",after:=#[],guard:=none }) (Eff.val (St.at (stepSt (mS o1 n c1 o2 m c2 C1 C2 i 0) (Oper.dst { dst:=some 11,op:=Op.binOp BinOp.lss 3 (Operand.tmp 10) (Operand.tmp 9) 3,type:=0,pos := "gcd.go:61",after:=#[],guard:=none }) (Eff.val (vT))) (Operand.tmp 10)))) (Operand.tmp 12)))) (Operand.const (Value.int IntKind.u64 (0:Int)))=vU ↑y),Ob.prop (V.c (Value.bool (decide ((↑i:Int) < (↑m:Int))))=vF),Ob.prop (V.p 0 (o1+Int.toNat (↑i:Int)*1)=V.p 0 (o1+i)),Ob.prop ((0:Int)≤(↑i:Int)∧(↑i:Int) < (↑n:Int)),Ob.prop (C1[o1+i]? = some (vU ↑x)),Ob.prop (V.c #[Value.int IntKind.u64 (Int.ofNat ((Int.toNat (Prod.snd (IntKind.u64,(↑x:Int)))+18446744073709551616 - Int.toNat (Prod.snd (IntKind.u64,(↑y:Int))) - 0)%18446744073709551616)),Value.int IntKind.u64 (Int.ofNat (if Int.toNat (Prod.snd (IntKind.u64,(↑x:Int))) < Int.toNat (Prod.snd (IntKind.u64,(↑y:Int)))+0 then (1:Nat) else (0:Nat)))][0]=vU (↑((x+18446744073709551616 - y - 0)%18446744073709551616):Int)),Ob.prop (V.c #[Value.int IntKind.u64 (Int.ofNat ((Int.toNat (Prod.snd (IntKind.u64,(↑x:Int)))+18446744073709551616 - Int.toNat (Prod.snd (IntKind.u64,(↑y:Int))) - 0)%18446744073709551616)),Value.int IntKind.u64 (Int.ofNat (if Int.toNat (Prod.snd (IntKind.u64,(↑x:Int))) < Int.toNat (Prod.snd (IntKind.u64,(↑y:Int)))+0 then (1:Nat) else (0:Nat)))][1]=vU (↑(if x < y+0 then (1:Nat) else (0:Nat)):Int)),Ob.prop (V.p 0 (o1+Int.toNat (↑i:Int)*1)=V.p 0 (o1+i)),Ob.prop ((0:Int)≤(↑i:Int)∧(↑i:Int) < (↑n:Int)),Ob.prop (o1+i+List.length [vU (↑((x+18446744073709551616 - y - 0)%18446744073709551616):Int)]≤List.length C1),Ob.prop (vI (IntKind.wrap .i64 ((↑i:Int)+(1:Int)))=vI (↑(i+1):Int))]) ([true,true,false,false,false,true,false,false,false,true,true]) 2 (by kernel_rfl) (hP zV (hP (zero_w hy) (hP zV (hP zV (hP zV (hP hx (hP rfl (hP rfl (hP zV (hP zV (hP (len_of hx) (hP zV hN)))))))))))) ⟨flat_set rfl f1,f2,trivial⟩
theorem mi_n1 (o1 n c1 o2 m c2 i x y:Nat) (C1 C2:List V) (f1:∀ v:V,v∈C1→v.isC=true) (f2:∀ v:V,v∈C2→v.isC=true) (hn:n < 1125899906842624) (hi:i < n) (hx:C1[o1+i]? = some (uu x)) (hm:¬ i < m) (hy:y=0):TSpec Tryd.prog (loopOf Tryd.f193 0) (mS o1 n c1 o2 m c2 C1 C2 i 1) (Ex.normal) (mS o1 n c1 o2 m c2 (C1.set (o1+i) (uu ((x+18446744073709551616 - y - 1)%18446744073709551616))) C2 (i+1) (if x < y+1 then 1 else 0)) :=
  tspec_dim (sc:=[(3,0,.is (.c (.bool true))),(5,0,.is (.c (.int .u64 (y:Nat)))),(6,3,.is (.c (.bool false))),(8,4,.is (.p 0 (o1+i))),(8,5,.fix (.int .u64 (x:Nat))),(8,10,.is (.c (.int .u64 ((x+18446744073709551616 - y - 1)%18446744073709551616:Nat)))),(8,11,.is (.c (.int .u64 ((if x < y+1 then 1 else 0:Nat):Int)))),(8,12,.is (.p 0 (o1+i))),(8,13,.fix undef),(9,0,.is (.c (.int .i64 (i+1:Nat))))]) (sb:=[]) (obs:=[Ob.prop (V.c (Value.bool (decide ((↑i:Int) < (↑n:Int))))=vT),Ob.prop (St.at (stepSt (stepSt (stepSt (mS o1 n c1 o2 m c2 C1 C2 i 1) (Oper.dst { dst:=some 11,op:=Op.binOp BinOp.lss 3 (Operand.tmp 10) (Operand.tmp 9) 3,type:=0,pos := "gcd.go:61",after:=#[],guard:=none }) (Eff.val (vT))) (Oper.dst { dst:=some 12,op:=Op.move (Operand.tmp 10),type:=3,pos := "gcd.go:61",after:=#[],guard:=none }) (Eff.val (St.at (stepSt (mS o1 n c1 o2 m c2 C1 C2 i 1) (Oper.dst { dst:=some 11,op:=Op.binOp BinOp.lss 3 (Operand.tmp 10) (Operand.tmp 9) 3,type:=0,pos := "gcd.go:61",after:=#[],guard:=none }) (Eff.val (vT))) (Operand.tmp 10)))) (Oper.dst { dst:=some 6,op:=Op.assign (Operand.tmp 12),type:=3,pos := "gcd.go:61",after:=#[{ on:=0,ground:=Ground.data },{ on:=0,ground:=Ground.phase }],guard:=none }) (Eff.val (St.at (stepSt (stepSt (mS o1 n c1 o2 m c2 C1 C2 i 1) (Oper.dst { dst:=some 11,op:=Op.binOp BinOp.lss 3 (Operand.tmp 10) (Operand.tmp 9) 3,type:=0,pos := "gcd.go:61",after:=#[],guard:=none }) (Eff.val (vT))) (Oper.dst { dst:=some 12,op:=Op.move (Operand.tmp 10),type:=3,pos := "gcd.go:61",after:=#[],guard:=none }) (Eff.val (St.at (stepSt (mS o1 n c1 o2 m c2 C1 C2 i 1) (Oper.dst { dst:=some 11,op:=Op.binOp BinOp.lss 3 (Operand.tmp 10) (Operand.tmp 9) 3,type:=0,pos := "gcd.go:61",after:=#[],guard:=none }) (Eff.val (vT))) (Operand.tmp 10)))) (Operand.tmp 12)))) (Operand.const (Value.int IntKind.u64 (0:Int)))=vU ↑y),Ob.prop (V.c (Value.bool (decide ((↑i:Int) < (↑m:Int))))=vF),Ob.prop (V.p 0 (o1+Int.toNat (↑i:Int)*1)=V.p 0 (o1+i)),Ob.prop ((0:Int)≤(↑i:Int)∧(↑i:Int) < (↑n:Int)),Ob.prop (C1[o1+i]? = some (vU ↑x)),Ob.prop (V.c #[Value.int IntKind.u64 (Int.ofNat ((Int.toNat (Prod.snd (IntKind.u64,(↑x:Int)))+18446744073709551616 - Int.toNat (Prod.snd (IntKind.u64,(↑y:Int))) - 1)%18446744073709551616)),Value.int IntKind.u64 (Int.ofNat (if Int.toNat (Prod.snd (IntKind.u64,(↑x:Int))) < Int.toNat (Prod.snd (IntKind.u64,(↑y:Int)))+1 then (1:Nat) else (0:Nat)))][0]=vU (↑((x+18446744073709551616 - y - 1)%18446744073709551616):Int)),Ob.prop (V.c #[Value.int IntKind.u64 (Int.ofNat ((Int.toNat (Prod.snd (IntKind.u64,(↑x:Int)))+18446744073709551616 - Int.toNat (Prod.snd (IntKind.u64,(↑y:Int))) - 1)%18446744073709551616)),Value.int IntKind.u64 (Int.ofNat (if Int.toNat (Prod.snd (IntKind.u64,(↑x:Int))) < Int.toNat (Prod.snd (IntKind.u64,(↑y:Int)))+1 then (1:Nat) else (0:Nat)))][1]=vU (↑(if x < y+1 then (1:Nat) else (0:Nat)):Int)),Ob.prop (V.p 0 (o1+Int.toNat (↑i:Int)*1)=V.p 0 (o1+i)),Ob.prop ((0:Int)≤(↑i:Int)∧(↑i:Int) < (↑n:Int)),Ob.prop (o1+i+List.length [vU (↑((x+18446744073709551616 - y - 1)%18446744073709551616):Int)]≤List.length C1),Ob.prop (vI (IntKind.wrap .i64 ((↑i:Int)+(1:Int)))=vI (↑(i+1):Int))]) ([true,true,false,false,false,true,false,false,false,true,true]) 2 (by kernel_rfl) (hP zV (hP (zero_w hy) (hP zV (hP zV (hP zV (hP hx (hP rfl (hP rfl (hP zV (hP zV (hP (len_of hx) (hP zV hN)))))))))))) ⟨flat_set rfl f1,f2,trivial⟩
theorem mi_end (o1 n c1 o2 m c2 bw:Nat) (C1 C2:List V) (f1:∀ v:V,v∈C1→v.isC=true) (f2:∀ v:V,v∈C2→v.isC=true):TSpec Tryd.prog (loopOf Tryd.f193 0) (mS o1 n c1 o2 m c2 C1 C2 n bw) (Ex.exit 0) (mS o1 n c1 o2 m c2 C1 C2 n bw) :=
  tspec_dim (sc:=[(3,0,.is (.c (.bool false)))]) (sb:=[]) (obs:=[Ob.prop (V.c (Value.bool (decide ((↑n:Int) < (↑n:Int))))=vF)]) ([true,true,false,false,false,true,false,false,false,true,true]) 2 (by kernel_rfl) (hP zV hN) ⟨f1,f2,trivial⟩
theorem mi_fn (o1 n c1 o2 m c2 k bw:Nat) (C1 C2 C':List V) (f1:∀ v:V,v∈C1→v.isC=true) (f2:∀ v:V,v∈C2→v.isC=true) (f3:∀ v:V,v∈C' → v.isC=true) (hcut:FSpec Tryd.prog 210 [.sl 0 o1 n c1] [some ⟨true,C'⟩,some ⟨true,C2⟩] (.sl 0 o1 k c1) [some ⟨true,C'⟩,some ⟨true,C2⟩]) (h:TSpec Tryd.prog (.block 0 (.loop (loopOf Tryd.f193 0))) (mS o1 n c1 o2 m c2 C1 C2 0 0) .normal (mS o1 n c1 o2 m c2 C' C2 n bw)):FSpec Tryd.prog 193 [.sl 0 o1 n c1,.sl 1 o2 m c2] [some ⟨true,C1⟩,some ⟨true,C2⟩] (V.sl 0 o1 k c1) [some ⟨true,C'⟩,some ⟨true,C2⟩] :=
  fspec_ok Tryd.func193 (sc:=[(10,1,.call (.sl 0 o1 k c1) [some ⟨true,C'⟩,some ⟨true,C2⟩])]) (sb:=[(0,.normal,mS o1 n c1 o2 m c2 C' C2 n bw)]) (keep:=[]) (obs:=[Ob.prop (Flat ([some ⟨true,C'⟩,some ⟨true,C2⟩]:List (Option Row))),Ob.prop (TSpec Tryd.prog (Code.block 0 (Code.loop (loopOf Tryd.f193 0))) ({ t:=[V.sl 0 o1 n c1,V.sl 1 o2 m c2,V.c (Value.tuple { toList:=[] }),V.c (Value.tuple { toList:=[] }),V.c (Value.slice none 0 0),vU (0:Int),V.c (Value.tuple { toList:=[] }),V.c (Value.tuple { toList:=[] }),V.sl 0 o1 n c1,vI ↑n,vI (0:Int),V.c (Value.tuple { toList:=[] }),V.c (Value.tuple { toList:=[] }),V.c (Value.tuple { toList:=[] }),V.c (Value.tuple { toList:=[] }),V.c (Value.tuple { toList:=[] }),V.c (Value.tuple { toList:=[] }),V.c (Value.tuple { toList:=[] }),V.c (Value.tuple { toList:=[] }),V.c (Value.tuple { toList:=[] }),V.c (Value.tuple { toList:=[] }),V.c (Value.tuple { toList:=[] }),V.c (Value.tuple { toList:=[] }),V.c (Value.tuple { toList:=[] }),V.c (Value.tuple { toList:=[] }),V.c (Value.tuple { toList:=[] }),V.c (Value.tuple { toList:=[] }),V.c (Value.tuple { toList:=[] }),V.c (Value.tuple { toList:=[] }),V.c (Value.tuple { toList:=[] }),V.c (Value.tuple { toList:=[] }),V.c (Value.tuple { toList:=[] }),V.c (Value.tuple { toList:=[] }),V.c (Value.tuple { toList:=[] }),V.c (Value.tuple { toList:=[] }),V.c (Value.tuple { toList:=[] }),V.c (Value.tuple { toList:=[] })],m:=[some { own:=true,cells:=C1 },some { own:=true,cells:=C2 }] }) (Ex.normal) (mS o1 n c1 o2 m c2 C' C2 n bw)),Ob.fcall 210 [V.sl 0 o1 n c1] [some { own:=true,cells:=C' },some { own:=true,cells:=C2 }] (V.sl 0 o1 k c1) [some { own:=true,cells:=C' },some { own:=true,cells:=C2 }] ]) (by kernel_rfl) (hP ⟨f3,f2,trivial⟩ (hP (TSpec.from ([true,true,false,false,false,true,false,false,false,true,true]) h (by kernel_rfl) (by kernel_rfl) ⟨f1,f2,trivial⟩) (hF hcut hN)))
theorem win_cons {L:List Nat} {off n:Nat} (h:0 < n) (hl:off < L.length):win L off n=L.getD off 0::win L (off+1) (n - 1):=by
  obtain ⟨m,rfl⟩:∃ m,n=m+1:=⟨n - 1,by omega⟩
  unfold win
  rw [List.drop_eq_getElem_cons hl,List.take_succ_cons,List.getD_eq_getElem?_getD,List.getElem?_eq_getElem hl]
  rfl
theorem getD_lt {L:List Nat} {k:Nat} (h:Wd L) (hk:k < L.length):L.getD k 0 < 18446744073709551616:=by
  rw [List.getD_eq_getElem?_getD,List.getElem?_eq_getElem hk]
  exact h _ (List.getElem_mem hk)
theorem top_lt {a b x y P:Nat} (ha:a < P) (h:x < y):a+P*x < b+P*y:=by
  have:=Nat.mul_le_mul_left P (show x+1≤y from h)
  rw [Nat.mul_add] at this
  omega
theorem be_loop (o1 n c1 o2 c2:Nat) (L1 L2:List Nat) (w1:Wd L1) (w2:Wd L2) (h1:o1+n≤L1.length) (h2:o2+n≤L2.length) (hn:n < 1125899906842624):∀ k,k≤n →
    Rounds Tryd.prog (loopOf Tryd.f192 0) 0 (bS o1 n c1 o2 c2 (L1.map uu) (L2.map uu) ((k:Int) - 1)) .ret (bR o1 n c1 o2 c2 (L1.map uu) (L2.map uu) (decide (lw (win L1 o1 k) < lw (win L2 o2 k)))) ∨
    (lw (win L1 o1 k)=lw (win L2 o2 k)∧Rounds Tryd.prog (loopOf Tryd.f192 0) 0 (bS o1 n c1 o2 c2 (L1.map uu) (L2.map uu) ((k:Int) - 1)) .normal (bS o1 n c1 o2 c2 (L1.map uu) (L2.map uu) (-1)))
  | 0,_=>.inr ⟨rfl,.stop (be_end o1 n c1 o2 c2 _ _ (uu_flat _) (uu_flat _))⟩
  | k+1,hk=>by
    have hx:=uget (X:=L1) (i:=o1+k) (by omega)
    have hy:=uget (X:=L2) (i:=o2+k) (by omega)
    have e:((k+1:Nat):Int) - 1=(k:Int):=by omega
    rw [e,win_succ (by omega),win_succ (by omega),lw_append,lw_append,win_len (by omega),win_len (by omega)]
    have q1:=lw_lt (win_wd (L:=L1) (off:=o1) (n:=k) w1)
    have q2:=lw_lt (win_wd (L:=L2) (off:=o2) (n:=k) w2)
    rw [win_len (by omega)] at q1 q2
    have s1:∀ x,lw [x]=x:=fun x=>by simp [lw]
    rw [s1,s1]
    by_cases h:L1.getD (o1+k) 0=L2.getD (o2+k) 0
    · have hr:=be_go o1 n c1 o2 c2 _ _ k _ _ (uu_flat L1) (uu_flat L2) hn (by omega) hx hy h
      rw [h]
      rcases be_loop o1 n c1 o2 c2 L1 L2 w1 w2 h1 h2 hn k (by omega) with ih | ⟨ih1,ih2⟩
      · refine .inl ?_
        have ed:(decide (lw (win L1 o1 k)+18446744073709551616^k*L2.getD (o2+k) 0 < lw (win L2 o2 k)+18446744073709551616^k*L2.getD (o2+k) 0))=decide (lw (win L1 o1 k) < lw (win L2 o2 k)):=decide_eq_decide.2 (by omega)
        rw [ed]
        exact .step hr ih
      exact .inr ⟨by rw [ih1],.step hr ih2⟩
    refine .inl (.ret ?_)
    have hr:=be_ret o1 n c1 o2 c2 _ _ k _ _ (uu_flat L1) (uu_flat L2) hn (by omega) hx hy h
    have ed:(decide (lw (win L1 o1 k)+18446744073709551616^k*L1.getD (o1+k) 0 < lw (win L2 o2 k)+18446744073709551616^k*L2.getD (o2+k) 0))=decide (L1.getD (o1+k) 0 < L2.getD (o2+k) 0):=by
      refine decide_eq_decide.2 ⟨fun hh=>?_,fun hh=>top_lt q1 hh⟩
      rcases Nat.lt_or_gt_of_ne h with h' | h'
      · exact h'
      have:=top_lt (a:=lw (win L2 o2 k)) (b:=lw (win L1 o1 k)) q2 h'
      omega
    rw [ed]
    exact hr
theorem nm_lt {L:List Nat} {off n c v:Nat} (h:Nm L off n c v):v < 18446744073709551616^n:=by
  obtain ⟨hw,hl,_,hv,_⟩:=h
  have:=lw_lt (win_wd (L:=L) (off:=off) (n:=n) hw)
  rwa [win_len hl,hv] at this
theorem nm_len_lt {L L':List Nat} {off n c v off' n' c' v':Nat} (h:Nm L off n c v) (h':Nm L' off' n' c' v') (hn:n < n'):v < v':=by
  have h1:=nm_lt h
  rcases h'.2.2.2.2 with h2 | h2
  · omega
  have:=Nat.pow_le_pow_right (n:=18446744073709551616) (by decide) (show n≤n' - 1 by omega)
  omega
theorem below_spec {L1 L2:List Nat} {o1 n c1 v o2 m c2 u:Nat} (h1:Nm L1 o1 n c1 v) (h2:Nm L2 o2 m c2 u) (hn:n < 1125899906842624) :
    FSpec Tryd.prog 192 [.sl 0 o1 n c1,.sl 1 o2 m c2] [some ⟨true,L1.map uu⟩,some ⟨true,L2.map uu⟩] (.c (.bool (decide (v < u)))) [some ⟨true,L1.map uu⟩,some ⟨true,L2.map uu⟩]:=by
  by_cases h:n=m
  · subst h
    have hv:=h1.2.2.2.1
    have hu:=h2.2.2.2.1
    rcases be_loop o1 n c1 o2 c2 L1 L2 h1.1 h2.1 h1.2.1 h2.2.1 hn n (Nat.le_refl _) with hl | ⟨he,hl⟩
    · rw [hv,hu] at hl
      exact be_fnR o1 n c1 o2 c2 _ _ _ (uu_flat L1) (uu_flat L2) hn hl.spec
    have:decide (v < u)=false:=by rw [← hv,← hu,he]; simp
    rw [this]
    exact be_fnE o1 n c1 o2 c2 _ _ (uu_flat L1) (uu_flat L2) hn hl.spec
  have e:decide (v < u)=decide (n < m):=by
    refine decide_eq_decide.2 ⟨fun hh=>?_,fun hh=>nm_len_lt h1 h2 hh⟩
    rcases Nat.lt_or_gt_of_ne h with h' | h'
    · exact h'
    have:=nm_len_lt h2 h1 h'
    omega
  rw [e]
  exact be_fnN o1 n c1 o2 m c2 _ _ (uu_flat L1) (uu_flat L2) h
theorem sub_word {x y b:Nat} (hx:x < 18446744073709551616) (hy:y < 18446744073709551616) (hb:b≤1):(x+18446744073709551616 - y - b)%18446744073709551616+y+b=x+18446744073709551616*(if x < y+b then 1 else 0):=by
  split<;>omega
theorem mi_loop (o1 n c1 o2 m c2:Nat) (L2 post:List Nat) (w2:Wd L2) (hl2:o2+m≤L2.length) (hmn:m≤n) (hn:n < 1125899906842624):∀ (W pre:List Nat) (i bw:Nat),pre.length=o1+i→i+W.length=n→Wd W→bw≤1 →
    ∃ W' bo,W'.length=W.length∧Wd W' ∧ lw W' + lw (win L2 (o2+i) (m - i))+bw=lw W+18446744073709551616^W.length*bo ∧
      Rounds Tryd.prog (loopOf Tryd.f193 0) 0 (mS o1 n c1 o2 m c2 ((pre++(W++post)).map uu) (L2.map uu) i bw) .normal (mS o1 n c1 o2 m c2 ((pre++(W' ++ post)).map uu) (L2.map uu) n bo)
  | [],pre,i,bw,hp,hl,hw,hb=>by
    have hi:i=n:=by simpa using hl
    subst hi
    refine ⟨[],bw,rfl,hw,?_,.stop (mi_end o1 i c1 o2 m c2 bw _ _ (uu_flat _) (uu_flat _))⟩
    rw [show m - i=0 by omega]
    simp [win,lw]
  | x::r,pre,i,bw,hp,hl,hw,hb=>by
    have hlen:i+(r.length+1)=n:=by simpa using hl
    have hx:=at_mid (post:=r++post) (x:=x) hp
    have hx2:=hw x (by simp)
    obtain ⟨y, hy2, hyw, hstep⟩ : ∃ y, y < 18446744073709551616 ∧ lw (win L2 (o2 + i) (m - i)) = y + 18446744073709551616 * lw (win L2 (o2 + (i + 1)) (m - (i + 1))) ∧
        TSpec Tryd.prog (loopOf Tryd.f193 0) (mS o1 n c1 o2 m c2 ((pre++x::(r++post)).map uu) (L2.map uu) i bw) .normal (mS o1 n c1 o2 m c2 (((pre++x::(r++post)).map uu).set (o1+i) (uu ((x+18446744073709551616 - y - bw)%18446744073709551616))) (L2.map uu) (i+1) (if x < y+bw then 1 else 0)):=by
      have hbw:bw=0∨bw=1:=by omega
      by_cases him:i < m
      · refine ⟨L2.getD (o2+i) 0,getD_lt w2 (by omega),?_,?_⟩
        · rw [win_cons (by omega) (by omega),lw]
          rfl
        have hy:=uget (X:=L2) (i:=o2+i) (by omega)
        rcases hbw with rfl | rfl
        · exact mi_y0 o1 n c1 o2 m c2 i x _ _ _ (uu_flat _) (uu_flat _) hn (by omega) hx him hy
        exact mi_y1 o1 n c1 o2 m c2 i x _ _ _ (uu_flat _) (uu_flat _) hn (by omega) hx him hy
      refine ⟨0,by omega,?_,?_⟩
      · rw [show m - i=0 by omega,show m - (i+1)=0 by omega]
        simp [win,lw]
      rcases hbw with rfl | rfl
      · exact mi_n0 o1 n c1 o2 m c2 i x _ _ _ (uu_flat _) (uu_flat _) hn (by omega) hx him rfl
      exact mi_n1 o1 n c1 o2 m c2 i x _ _ _ (uu_flat _) (uu_flat _) hn (by omega) hx him rfl
    have hD:=sub_word hx2 hy2 hb
    generalize hb':(if x < y+bw then 1 else 0)=b' at hD hstep
    have hb1:b' ≤ 1:=by rw [← hb']; split<;>omega
    generalize hd:(x+18446744073709551616 - y - bw)%18446744073709551616=D at hD hstep
    have hD2:D < 18446744073709551616:=by rw [← hd]; exact Nat.mod_lt _ (by decide)
    rw [set_mid hp] at hstep
    obtain ⟨W',bo,h1,h2,h3,h4⟩:=mi_loop o1 n c1 o2 m c2 L2 post w2 hl2 hmn hn r (pre++[D]) (i+1) b' (by simp; omega) (by omega) (fun z hz=>hw z (List.mem_cons_of_mem _ hz)) hb1
    refine ⟨D::W',bo,by simp [h1],fun z hz=>?_,?_,.step hstep (by simpa using h4)⟩
    · rcases List.mem_cons.1 hz with rfl | hz
      · exact hD2
      exact h2 z hz
    rw [hyw,lw,lw,List.length_cons,Nat.pow_succ,Nat.mul_comm (18446744073709551616^r.length),Nat.mul_assoc]
    generalize 18446744073709551616^r.length*bo=P at h3 ⊢
    omega
theorem minus_spec {L1 L2:List Nat} {o1 n c1 v o2 m c2 u:Nat} (h1:Nm L1 o1 n c1 v) (h2:Nm L2 o2 m c2 u) (hn:n < 1125899906842624) (huv:u≤v) :
    ∃ L' k,k≤n∧L'.length=L1.length∧Nm L' o1 k c1 (v - u)∧FSpec Tryd.prog 193 [.sl 0 o1 n c1,.sl 1 o2 m c2] [some ⟨true,L1.map uu⟩,some ⟨true,L2.map uu⟩] (.sl 0 o1 k c1) [some ⟨true,L'.map uu⟩,some ⟨true,L2.map uu⟩]:=by
  have hmn:m≤n:=by
    rcases Nat.lt_or_ge n m with h | h
    · have:=nm_len_lt h1 h2 h
      omega
    exact h
  have hw:=h1.1
  have hl:=h1.2.1
  have hv:=h1.2.2.2.1
  have hu:=h2.2.2.2.1
  have hsp:=win_split L1 o1 n
  have htl:(L1.take o1).length=o1:=by simp; omega
  obtain ⟨W',bo,w1,w2,w3,w4⟩:=mi_loop o1 n c1 o2 m c2 L2 (L1.drop (o1+n)) h2.1 h2.2.1 hmn hn (win L1 o1 n) (L1.take o1) 0 0 (by omega) (by rw [win_len hl]; omega) (win_wd hw) (by omega)
  rw [← hsp] at w4
  rw [win_len hl] at w1 w3
  simp only [Nat.add_zero,Nat.sub_zero] at w3
  rw [hu,hv] at w3
  have hlt:=lw_lt w2
  rw [w1] at hlt
  have hbo:bo=0:=by
    rcases Nat.eq_zero_or_pos bo with h | h
    · exact h
    have:=Nat.mul_le_mul_left (18446744073709551616^n) h
    omega
  rw [hbo,Nat.mul_zero] at w3
  have hwd:Wd (L1.take o1++(W' ++ L1.drop (o1+n))):=fun x hx=>by
    rcases List.mem_append.1 hx with hx | hx
    · exact hw x (List.mem_of_mem_take hx)
    rcases List.mem_append.1 hx with hx | hx
    · exact w2 x hx
    exact hw x (List.mem_of_mem_drop hx)
  have hlen:(L1.take o1++(W' ++ L1.drop (o1+n))).length=L1.length:=by
    simp [w1]; omega
  obtain ⟨k,k1,k2,k3⟩:=cut_nm true hwd (off:=o1) (n:=n) (c:=c1) (by omega) h1.2.2.1 hn
  have hwin:win (L1.take o1++(W' ++ L1.drop (o1+n))) o1 n=W':=by
    have:=win_mid (L1.take o1) W' (L1.drop (o1+n))
    rwa [htl,w1] at this
  rw [hwin] at k2
  have hval:lw W' = v - u:=by omega
  rw [hval] at k2
  refine ⟨_,k,k1,hlen,k2,?_⟩
  exact mi_fn o1 n c1 o2 m c2 k bo _ _ _ (uu_flat L1) (uu_flat L2) (uu_flat _) (FSpec.embed [0] k3 (by kernel_rfl) (by kernel_rfl) (uflat _ _) (uflat _ _)) w4.spec
end Go.Proofs.YtkpeembfagcpcaaDoor.G
