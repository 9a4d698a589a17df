import Derived.Test.YtkpeembfagcpcaaDoorYGA
import Derived.Test.YtkpeembfagcpcaaDoorYGT
namespace Go.Proofs.YtkpeembfagcpcaaDoor.G
open Go.Proofs.YtkpeembfagcpcaaDoor.U
set_option linter.unusedVariables false
set_option maxRecDepth 100000
def lw:List Nat→Nat
  | []=>0
  | x::r=>x+18446744073709551616*lw r
def Tz (v t:Nat):Prop:=∃ m,v=2^t*(2*m+1)
def Wd (X:List Nat):Prop:=∀ x∈X,x < 18446744073709551616
def win (X:List Nat) (off n:Nat):List Nat:=(X.drop off).take n
theorem tz_ctz {x:Nat} (h0:x≠0) (hx:x < 18446744073709551616):Tz x (Lib.ctz 64 x)∧Lib.ctz 64 x < 64:=by
  obtain ⟨m,hm,hk⟩:=Lib.ctzFrom_spec 64 x (by omega) hx
  have e:Lib.ctz 64 x=Lib.ctzFrom 64 x:=by simp [Lib.ctz,h0]
  exact ⟨⟨m,by rw [e]; exact hm⟩,by rw [e]; exact hk⟩
theorem tz_low {x t v:Nat} (ht:t < 64) (h:Tz x t):Tz (x+18446744073709551616*v) t:=by
  obtain ⟨m,rfl⟩:=h
  obtain ⟨d,hd⟩:∃ d,64=t+(d+1):=⟨63 - t,by omega⟩
  refine ⟨m+2^d*v,?_⟩
  rw [show (18446744073709551616:Nat)=2^64 by decide,hd,Nat.pow_add,Nat.pow_succ,Nat.mul_assoc,← Nat.mul_add]
  congr 1
  rw [Nat.mul_add,Nat.mul_comm (2^d) 2,Nat.mul_assoc]
  omega
theorem tz_up {v t:Nat} (h:Tz v t):Tz (0+18446744073709551616*v) (64+t):=by
  obtain ⟨m,rfl⟩:=h
  refine ⟨m,?_⟩
  rw [Nat.pow_add,show (2:Nat)^64=18446744073709551616 by decide,Nat.zero_add,Nat.mul_assoc]
def evS (off n c:Nat) (b:Bool) (X:List Nat) (k:Nat):St:=⟨[.sl 0 off n c,.any,.any,.c (.int .i64 (k:Nat))]++List.replicate 15 .any,[some ⟨b,X.map uu⟩]⟩
theorem ev_go (off n c:Nat) (b:Bool) (X:List Nat) (k x:Nat) (hn:k < n) (hb:n < 1125899906842624) (hx:(X.map uu)[off+k]? = some (uu x)) (h0:x=0):TSpec Tryd.prog (loopOf Tryd.f190 0) (evS off n c b X k) (Ex.normal) (evS off n c b X (k+1)) :=
  tspec_dim (sc:=[(2,2,.is (.p 0 (off+k))),(2,3,.fix (.int .u64 (x:Nat))),(2,4,.is (.c (.bool true))),(3,1,.is (.c (.int .i64 (k+1:Nat))))]) (sb:=[]) (obs:=[Ob.prop (V.p 0 (off+Int.toNat (↑k:Int)*1)=V.p 0 (off+k)),Ob.prop ((0:Int)≤(↑k:Int)∧(↑k:Int) < (↑n:Int)),Ob.prop ((List.map uu X)[off+k]? = some (vU ↑x)),Ob.prop (V.c (Value.bool ((↑x:Int)==(0:Int)))=vT),Ob.prop (vI (IntKind.wrap .i64 ((↑k:Int)+(1:Int)))=vI (↑(k+1):Int))]) [true,false,false,true] 1 (by kernel_rfl) (hP zV (hP zV (hP hx (hP zV (hP zV hN))))) (uflat b X)
theorem ev_stop (off n c:Nat) (b:Bool) (X:List Nat) (k x:Nat) (hn:k < n) (hb:n < 1125899906842624) (hx:(X.map uu)[off+k]? = some (uu x)) (h0:x≠0):TSpec Tryd.prog (loopOf Tryd.f190 0) (evS off n c b X k) (Ex.exit 0) (evS off n c b X k) :=
  tspec_dim (sc:=[(2,2,.is (.p 0 (off+k))),(2,3,.fix (.int .u64 (x:Nat))),(2,4,.is (.c (.bool false)))]) (sb:=[]) (obs:=[Ob.prop (V.p 0 (off+Int.toNat (↑k:Int)*1)=V.p 0 (off+k)),Ob.prop ((0:Int)≤(↑k:Int)∧(↑k:Int) < (↑n:Int)),Ob.prop ((List.map uu X)[off+k]? = some (vU ↑x)),Ob.prop (V.c (Value.bool ((↑x:Int)==(0:Int)))=vF)]) [true,false,false,true] 1 (by kernel_rfl) (hP zV (hP zV (hP hx (hP zV hN)))) (uflat b X)
theorem ev_fnt (off n c:Nat) (X:List Nat) (k x z:Nat) (hn:k < n) (hb:n < 1125899906842624) (hx:(X.map uu)[off+k]? = some (uu x)) (hz:z < 64) (ht:CSpec Tryd.prog 209 #[.int .u64 (x:Int)] (.int .i64 (z:Nat))) (h:TSpec Tryd.prog (.block 0 (.loop (loopOf Tryd.f190 0))) (evS off n c true X 0) .normal (evS off n c true X k)):FSpec Tryd.prog 190 [.sl 0 off n c] [some ⟨true,X.map uu⟩] (vI (↑(64*k+z):Int)) [some ⟨true,X.map uu⟩] :=
  fspec_ok Tryd.func190 (sc:=[(4,1,.is (.c (.int .i64 (64*k:Nat)))),(4,4,.is (.p 0 (off+k))),(4,5,.fix (.int .u64 (x:Nat))),(4,6,.fix (.int .i64 (z:Nat))),(4,7,.is (.c (.int .i64 (64*k+z:Nat))))]) (sb:=[(0,.normal,evS off n c true X k)]) (keep:=[]) (obs:=[Ob.prop (Flat ([some ⟨true,X.map uu⟩]:List (Option Row))),Ob.prop (TSpec Tryd.prog (Code.block 0 (Code.loop (loopOf Tryd.f190 0))) ({ t:=[V.sl 0 off n c,V.c (Value.tuple { toList:=[] }),vI (0:Int),vI (0:Int),V.c (Value.tuple { toList:=[] }),V.c (Value.tuple { toList:=[] }),V.c (Value.tuple { toList:=[] }),V.c (Value.tuple { toList:=[] }),V.c (Value.tuple { toList:=[] }),V.c (Value.tuple { toList:=[] }),V.c (Value.tuple { toList:=[] }),V.c (Value.tuple { toList:=[] }),V.c (Value.tuple { toList:=[] }),V.c (Value.tuple { toList:=[] }),V.c (Value.tuple { toList:=[] }),V.c (Value.tuple { toList:=[] }),V.c (Value.tuple { toList:=[] }),V.c (Value.tuple { toList:=[] }),V.c (Value.tuple { toList:=[] })],m:=[some { own:=true,cells:=List.map uu X }] }) (Ex.normal) (evS off n c true X k)),Ob.prop (vI (IntKind.wrap .i64 ((64:Int)*(↑k:Int)))=vI (↑(64*k):Int)),Ob.prop (V.p 0 (off+Int.toNat (↑k:Int)*1)=V.p 0 (off+k)),Ob.prop ((0:Int)≤(↑k:Int)∧(↑k:Int) < (↑n:Int)),Ob.prop ((List.map uu X)[off+k]? = some (vU ↑x)),Ob.call 209 { toList:=[Value.int IntKind.u64 (↑x:Int)] } (Value.int IntKind.i64 (↑z:Int)),Ob.prop (vI (IntKind.wrap .i64 ((↑(64*k):Int)+(↑z:Int)))=vI (↑(64*k+z):Int))]) (by kernel_rfl) (hP (uflat true X) (hP (TSpec.from [true,false,false,true] h (by kernel_rfl) (by kernel_rfl) (uflat true X)) (hP zV (hP zV (hP zV (hP hx (hC ht (hP zV hN))))))))
theorem ev_fnf (off n c:Nat) (X:List Nat) (k x z:Nat) (hn:k < n) (hb:n < 1125899906842624) (hx:(X.map uu)[off+k]? = some (uu x)) (hz:z < 64) (ht:CSpec Tryd.prog 209 #[.int .u64 (x:Int)] (.int .i64 (z:Nat))) (h:TSpec Tryd.prog (.block 0 (.loop (loopOf Tryd.f190 0))) (evS off n c false X 0) .normal (evS off n c false X k)):FSpec Tryd.prog 190 [.sl 0 off n c] [some ⟨false,X.map uu⟩] (vI (↑(64*k+z):Int)) [some ⟨false,X.map uu⟩] :=
  fspec_ok Tryd.func190 (sc:=[(4,1,.is (.c (.int .i64 (64*k:Nat)))),(4,4,.is (.p 0 (off+k))),(4,5,.fix (.int .u64 (x:Nat))),(4,6,.fix (.int .i64 (z:Nat))),(4,7,.is (.c (.int .i64 (64*k+z:Nat))))]) (sb:=[(0,.normal,evS off n c false X k)]) (keep:=[]) (obs:=[Ob.prop (Flat ([some ⟨false,X.map uu⟩]:List (Option Row))),Ob.prop (TSpec Tryd.prog (Code.block 0 (Code.loop (loopOf Tryd.f190 0))) ({ t:=[V.sl 0 off n c,V.c (Value.tuple { toList:=[] }),vI (0:Int),vI (0:Int),V.c (Value.tuple { toList:=[] }),V.c (Value.tuple { toList:=[] }),V.c (Value.tuple { toList:=[] }),V.c (Value.tuple { toList:=[] }),V.c (Value.tuple { toList:=[] }),V.c (Value.tuple { toList:=[] }),V.c (Value.tuple { toList:=[] }),V.c (Value.tuple { toList:=[] }),V.c (Value.tuple { toList:=[] }),V.c (Value.tuple { toList:=[] }),V.c (Value.tuple { toList:=[] }),V.c (Value.tuple { toList:=[] }),V.c (Value.tuple { toList:=[] }),V.c (Value.tuple { toList:=[] }),V.c (Value.tuple { toList:=[] })],m:=[some { own:=false,cells:=List.map uu X }] }) (Ex.normal) (evS off n c false X k)),Ob.prop (vI (IntKind.wrap .i64 ((64:Int)*(↑k:Int)))=vI (↑(64*k):Int)),Ob.prop (V.p 0 (off+Int.toNat (↑k:Int)*1)=V.p 0 (off+k)),Ob.prop ((0:Int)≤(↑k:Int)∧(↑k:Int) < (↑n:Int)),Ob.prop ((List.map uu X)[off+k]? = some (vU ↑x)),Ob.call 209 { toList:=[Value.int IntKind.u64 (↑x:Int)] } (Value.int IntKind.i64 (↑z:Int)),Ob.prop (vI (IntKind.wrap .i64 ((↑(64*k):Int)+(↑z:Int)))=vI (↑(64*k+z):Int)) ]) (by kernel_rfl) (hP (uflat false X) (hP (TSpec.from [true,false,false,true] h (by kernel_rfl) (by kernel_rfl) (uflat false X)) (hP zV (hP zV (hP zV (hP hx (hC ht (hP zV hN))))))))
theorem ev_loop (off n c:Nat) (b:Bool) (X:List Nat) (hb:n < 1125899906842624) (hl:off+n≤X.length):∀ (r k:Nat),r=n - k→lw (win X (off+k) (n - k))≠0 →
    ∃ k',k≤k' ∧ k' < n∧X.getD (off+k') 0≠0∧(∀ t,t < 64→Tz (X.getD (off+k') 0) t→Tz (lw (win X (off+k) (n - k))) (64*(k' - k)+t))∧Rounds Tryd.prog (loopOf Tryd.f190 0) 0 (evS off n c b X k) .normal (evS off n c b X k'):=by
  intro r
  induction r with
  | zero =>
    intro k hr h
    rw [← hr] at h
    exact (h (by simp [win,lw])).elim
  | succ r ih =>
    intro k hr h
    have hk:off+k < X.length:=by omega
    have hw:win X (off+k) (n - k)=X.getD (off+k) 0::win X (off+(k+1)) (n - (k+1)):=by
      unfold win
      rw [List.drop_eq_getElem_cons hk,← hr,List.take_succ_cons,List.getD_eq_getElem?_getD,List.getElem?_eq_getElem hk]
      simp only [Option.getD_some]
      congr 2
      omega
    have hx:=uget hk
    by_cases h0:X.getD (off+k) 0=0
    · rw [hw,lw,h0] at h
      obtain ⟨k',h1,h2,h3,h4,h5⟩:=ih (k+1) (by omega) (by omega)
      refine ⟨k',by omega,h2,h3,fun t ht htz=>?_,.step (ev_go off n c b X k _ (by omega) hb hx h0) h5⟩
      rw [hw,lw,h0,show 64*(k' - k)+t=64+(64*(k' - (k+1))+t) by omega]
      exact tz_up (h4 t ht htz)
    refine ⟨k,Nat.le_refl _,by omega,h0,fun t ht htz=>?_,.stop (ev_stop off n c b X k _ (by omega) hb hx h0)⟩
    rw [hw,lw,show 64*(k - k)+t=t by omega]
    exact tz_low ht htz
theorem evens_spec (off n c:Nat) (b:Bool) (X:List Nat) (hw:Wd X) (hb:n < 1125899906842624) (hl:off+n≤X.length) (h0:lw (win X off n)≠0) :
    ∃ t,t < 64*n∧Tz (lw (win X off n)) t∧FSpec Tryd.prog 190 [.sl 0 off n c] [some ⟨b,X.map uu⟩] (.c (.int .i64 (t:Nat))) [some ⟨b,X.map uu⟩]:=by
  obtain ⟨k,_,hk,hx,htz,hloop⟩:=ev_loop off n c b X hb hl n 0 (by omega) h0
  have hkl:off+k < X.length:=by omega
  have hx64:X.getD (off+k) 0 < 18446744073709551616:=by
    rw [List.getD_eq_getElem?_getD,List.getElem?_eq_getElem hkl]
    exact hw _ (List.getElem_mem hkl)
  obtain ⟨hz,hz64⟩:=tz_ctz hx hx64
  refine ⟨64*k+Lib.ctz 64 (X.getD (off+k) 0),by omega,htz _ hz64 hz,?_⟩
  cases b with
  | true=>exact ev_fnt off n c X k _ _ hk hb (uget hkl) hz64 (tz_spec _ hx64 hx) hloop.spec
  | false=>exact ev_fnf off n c X k _ _ hk hb (uget hkl) hz64 (tz_spec _ hx64 hx) hloop.spec
end Go.Proofs.YtkpeembfagcpcaaDoor.G
