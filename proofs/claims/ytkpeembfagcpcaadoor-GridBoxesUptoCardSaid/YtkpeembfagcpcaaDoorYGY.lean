import Derived.Test.YtkpeembfagcpcaaDoorYGX
import Derived.Test.YtkpeembfagcpcaaDoorYRA
import Derived.Test.YtkpeembfagcpcaaDoorYU6
namespace Go.Proofs.YtkpeembfagcpcaaDoor.G
open Go.Proofs.YtkpeembfagcpcaaDoor.U Go.RowKit
set_option linter.unusedVariables false
set_option maxRecDepth 100000
theorem gI {x y:Int} (h:x=y):V.c (.int .i64 x)=V.c (.int .i64 y):=by rw [h]
theorem flv_b (x:Rat):-9223372036854775807≤flv x∧flv x≤9223372036854775807:=by
  unfold flv
  split
  · rename_i h
    unfold FlOk at h
    omega
  omega
theorem on1 {n:Int}  (h0:decide ((-64:Int)≤n)=true):CSpec Tryd.prog 116 #[(.int .i64 n)] (.bool (decide (n < (64:Int)))):=by
  exact fn_ok Tryd.func116 (sc:=[(1,1,.is (.c (.bool true)))]) (sb:=[]) (by kernel_rfl) (hP (isB h0) hN)
theorem on2 {n:Int}  (h0:decide ((-64:Int)≤n)=false):CSpec Tryd.prog 116 #[(.int .i64 n)] (.bool false):=by
  exact fn_ok Tryd.func116 (sc:=[(1,1,.is (.c (.bool false)))]) (sb:=[]) (by kernel_rfl) (hP (isB h0) hN)
theorem on_k {n:Int}:CSpec Tryd.prog 116 #[.int .i64 n] (.bool (onG n)):=by
  unfold onG
  by_cases h:-64≤n
  · rw [decide_eq_true h,Bool.true_and]
    exact on1 (decide_eq_true h)
  rw [decide_eq_false h,Bool.false_and]
  exact on2 (decide_eq_false h)
theorem sides1 {n1:Bool} {a1 b1:ByteArray}{n2:Bool} {a2 b2:ByteArray}{l h:Rat} {K:Nat} (h1':IsR n1 a1 b1 l K) (h2':IsR n2 a2 b2 h K) (k1:K≤100000000) (h2:decide (fle h=(0:Int))=false):CSpec Tryd.prog 53 #[(rv n1 a1 b1),(rv n2 a2 b2)] (.tuple #[.int .i64 (sF l),.int .i64 (flv h),.bool false]):=by
  have s0:=(neg_s (szr h1'))
  have s1:=(isR_s s0)
  exact fn_ok Tryd.func53 (sc:=[(1,1,.fix (.tuple #[.int .i64 (flv h),.int .i64 (fle h)])),(2,1,.fix (Rv (-l))),(2,2,.fix (.tuple #[.int .i64 (flv (-l)),.int .i64 (fle (-l))])),(3,1,.is (.c (.int .i64 (-flv (-l))))),(3,2,.is (.c (.int .i64 (sF l)))),(4,3,.is (.c (.bool false)))]) (sb:=[]) (by kernel_rfl) (hC (floor_k h2' (by omega)) (hC (neg_k h1' (by omega)) (hC (floor_k s1 (by omega)) (hP (show V.c (Value.int .i64 (IntKind.wrap .i64 ((0:Int) - flv (-l)))) = .c (.int .i64 (-flv (-l))) from (gI (by rw [IntKind.wrap_i64]; have:=flv_b (-l); omega))) (hP (show V.c (Value.int .i64 (IntKind.wrap .i64 (-flv (-l) - (1:Int)))) = .c (.int .i64 (sF l)) from (gI (by rw [IntKind.wrap_i64]; unfold sF; have:=flv_b (-l); omega))) (hP (isB h2) hN))))))
theorem sides2 {n1:Bool} {a1 b1:ByteArray}{n2:Bool} {a2 b2:ByteArray}{l h:Rat} {K:Nat} (h1':IsR n1 a1 b1 l K) (h2':IsR n2 a2 b2 h K) (k1:K≤100000000) (h2:decide (fle h=(0:Int))=true) (h3:decide (fle (-l)=(0:Int))=false):CSpec Tryd.prog 53 #[(rv n1 a1 b1),(rv n2 a2 b2)] (.tuple #[.int .i64 (sF l),.int .i64 (flv h),.bool false]):=by
  have s0:=(neg_s (szr h1'))
  have s1:=(isR_s s0)
  exact fn_ok Tryd.func53 (sc:=[(1,1,.fix (.tuple #[.int .i64 (flv h),.int .i64 (fle h)])),(2,1,.fix (Rv (-l))),(2,2,.fix (.tuple #[.int .i64 (flv (-l)),.int .i64 (fle (-l))])),(3,1,.is (.c (.int .i64 (-flv (-l))))),(3,2,.is (.c (.int .i64 (sF l)))),(4,3,.is (.c (.bool true))),(4,6,.is (.c (.bool false)))]) (sb:=[]) (by kernel_rfl) (hC (floor_k h2' (by omega)) (hC (neg_k h1' (by omega)) (hC (floor_k s1 (by omega)) (hP (show V.c (Value.int .i64 (IntKind.wrap .i64 ((0:Int) - flv (-l)))) = .c (.int .i64 (-flv (-l))) from (gI (by rw [IntKind.wrap_i64]; have:=flv_b (-l); omega))) (hP (show V.c (Value.int .i64 (IntKind.wrap .i64 (-flv (-l) - (1:Int)))) = .c (.int .i64 (sF l)) from (gI (by rw [IntKind.wrap_i64]; unfold sF; have:=flv_b (-l); omega))) (hP (isB h2) (hP (isB h3) hN)))))))
theorem sides3 {n1:Bool} {a1 b1:ByteArray}{n2:Bool} {a2 b2:ByteArray}{l h:Rat} {K:Nat} (h1':IsR n1 a1 b1 l K) (h2':IsR n2 a2 b2 h K) (k1:K≤100000000) (h2:decide (fle h=(0:Int))=true) (h3:decide (fle (-l)=(0:Int))=true) (h4:onG (sF l)=false):CSpec Tryd.prog 53 #[(rv n1 a1 b1),(rv n2 a2 b2)] (.tuple #[.int .i64 (sF l),.int .i64 (flv h),.bool false]):=by
  have s0:=(neg_s (szr h1'))
  have s1:=(isR_s s0)
  exact fn_ok Tryd.func53 (sc:=[(1,1,.fix (.tuple #[.int .i64 (flv h),.int .i64 (fle h)])),(2,1,.fix (Rv (-l))),(2,2,.fix (.tuple #[.int .i64 (flv (-l)),.int .i64 (fle (-l))])),(3,1,.is (.c (.int .i64 (-flv (-l))))),(3,2,.is (.c (.int .i64 (sF l)))),(4,3,.is (.c (.bool true))),(4,6,.is (.c (.bool true))),(4,10,.fix (.bool false))]) (sb:=[]) (by kernel_rfl) (hC (floor_k h2' (by omega)) (hC (neg_k h1' (by omega)) (hC (floor_k s1 (by omega)) (hP (show V.c (Value.int .i64 (IntKind.wrap .i64 ((0:Int) - flv (-l)))) = .c (.int .i64 (-flv (-l))) from (gI (by rw [IntKind.wrap_i64]; have:=flv_b (-l); omega))) (hP (show V.c (Value.int .i64 (IntKind.wrap .i64 (-flv (-l) - (1:Int)))) = .c (.int .i64 (sF l)) from (gI (by rw [IntKind.wrap_i64]; unfold sF; have:=flv_b (-l); omega))) (hP (isB h2) (hP (isB h3) (hC (cbool (on_k (n:=sF l)) h4) hN))))))))
theorem sides4 {n1:Bool} {a1 b1:ByteArray}{n2:Bool} {a2 b2:ByteArray}{l h:Rat} {K:Nat} (h1':IsR n1 a1 b1 l K) (h2':IsR n2 a2 b2 h K) (k1:K≤100000000) (h2:decide (fle h=(0:Int))=true) (h3:decide (fle (-l)=(0:Int))=true) (h4:onG (sF l)=true):CSpec Tryd.prog 53 #[(rv n1 a1 b1),(rv n2 a2 b2)] (.tuple #[.int .i64 (sF l),.int .i64 (flv h),.bool (onG (flv h))]):=by
  have s0:=(neg_s (szr h1'))
  have s1:=(isR_s s0)
  exact fn_ok Tryd.func53 (sc:=[(1,1,.fix (.tuple #[.int .i64 (flv h),.int .i64 (fle h)])),(2,1,.fix (Rv (-l))),(2,2,.fix (.tuple #[.int .i64 (flv (-l)),.int .i64 (fle (-l))])),(3,1,.is (.c (.int .i64 (-flv (-l))))),(3,2,.is (.c (.int .i64 (sF l)))),(4,3,.is (.c (.bool true))),(4,6,.is (.c (.bool true))),(4,10,.fix (.bool true)),(4,14,.fix (.bool (onG (flv h))))]) (sb:=[]) (by kernel_rfl) (hC (floor_k h2' (by omega)) (hC (neg_k h1' (by omega)) (hC (floor_k s1 (by omega)) (hP (show V.c (Value.int .i64 (IntKind.wrap .i64 ((0:Int) - flv (-l)))) = .c (.int .i64 (-flv (-l))) from (gI (by rw [IntKind.wrap_i64]; have:=flv_b (-l); omega))) (hP (show V.c (Value.int .i64 (IntKind.wrap .i64 (-flv (-l) - (1:Int)))) = .c (.int .i64 (sF l)) from (gI (by rw [IntKind.wrap_i64]; unfold sF; have:=flv_b (-l); omega))) (hP (isB h2) (hP (isB h3) (hC (cbool (on_k (n:=sF l)) h4) (hC (on_k (n:=flv h)) hN)))))))))
theorem fle_0 {x:Rat}:decide (fle x=0)=decide (FlOk x):=by
  unfold fle
  split
  · rename_i h
    rw [decide_eq_true h]; rfl
  rename_i h
  rw [decide_eq_false h]; rfl
theorem sides_k {n1:Bool} {a1 b1:ByteArray}{n2:Bool} {a2 b2:ByteArray}{l h:Rat} {K:Nat} (h1':IsR n1 a1 b1 l K) (h2':IsR n2 a2 b2 h K) (k1:K≤100000000):CSpec Tryd.prog 53 #[rv n1 a1 b1,rv n2 a2 b2] (.tuple #[.int .i64 (sF l),.int .i64 (flv h),.bool (sO l h)]):=by
  unfold sO
  cases e1:decide (FlOk h) with
  | false=>exact sides1 h1' h2' k1 (fle_0.trans e1)
  | true =>
    cases e2:decide (FlOk (-l)) with
    | false=>exact sides2 h1' h2' k1 (fle_0.trans e1) (fle_0.trans e2)
    | true =>
      cases e3:onG (sF l) with
      | false=>exact sides3 h1' h2' k1 (fle_0.trans e1) (fle_0.trans e2) e3
      | true=>exact sides4 h1' h2' k1 (fle_0.trans e1) (fle_0.trans e2) e3
def ic (q:List Int):List V:=q.map fun x=>V.c (.int .i64 x)
theorem ic_f {q:List Int}:(ic q).all V.isC=true:=by simp [ic,V.isC]
theorem ic_ap {q:List Int} {x:Int}:appB (ic q) [.c (.int .i64 x)] q.length 1 1=true:=by simp [appB,ic,V.isC,one]
theorem ic_snoc {q:List Int} {x:Int}:ic q++[.c (.int .i64 x)]=ic (q++[x]):=by simp [ic]
theorem kl_s {k:Nat}:-9223372036854775808≤(k:Int) - 64:=by omega
theorem ku_s {k:Nat} (h:k≤1000):(k:Int) - 64≤9223372036854775807:=by omega
def clN (F1 F2:List V) (k:Nat):St:=⟨slots 40 0 [(2,.p 0 0),(3,.p 1 0),(6,.c (.slice none 0 0)),(7,.c (.int .i64 ((k:Int) - 64)))],[some ⟨true,F1⟩,some ⟨true,F2⟩]⟩
def clR (F1 F2 Q:List V) (n k:Nat):St:=⟨slots 40 0 [(2,.p 0 0),(3,.p 1 0),(6,.sd 2 n 1),(7,.c (.int .i64 ((k:Int) - 64)))],[some ⟨true,F1⟩,some ⟨true,F2⟩,some ⟨true,Q⟩]⟩
theorem cl_a {n1:Bool} {a1 b1:ByteArray}{n2:Bool} {a2 b2:ByteArray}{l h:Rat} {K:Nat} {q:List Int} {k:Nat} (h1':IsR n1 a1 b1 l K) (h2':IsR n2 a2 b2 h K) (k1:K≤100000000) (hk:k≤127) (h0:decide ((↑k:Int) - (64:Int) < (64:Int))=true) (h5:decide (cmpR (↑((↑k:Int) - (64:Int)):Rat) h≤(0:Int))=true) (h10:decide ((0:Int)≤cmpR (↑((↑(k+(1:Nat)):Int) - (64:Int)):Rat) l)=true):TSpecN Tryd.prog 2 (loopOf Tryd.f55 0) (clN (nv [rr n1 a1 b1]) (nv [rr n2 a2 b2]) k) (.normal) (clR (nv [rr n1 a1 b1]) (nv [rr n2 a2 b2]) [.c (.int .i64 ((k:Int) - 64))] 1 (k+1)):=by
  have s1:=(kl_s (k:=k))
  have s2:=(ku_s (k:=k) (by omega))
  have s3:=(int_s (n:=(↑k:Int) - (64:Int)) (by omega))
  have s4:=(isR_s s3)
  have s6:=(kl_s (k:=k+(1:Nat)))
  have s7:=(ku_s (k:=k+(1:Nat)) (by omega))
  have s8:=(int_s (n:=(↑(k+(1:Nat)):Int) - (64:Int)) (by omega))
  have s9:=(isR_s s8)
  exact tspecN_ren (mask 40 0 [2,3,6,7]) 2 [3] (sc:=[(3,1,.is (.c (.bool true))),(5,1,.fix (Rv ((↑((↑k:Int) - (64:Int)):Rat)))),(5,3,.fix (.int .i64 (cmpR (↑((↑k:Int) - (64:Int)):Rat) h))),(5,4,.is (.c (.bool true))),(5,7,.is (.c (.int .i64 ((↑(k+(1:Nat)):Int) - (64:Int))))),(5,8,.fix (Rv ((↑((↑(k+(1:Nat)):Int) - (64:Int)):Rat)))),(5,10,.fix (.int .i64 (cmpR (↑((↑(k+(1:Nat)):Int) - (64:Int)):Rat) l))),(5,11,.is (.c (.bool true))),(6,3,.app),(4,1,.is (.c (.int .i64 ((↑(k+(1:Nat)):Int) - (64:Int)))))]) (sb:=[]) (by kernel_rfl) (hP (isB h0) (hC (ri_k s1 s2) (hC (cmp_k s4 h2' (by omega)) (hP (isB h5) (hP (show V.c (Value.int .i64 (IntKind.wrap .i64 ((↑k:Int) - (64:Int)+(1:Int)))) = .c (.int .i64 ((↑(k+(1:Nat)):Int) - (64:Int))) from (gI (by rw [IntKind.wrap_i64]; omega))) (hC (ri_k s6 s7) (hC (cmp_k s9 h1' (by omega)) (hP (isB h10) (hP (Eq.refl true) (hP (show (1:Nat)≤(9223372036854775807:Nat)∧(8:Nat)≤(140737488355328:Nat) by decide) (hP (show V.c (Value.int .i64 (IntKind.wrap .i64 ((↑k:Int) - (64:Int)+(1:Int)))) = .c (.int .i64 ((↑(k+(1:Nat)):Int) - (64:Int))) from (gI (by rw [IntKind.wrap_i64]; omega))) hN))))))))))) (flk flnv (flk flnv (flk rfl trivial)))
theorem cl_b {n1:Bool} {a1 b1:ByteArray}{n2:Bool} {a2 b2:ByteArray}{l h:Rat} {K:Nat} {q:List Int} {k:Nat} (h1':IsR n1 a1 b1 l K) (h2':IsR n2 a2 b2 h K) (k1:K≤100000000) (hk:k≤127) (h0:decide ((↑k:Int) - (64:Int) < (64:Int))=true) (h5:decide (cmpR (↑((↑k:Int) - (64:Int)):Rat) h≤(0:Int))=true) (h10:decide ((0:Int)≤cmpR (↑((↑(k+(1:Nat)):Int) - (64:Int)):Rat) l)=false):TSpecN Tryd.prog 2 (loopOf Tryd.f55 0) (clN (nv [rr n1 a1 b1]) (nv [rr n2 a2 b2]) k) (.normal) (clN (nv [rr n1 a1 b1]) (nv [rr n2 a2 b2]) (k+1)):=by
  have s1:=(kl_s (k:=k))
  have s2:=(ku_s (k:=k) (by omega))
  have s3:=(int_s (n:=(↑k:Int) - (64:Int)) (by omega))
  have s4:=(isR_s s3)
  have s6:=(kl_s (k:=k+(1:Nat)))
  have s7:=(ku_s (k:=k+(1:Nat)) (by omega))
  have s8:=(int_s (n:=(↑(k+(1:Nat)):Int) - (64:Int)) (by omega))
  have s9:=(isR_s s8)
  exact tspecN_ren (mask 40 0 [2,3,6,7]) 2 [] (sc:=[(3,1,.is (.c (.bool true))),(5,1,.fix (Rv ((↑((↑k:Int) - (64:Int)):Rat)))),(5,3,.fix (.int .i64 (cmpR (↑((↑k:Int) - (64:Int)):Rat) h))),(5,4,.is (.c (.bool true))),(5,7,.is (.c (.int .i64 ((↑(k+(1:Nat)):Int) - (64:Int))))),(5,8,.fix (Rv ((↑((↑(k+(1:Nat)):Int) - (64:Int)):Rat)))),(5,10,.fix (.int .i64 (cmpR (↑((↑(k+(1:Nat)):Int) - (64:Int)):Rat) l))),(5,11,.is (.c (.bool false))),(4,1,.is (.c (.int .i64 ((↑(k+(1:Nat)):Int) - (64:Int)))))]) (sb:=[]) (by kernel_rfl) (hP (isB h0) (hC (ri_k s1 s2) (hC (cmp_k s4 h2' (by omega)) (hP (isB h5) (hP (show V.c (Value.int .i64 (IntKind.wrap .i64 ((↑k:Int) - (64:Int)+(1:Int)))) = .c (.int .i64 ((↑(k+(1:Nat)):Int) - (64:Int))) from (gI (by rw [IntKind.wrap_i64]; omega))) (hC (ri_k s6 s7) (hC (cmp_k s9 h1' (by omega)) (hP (isB h10) (hP (show V.c (Value.int .i64 (IntKind.wrap .i64 ((↑k:Int) - (64:Int)+(1:Int)))) = .c (.int .i64 ((↑(k+(1:Nat)):Int) - (64:Int))) from (gI (by rw [IntKind.wrap_i64]; omega))) hN))))))))) (flk flnv (flk flnv trivial))
theorem cl_c {n1:Bool} {a1 b1:ByteArray}{n2:Bool} {a2 b2:ByteArray}{l h:Rat} {K:Nat} {q:List Int} {k:Nat} (h1':IsR n1 a1 b1 l K) (h2':IsR n2 a2 b2 h K) (k1:K≤100000000) (hk:k≤127) (h0:decide ((↑k:Int) - (64:Int) < (64:Int))=true) (h5:decide (cmpR (↑((↑k:Int) - (64:Int)):Rat) h≤(0:Int))=false):TSpecN Tryd.prog 2 (loopOf Tryd.f55 0) (clN (nv [rr n1 a1 b1]) (nv [rr n2 a2 b2]) k) (.normal) (clN (nv [rr n1 a1 b1]) (nv [rr n2 a2 b2]) (k+1)):=by
  have s1:=(kl_s (k:=k))
  have s2:=(ku_s (k:=k) (by omega))
  have s3:=(int_s (n:=(↑k:Int) - (64:Int)) (by omega))
  have s4:=(isR_s s3)
  exact tspecN_ren (mask 40 0 [2,3,6,7]) 2 [] (sc:=[(3,1,.is (.c (.bool true))),(5,1,.fix (Rv ((↑((↑k:Int) - (64:Int)):Rat)))),(5,3,.fix (.int .i64 (cmpR (↑((↑k:Int) - (64:Int)):Rat) h))),(5,4,.is (.c (.bool false))),(4,1,.is (.c (.int .i64 ((↑(k+(1:Nat)):Int) - (64:Int)))))]) (sb:=[]) (by kernel_rfl) (hP (isB h0) (hC (ri_k s1 s2) (hC (cmp_k s4 h2' (by omega)) (hP (isB h5) (hP (show V.c (Value.int .i64 (IntKind.wrap .i64 ((↑k:Int) - (64:Int)+(1:Int)))) = .c (.int .i64 ((↑(k+(1:Nat)):Int) - (64:Int))) from (gI (by rw [IntKind.wrap_i64]; omega))) hN))))) (flk flnv (flk flnv trivial))
theorem cl_d {n1:Bool} {a1 b1:ByteArray}{n2:Bool} {a2 b2:ByteArray}{l h:Rat} {K:Nat} {q:List Int} {k:Nat} (h1':IsR n1 a1 b1 l K) (h2':IsR n2 a2 b2 h K) (k1:K≤100000000) (hk:k≤127) (hn:q.length≤1000) (h0:decide ((↑k:Int) - (64:Int) < (64:Int))=true) (h5:decide (cmpR (↑((↑k:Int) - (64:Int)):Rat) h≤(0:Int))=true) (h10:decide ((0:Int)≤cmpR (↑((↑(k+(1:Nat)):Int) - (64:Int)):Rat) l)=true):TSpecN Tryd.prog 2 (loopOf Tryd.f55 0) (clR (nv [rr n1 a1 b1]) (nv [rr n2 a2 b2]) (ic q) q.length k) (.normal) (clR (nv [rr n1 a1 b1]) (nv [rr n2 a2 b2]) (ic q++[.c (.int .i64 ((k:Int) - 64))]) (q.length+1) (k+1)):=by
  have s1:=(kl_s (k:=k))
  have s2:=(ku_s (k:=k) (by omega))
  have s3:=(int_s (n:=(↑k:Int) - (64:Int)) (by omega))
  have s4:=(isR_s s3)
  have s6:=(kl_s (k:=k+(1:Nat)))
  have s7:=(ku_s (k:=k+(1:Nat)) (by omega))
  have s8:=(int_s (n:=(↑(k+(1:Nat)):Int) - (64:Int)) (by omega))
  have s9:=(isR_s s8)
  exact tspecN_ren (mask 40 0 [2,3,6,7]) 2 [4] (sc:=[(3,1,.is (.c (.bool true))),(5,1,.fix (Rv ((↑((↑k:Int) - (64:Int)):Rat)))),(5,3,.fix (.int .i64 (cmpR (↑((↑k:Int) - (64:Int)):Rat) h))),(5,4,.is (.c (.bool true))),(5,7,.is (.c (.int .i64 ((↑(k+(1:Nat)):Int) - (64:Int))))),(5,8,.fix (Rv ((↑((↑(k+(1:Nat)):Int) - (64:Int)):Rat)))),(5,10,.fix (.int .i64 (cmpR (↑((↑(k+(1:Nat)):Int) - (64:Int)):Rat) l))),(5,11,.is (.c (.bool true))),(6,3,.app),(4,1,.is (.c (.int .i64 ((↑(k+(1:Nat)):Int) - (64:Int)))))]) (sb:=[]) (by kernel_rfl) (hP (isB h0) (hC (ri_k s1 s2) (hC (cmp_k s4 h2' (by omega)) (hP (isB h5) (hP (show V.c (Value.int .i64 (IntKind.wrap .i64 ((↑k:Int) - (64:Int)+(1:Int)))) = .c (.int .i64 ((↑(k+(1:Nat)):Int) - (64:Int))) from (gI (by rw [IntKind.wrap_i64]; omega))) (hC (ri_k s6 s7) (hC (cmp_k s9 h1' (by omega)) (hP (isB h10) (hP (ic_ap (q:=q) (x:=(k:Int) - 64)) (hP (show List.length q+(1:Nat)≤(9223372036854775807:Nat)∧(List.length q+(1:Nat))*(8:Nat)≤(140737488355328:Nat) by omega) (hP (show V.c (Value.int .i64 (IntKind.wrap .i64 ((↑k:Int) - (64:Int)+(1:Int)))) = .c (.int .i64 ((↑(k+(1:Nat)):Int) - (64:Int))) from (gI (by rw [IntKind.wrap_i64]; omega))) hN))))))))))) (flk flnv (flk flnv (flk (flap ic_f rfl) trivial)))
theorem cl_e {n1:Bool} {a1 b1:ByteArray}{n2:Bool} {a2 b2:ByteArray}{l h:Rat} {K:Nat} {q:List Int} {k:Nat} (h1':IsR n1 a1 b1 l K) (h2':IsR n2 a2 b2 h K) (k1:K≤100000000) (hk:k≤127) (h0:decide ((↑k:Int) - (64:Int) < (64:Int))=true) (h5:decide (cmpR (↑((↑k:Int) - (64:Int)):Rat) h≤(0:Int))=true) (h10:decide ((0:Int)≤cmpR (↑((↑(k+(1:Nat)):Int) - (64:Int)):Rat) l)=false):TSpecN Tryd.prog 2 (loopOf Tryd.f55 0) (clR (nv [rr n1 a1 b1]) (nv [rr n2 a2 b2]) (ic q) q.length k) (.normal) (clR (nv [rr n1 a1 b1]) (nv [rr n2 a2 b2]) (ic q) q.length (k+1)):=by
  have s1:=(kl_s (k:=k))
  have s2:=(ku_s (k:=k) (by omega))
  have s3:=(int_s (n:=(↑k:Int) - (64:Int)) (by omega))
  have s4:=(isR_s s3)
  have s6:=(kl_s (k:=k+(1:Nat)))
  have s7:=(ku_s (k:=k+(1:Nat)) (by omega))
  have s8:=(int_s (n:=(↑(k+(1:Nat)):Int) - (64:Int)) (by omega))
  have s9:=(isR_s s8)
  exact tspecN_ren (mask 40 0 [2,3,6,7]) 2 [2] (sc:=[(3,1,.is (.c (.bool true))),(5,1,.fix (Rv ((↑((↑k:Int) - (64:Int)):Rat)))),(5,3,.fix (.int .i64 (cmpR (↑((↑k:Int) - (64:Int)):Rat) h))),(5,4,.is (.c (.bool true))),(5,7,.is (.c (.int .i64 ((↑(k+(1:Nat)):Int) - (64:Int))))),(5,8,.fix (Rv ((↑((↑(k+(1:Nat)):Int) - (64:Int)):Rat)))),(5,10,.fix (.int .i64 (cmpR (↑((↑(k+(1:Nat)):Int) - (64:Int)):Rat) l))),(5,11,.is (.c (.bool false))),(4,1,.is (.c (.int .i64 ((↑(k+(1:Nat)):Int) - (64:Int)))))]) (sb:=[]) (by kernel_rfl) (hP (isB h0) (hC (ri_k s1 s2) (hC (cmp_k s4 h2' (by omega)) (hP (isB h5) (hP (show V.c (Value.int .i64 (IntKind.wrap .i64 ((↑k:Int) - (64:Int)+(1:Int)))) = .c (.int .i64 ((↑(k+(1:Nat)):Int) - (64:Int))) from (gI (by rw [IntKind.wrap_i64]; omega))) (hC (ri_k s6 s7) (hC (cmp_k s9 h1' (by omega)) (hP (isB h10) (hP (show V.c (Value.int .i64 (IntKind.wrap .i64 ((↑k:Int) - (64:Int)+(1:Int)))) = .c (.int .i64 ((↑(k+(1:Nat)):Int) - (64:Int))) from (gI (by rw [IntKind.wrap_i64]; omega))) hN))))))))) (flk flnv (flk flnv (flk ic_f trivial)))
theorem cl_f {n1:Bool} {a1 b1:ByteArray}{n2:Bool} {a2 b2:ByteArray}{l h:Rat} {K:Nat} {q:List Int} {k:Nat} (h1':IsR n1 a1 b1 l K) (h2':IsR n2 a2 b2 h K) (k1:K≤100000000) (hk:k≤127) (h0:decide ((↑k:Int) - (64:Int) < (64:Int))=true) (h5:decide (cmpR (↑((↑k:Int) - (64:Int)):Rat) h≤(0:Int))=false):TSpecN Tryd.prog 2 (loopOf Tryd.f55 0) (clR (nv [rr n1 a1 b1]) (nv [rr n2 a2 b2]) (ic q) q.length k) (.normal) (clR (nv [rr n1 a1 b1]) (nv [rr n2 a2 b2]) (ic q) q.length (k+1)):=by
  have s1:=(kl_s (k:=k))
  have s2:=(ku_s (k:=k) (by omega))
  have s3:=(int_s (n:=(↑k:Int) - (64:Int)) (by omega))
  have s4:=(isR_s s3)
  exact tspecN_ren (mask 40 0 [2,3,6,7]) 2 [2] (sc:=[(3,1,.is (.c (.bool true))),(5,1,.fix (Rv ((↑((↑k:Int) - (64:Int)):Rat)))),(5,3,.fix (.int .i64 (cmpR (↑((↑k:Int) - (64:Int)):Rat) h))),(5,4,.is (.c (.bool false))),(4,1,.is (.c (.int .i64 ((↑(k+(1:Nat)):Int) - (64:Int)))))]) (sb:=[]) (by kernel_rfl) (hP (isB h0) (hC (ri_k s1 s2) (hC (cmp_k s4 h2' (by omega)) (hP (isB h5) (hP (show V.c (Value.int .i64 (IntKind.wrap .i64 ((↑k:Int) - (64:Int)+(1:Int)))) = .c (.int .i64 ((↑(k+(1:Nat)):Int) - (64:Int))) from (gI (by rw [IntKind.wrap_i64]; omega))) hN))))) (flk flnv (flk flnv (flk ic_f trivial)))
theorem cl_g {n1:Bool} {a1 b1:ByteArray}{n2:Bool} {a2 b2:ByteArray}{l h:Rat} {K:Nat} {q:List Int} {k:Nat} (h1':IsR n1 a1 b1 l K) (h2':IsR n2 a2 b2 h K) (k1:K≤100000000) (h0:decide ((↑k:Int) - (64:Int) < (64:Int))=false):TSpecN Tryd.prog 2 (loopOf Tryd.f55 0) (clN (nv [rr n1 a1 b1]) (nv [rr n2 a2 b2]) k) (.exit 0) (clN (nv [rr n1 a1 b1]) (nv [rr n2 a2 b2]) k):=by
  exact tspecN_ren (mask 40 0 [2,3,6,7]) 2 [] (sc:=[(3,1,.is (.c (.bool false)))]) (sb:=[]) (by kernel_rfl) (hP (isB h0) hN) (flk flnv (flk flnv trivial))
theorem cl_h {n1:Bool} {a1 b1:ByteArray}{n2:Bool} {a2 b2:ByteArray}{l h:Rat} {K:Nat} {q:List Int} {k:Nat} (h1':IsR n1 a1 b1 l K) (h2':IsR n2 a2 b2 h K) (k1:K≤100000000) (h0:decide ((↑k:Int) - (64:Int) < (64:Int))=false):TSpecN Tryd.prog 2 (loopOf Tryd.f55 0) (clR (nv [rr n1 a1 b1]) (nv [rr n2 a2 b2]) (ic q) q.length k) (.exit 0) (clR (nv [rr n1 a1 b1]) (nv [rr n2 a2 b2]) (ic q) q.length k):=by
  exact tspecN_ren (mask 40 0 [2,3,6,7]) 2 [2] (sc:=[(3,1,.is (.c (.bool false)))]) (sb:=[]) (by kernel_rfl) (hP (isB h0) hN) (flk flnv (flk flnv (flk ic_f trivial)))
theorem tsn_le {P:Program} {n m:Nat} {c:Code} {s s':St} {e:Ex} (h:TSpecN P n c s e s') (hm:m≤n):TSpecN P m c s e s':=fun C w0 β a w hn hok=>h C w0 β a w (Nat.le_trans hn hm) hok
def clS (F1 F2:List V) (q:List Int) (k:Nat):St:=if q=[] then clN F1 F2 k else clR F1 F2 (ic q) q.length k
theorem colB_eq {l h:Rat} {k:Nat}:colB l h ((k:Int) - 64)=(decide (cmpR (((k:Int) - 64:Int):Rat) h≤0)&&decide (0≤cmpR ((((k+1:Nat):Int) - 64:Int):Rat) l)):=by
  have e:((k+1:Nat):Int) - 64=(k:Int) - 64+1:=by omega
  unfold colB
  rw [e]
  simp only [cmpR_le,cmpR_ge]
theorem col_le {l h:Rat}:∀ k,(col l h k).length≤k
  | 0=>Nat.le_refl _
  | k+1=>by
    have:=col_le (l:=l) (h:=h) k
    show (if _ then _ else _:List Int).length≤_
    split
    · rw [List.length_append,List.length_singleton]; omega
    omega
theorem cl_loop {n1:Bool} {a1 b1:ByteArray}{n2:Bool} {a2 b2:ByteArray}{l h:Rat} {K:Nat} (h1':IsR n1 a1 b1 l K) (h2':IsR n2 a2 b2 h K) (k1:K≤100000000):∀ (d k:Nat),k+d=128→RoundsN Tryd.prog 2 (loopOf Tryd.f55 0) 0 (clS (nv [rr n1 a1 b1]) (nv [rr n2 a2 b2]) (col l h k) k) .normal (clS (nv [rr n1 a1 b1]) (nv [rr n2 a2 b2]) (col l h 128) 128)
  | 0,k,hk=>by
    obtain rfl:k=128:=by omega
    refine .stop ?_
    unfold clS
    split
    · exact cl_g (q:=[]) h1' h2' k1 rfl
    exact cl_h h1' h2' k1 rfl
  | d+1,k,hk=>by
    have ih:=cl_loop h1' h2' k1 d (k+1) (by omega)
    have hlt:decide ((k:Int) - 64 < 64)=true:=decide_eq_true (by omega)
    refine .step ?_ ih
    have hb:=colB_eq (l:=l) (h:=h) (k:=k)
    cases c1:decide (cmpR (((k:Int) - 64:Int):Rat) h≤0) with
    | false =>
      rw [c1,Bool.false_and] at hb
      have e:col l h (k+1)=col l h k:=by show (if _ then _ else _)=_; rw [if_neg (by rw [hb]; decide)]
      rw [e]
      unfold clS
      split
      · exact cl_c (q:=[]) h1' h2' k1 (by omega) hlt c1
      exact cl_f h1' h2' k1 (by omega) hlt c1
    | true =>
      cases c2:decide (0≤cmpR ((((k+1:Nat):Int) - 64:Int):Rat) l) with
      | false =>
        rw [c1,c2,Bool.true_and] at hb
        have e:col l h (k+1)=col l h k:=by show (if _ then _ else _)=_; rw [if_neg (by rw [hb]; decide)]
        rw [e]
        unfold clS
        split
        · exact cl_b (q:=[]) h1' h2' k1 (by omega) hlt c1 c2
        exact cl_e h1' h2' k1 (by omega) hlt c1 c2
      | true =>
        rw [c1,c2,Bool.true_and] at hb
        have e:col l h (k+1)=col l h k++[(k:Int) - 64]:=by show (if _ then _ else _)=_; rw [if_pos hb]
        rw [e]
        unfold clS
        rw [if_neg (show ¬ (col l h k++[(k:Int) - 64]=[]) by simp)]
        split
        · rename_i h0
          rw [h0]
          exact cl_a (q:=[]) h1' h2' k1 (by omega) hlt c1 c2
        have:=cl_d (q:=col l h k) h1' h2' k1 (by omega) (Nat.le_trans (col_le k) (by omega)) hlt c1 c2
        rw [ic_snoc] at this
        rw [List.length_append]
        exact this
def MustN (q:List Int):Prop:=q=[]
def MustR (q:List Int):Prop:=q≠[]
def inG (l h:Rat):Bool:=decide ((-64:Rat) < l)&&decide (h < 64)
theorem colN1 {n1:Bool} {a1 b1:ByteArray}{n2:Bool} {a2 b2:ByteArray}{l h:Rat} {K:Nat} (h1':IsR n1 a1 b1 l K) (h2':IsR n2 a2 b2 h K) (k1:K≤100000000) (hb:TSpecN Tryd.prog 0 (.block 0 (.loop (loopOf Tryd.f55 0))) (clN (nv [rr n1 a1 b1]) (nv [rr n2 a2 b2]) 0) .normal (clN (nv [rr n1 a1 b1]) (nv [rr n2 a2 b2]) 128)) (h2:decide ((0:Int) < cmpR l (↑(-64:Int):Rat))=true):CSpec Tryd.prog 55 #[(rv n1 a1 b1),(rv n2 a2 b2)] (.tuple #[Value.slice none (0:Nat) (0:Nat),.bool (decide (cmpR h (↑(64:Int):Rat) < (0:Int)))]):=by
  have s0:=(int_s (n:=(-64:Int)) (by decide +kernel))
  have s1:=(isR_s s0)
  have s3:=(int_s (n:=(64:Int)) (by decide +kernel))
  have s4:=(isR_s s3)
  exact fn_ok Tryd.func55 (sc:=[(0,99999,.maskN (mask 40 0 [2,3,6,7])),(7,2,.fix (Rv ((↑(-64:Int):Rat)))),(7,3,.fix (.int .i64 (cmpR l (↑(-64:Int):Rat)))),(7,4,.is (.c (.bool true))),(7,7,.fix (Rv ((↑(64:Int):Rat)))),(7,8,.fix (.int .i64 (cmpR h (↑(64:Int):Rat))))]) (sb:=[(0,.normal,clN (nv [rr n1 a1 b1]) (nv [rr n2 a2 b2]) 128)]) (by kernel_rfl) (hP (show Flat [some ⟨Bool.true,nv [[.bool n1],[.string a1],[.string b1]]⟩,some ⟨Bool.true,nv [[.bool n2],[.string a2],[.string b2]]⟩] from (flk rfl (flk rfl trivial))) (hP (hb) (hC (ri_k (n:=(-64:Int)) (by decide +kernel) (by decide +kernel)) (hC (cmp_k h1' s1 (by omega)) (hP (isB h2) (hC (ri_k (n:=(64:Int)) (by decide +kernel) (by decide +kernel)) (hC (cmp_k h2' s4 (by omega)) hN)))))))
theorem colN2 {n1:Bool} {a1 b1:ByteArray}{n2:Bool} {a2 b2:ByteArray}{l h:Rat} {K:Nat} (h1':IsR n1 a1 b1 l K) (h2':IsR n2 a2 b2 h K) (k1:K≤100000000) (hb:TSpecN Tryd.prog 0 (.block 0 (.loop (loopOf Tryd.f55 0))) (clN (nv [rr n1 a1 b1]) (nv [rr n2 a2 b2]) 0) .normal (clN (nv [rr n1 a1 b1]) (nv [rr n2 a2 b2]) 128)) (h2:decide ((0:Int) < cmpR l (↑(-64:Int):Rat))=false):CSpec Tryd.prog 55 #[(rv n1 a1 b1),(rv n2 a2 b2)] (.tuple #[Value.slice none (0:Nat) (0:Nat),.bool false]):=by
  have s0:=(int_s (n:=(-64:Int)) (by decide +kernel))
  have s1:=(isR_s s0)
  exact fn_ok Tryd.func55 (sc:=[(0,99999,.maskN (mask 40 0 [2,3,6,7])),(7,2,.fix (Rv ((↑(-64:Int):Rat)))),(7,3,.fix (.int .i64 (cmpR l (↑(-64:Int):Rat)))),(7,4,.is (.c (.bool false)))]) (sb:=[(0,.normal,clN (nv [rr n1 a1 b1]) (nv [rr n2 a2 b2]) 128)]) (by kernel_rfl) (hP (show Flat [some ⟨Bool.true,nv [[.bool n1],[.string a1],[.string b1]]⟩,some ⟨Bool.true,nv [[.bool n2],[.string a2],[.string b2]]⟩] from (flk rfl (flk rfl trivial))) (hP (hb) (hC (ri_k (n:=(-64:Int)) (by decide +kernel) (by decide +kernel)) (hC (cmp_k h1' s1 (by omega)) (hP (isB h2) hN)))))
theorem colR1 {n1:Bool} {a1 b1:ByteArray}{n2:Bool} {a2 b2:ByteArray}{l h:Rat} {K:Nat}{q:List Int} (h1':IsR n1 a1 b1 l K) (h2':IsR n2 a2 b2 h K) (k1:K≤100000000) (hb:TSpecN Tryd.prog 0 (.block 0 (.loop (loopOf Tryd.f55 0))) (clN (nv [rr n1 a1 b1]) (nv [rr n2 a2 b2]) 0) .normal (clR (nv [rr n1 a1 b1]) (nv [rr n2 a2 b2]) (ic q) q.length 128)) (h2:decide ((0:Int) < cmpR l (↑(-64:Int):Rat))=true):FSpec Tryd.prog 55 [.c (rv n1 a1 b1),.c (rv n2 a2 b2)] [] (.td 0 q.length 1 (.bool (decide (cmpR h (64:Rat) < 0)))) [some ⟨true,ic q⟩]:=by
  have s0:=(int_s (n:=(-64:Int)) (by decide +kernel))
  have s1:=(isR_s s0)
  have s3:=(int_s (n:=(64:Int)) (by decide +kernel))
  have s4:=(isR_s s3)
  exact fspec_ok Tryd.func55 (sc:=[(0,99999,.maskN (mask 40 0 [2,3,6,7])),(7,2,.fix (Rv ((↑(-64:Int):Rat)))),(7,3,.fix (.int .i64 (cmpR l (↑(-64:Int):Rat)))),(7,4,.is (.c (.bool true))),(7,7,.fix (Rv ((↑(64:Int):Rat)))),(7,8,.fix (.int .i64 (cmpR h (↑(64:Int):Rat))))]) (sb:=[(0,.normal,clR (nv [rr n1 a1 b1]) (nv [rr n2 a2 b2]) (ic q) q.length 128)]) (keep:=[2]) (by kernel_rfl) (hP (show Flat [some ⟨true,ic q⟩] from flk ic_f trivial) (hP (show Flat [some ⟨Bool.true,nv [[.bool n1],[.string a1],[.string b1]]⟩,some ⟨Bool.true,nv [[.bool n2],[.string a2],[.string b2]]⟩] from (flk rfl (flk rfl trivial))) (hP (hb) (hC (ri_k (n:=(-64:Int)) (by decide +kernel) (by decide +kernel)) (hC (cmp_k h1' s1 (by omega)) (hP (isB h2) (hC (ri_k (n:=(64:Int)) (by decide +kernel) (by decide +kernel)) (hC (cmp_k h2' s4 (by omega)) hN))))))))
theorem colR2 {n1:Bool} {a1 b1:ByteArray}{n2:Bool} {a2 b2:ByteArray}{l h:Rat} {K:Nat}{q:List Int} (h1':IsR n1 a1 b1 l K) (h2':IsR n2 a2 b2 h K) (k1:K≤100000000) (hb:TSpecN Tryd.prog 0 (.block 0 (.loop (loopOf Tryd.f55 0))) (clN (nv [rr n1 a1 b1]) (nv [rr n2 a2 b2]) 0) .normal (clR (nv [rr n1 a1 b1]) (nv [rr n2 a2 b2]) (ic q) q.length 128)) (h2:decide ((0:Int) < cmpR l (↑(-64:Int):Rat))=false):FSpec Tryd.prog 55 [.c (rv n1 a1 b1),.c (rv n2 a2 b2)] [] (.td 0 q.length 1 (.bool false)) [some ⟨true,ic q⟩]:=by
  have s0:=(int_s (n:=(-64:Int)) (by decide +kernel))
  have s1:=(isR_s s0)
  exact fspec_ok Tryd.func55 (sc:=[(0,99999,.maskN (mask 40 0 [2,3,6,7])),(7,2,.fix (Rv ((↑(-64:Int):Rat)))),(7,3,.fix (.int .i64 (cmpR l (↑(-64:Int):Rat)))),(7,4,.is (.c (.bool false)))]) (sb:=[(0,.normal,clR (nv [rr n1 a1 b1]) (nv [rr n2 a2 b2]) (ic q) q.length 128)]) (keep:=[2]) (by kernel_rfl) (hP (show Flat [some ⟨true,ic q⟩] from flk ic_f trivial) (hP (show Flat [some ⟨Bool.true,nv [[.bool n1],[.string a1],[.string b1]]⟩,some ⟨Bool.true,nv [[.bool n2],[.string a2],[.string b2]]⟩] from (flk rfl (flk rfl trivial))) (hP (hb) (hC (ri_k (n:=(-64:Int)) (by decide +kernel) (by decide +kernel)) (hC (cmp_k h1' s1 (by omega)) (hP (isB h2) hN))))))
theorem columnsN_k {n1:Bool} {a1 b1:ByteArray}{n2:Bool} {a2 b2:ByteArray}{l h:Rat} {K:Nat} (h1':IsR n1 a1 b1 l K) (h2':IsR n2 a2 b2 h K) (k1:K≤100000000) (hq:MustN (col l h 128)):CSpec Tryd.prog 55 #[rv n1 a1 b1,rv n2 a2 b2] (.tuple #[.slice none 0 0,.bool (inG l h)]):=by
  have hb:=tsn_le (m:=0) (RoundsN.spec (cl_loop h1' h2' k1 128 0 (by omega))) (by omega)
  have e0:clS (nv [rr n1 a1 b1]) (nv [rr n2 a2 b2]) (col l h 0) 0=clN (nv [rr n1 a1 b1]) (nv [rr n2 a2 b2]) 0:=rfl
  have e1:clS (nv [rr n1 a1 b1]) (nv [rr n2 a2 b2]) (col l h 128) 128=clN (nv [rr n1 a1 b1]) (nv [rr n2 a2 b2]) 128:=if_pos hq
  rw [e0,e1] at hb
  unfold inG
  by_cases c:(-64:Rat) < l
  · rw [decide_eq_true c,Bool.true_and,← decide_eq_decide.2 (cmpR_lt (x:=h) (y:=64))]
    exact colN1 h1' h2' k1 hb (decide_eq_true (cmpR_gt.2 c))
  rw [decide_eq_false c,Bool.false_and]
  exact colN2 h1' h2' k1 hb (decide_eq_false (fun g=>c (cmpR_gt.1 g)))
theorem columnsR_k {n1:Bool} {a1 b1:ByteArray}{n2:Bool} {a2 b2:ByteArray}{l h:Rat} {K:Nat} (h1':IsR n1 a1 b1 l K) (h2':IsR n2 a2 b2 h K) (k1:K≤100000000) (hq:MustR (col l h 128)):FSpec Tryd.prog 55 [.c (rv n1 a1 b1),.c (rv n2 a2 b2)] [] (.td 0 (col l h 128).length 1 (.bool (inG l h))) [some ⟨true,ic (col l h 128)⟩]:=by
  have hb:=tsn_le (m:=0) (RoundsN.spec (cl_loop h1' h2' k1 128 0 (by omega))) (by omega)
  have e0:clS (nv [rr n1 a1 b1]) (nv [rr n2 a2 b2]) (col l h 0) 0=clN (nv [rr n1 a1 b1]) (nv [rr n2 a2 b2]) 0:=rfl
  have e1:clS (nv [rr n1 a1 b1]) (nv [rr n2 a2 b2]) (col l h 128) 128=clR (nv [rr n1 a1 b1]) (nv [rr n2 a2 b2]) (ic (col l h 128)) (col l h 128).length 128:=if_neg hq
  rw [e0,e1] at hb
  unfold inG
  by_cases c:(-64:Rat) < l
  · rw [decide_eq_true c,Bool.true_and,← decide_eq_decide.2 (cmpR_lt (x:=h) (y:=64))]
    exact colR1 h1' h2' k1 hb (decide_eq_true (cmpR_gt.2 c))
  rw [decide_eq_false c,Bool.false_and]
  exact colR2 h1' h2' k1 hb (decide_eq_false (fun g=>c (cmpR_gt.1 g)))
end Go.Proofs.YtkpeembfagcpcaaDoor.G
