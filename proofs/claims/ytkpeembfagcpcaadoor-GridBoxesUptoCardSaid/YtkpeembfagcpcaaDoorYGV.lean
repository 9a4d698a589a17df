import Derived.Test.YtkpeembfagcpcaaDoorYGZ
namespace Go.Proofs.YtkpeembfagcpcaaDoor.G
open Go.Proofs.YtkpeembfagcpcaaDoor.U Go.RowKit
set_option linter.unusedVariables false
set_option maxRecDepth 100000
theorem nc_n {l h:Rat} (hl:l≤h) (hg:inG l h=true):0≤nc l h∧nc l h≤1000:=by
  have:=nc_b hl hg
  unfold nc
  omega
def ciN (F X Y:List V) (lx ly v u:Nat) (y:Int):St:=⟨slots 71 0 [(4,.sd 1 lx 1),(8,.c (.slice none 0 0)),(10,.c (.int .i64 y)),(50,.sd 2 ly 1),(51,.c (.int .i64 (ly:Int))),(52,.c (.int .i64 (v:Int))),(56,.sd 1 lx 1),(57,.c (.int .i64 (lx:Int))),(58,.c (.int .i64 (u:Int)))],[some ⟨true,F⟩,some ⟨true,X⟩,some ⟨true,Y⟩]⟩
def ciR (F X Y Q:List V) (n lx ly v u:Nat) (y:Int):St:=⟨slots 71 0 [(4,.sd 1 lx 1),(8,.sd 3 n 2),(10,.c (.int .i64 y)),(50,.sd 2 ly 1),(51,.c (.int .i64 (ly:Int))),(52,.c (.int .i64 (v:Int))),(56,.sd 1 lx 1),(57,.c (.int .i64 (lx:Int))),(58,.c (.int .i64 (u:Int)))],[some ⟨true,F⟩,some ⟨true,X⟩,some ⟨true,Y⟩,some ⟨true,Q⟩]⟩
def coN (F X Y:List V) (lx ly v:Nat):St:=⟨slots 71 0 [(4,.sd 1 lx 1),(8,.c (.slice none 0 0)),(50,.sd 2 ly 1),(51,.c (.int .i64 (ly:Int))),(52,.c (.int .i64 (v:Int)))],[some ⟨true,F⟩,some ⟨true,X⟩,some ⟨true,Y⟩]⟩
def coR (F X Y Q:List V) (n lx ly v:Nat):St:=⟨slots 71 0 [(4,.sd 1 lx 1),(8,.sd 3 n 2),(50,.sd 2 ly 1),(51,.c (.int .i64 (ly:Int))),(52,.c (.int .i64 (v:Int)))],[some ⟨true,F⟩,some ⟨true,X⟩,some ⟨true,Y⟩,some ⟨true,Q⟩]⟩
theorem ceA0 {n1:Bool} {a1 b1:ByteArray} {x1:Rat}{n2:Bool} {a2 b2:ByteArray} {x2:Rat}{n3:Bool} {a3 b3:ByteArray} {x3:Rat}{n4:Bool} {a4 b4:ByteArray} {x4:Rat} (h1':IsR n1 a1 b1 x1 2000000) (h2':IsR n2 a2 b2 x2 2000000) (h3':IsR n3 a3 b3 x3 2000000) (h4':IsR n4 a4 b4 x4 2000000)  (h0:(decide (x1≤x3)&&decide (x2≤x4))=false):CSpec Tryd.prog 15 #[(ag [rr n1 a1 b1,rr n2 a2 b2,rr n3 a3 b3,rr n4 a4 b4])] (.tuple #[Value.slice none (0:Nat) (0:Nat),.int .i64 (1:Int)]):=by
  exact fn_ok Tryd.func15 (sc:=[(1,1,.fix (.bool false))]) (sb:=[]) (by kernel_rfl) (hC (cbool (vb_k h1' h2' h3' h4') h0) hN)
theorem ceB1 {n1:Bool} {a1 b1:ByteArray} {x1:Rat}{n2:Bool} {a2 b2:ByteArray} {x2:Rat}{n3:Bool} {a3 b3:ByteArray} {x3:Rat}{n4:Bool} {a4 b4:ByteArray} {x4:Rat} (h1':IsR n1 a1 b1 x1 2000000) (h2':IsR n2 a2 b2 x2 2000000) (h3':IsR n3 a3 b3 x3 2000000) (h4':IsR n4 a4 b4 x4 2000000) (q1:MustN (col x1 x3 128)) (q2:MustN (col x2 x4 128)) (h0:(decide (x1≤x3)&&decide (x2≤x4))=true) (h1:inG x1 x3=false):CSpec Tryd.prog 15 #[(ag [rr n1 a1 b1,rr n2 a2 b2,rr n3 a3 b3,rr n4 a4 b4])] (.tuple #[Value.slice none (0:Nat) (0:Nat),.int .i64 (17:Int)]):=by
  exact fn_ok Tryd.func15 (sc:=[(1,1,.fix (.bool true)),(3,6,.fix (.tuple #[Value.slice none (0:Nat) (0:Nat),.bool (inG x1 x3)])),(3,9,.is (.c (.bool false))),(4,6,.fix (.tuple #[Value.slice none (0:Nat) (0:Nat),.bool (inG x2 x4)]))]) (sb:=[]) (by kernel_rfl) (hC (cbool (vb_k h1' h2' h3' h4') h0) (hC (columnsN_k h1' h3' (by decide +kernel) q1) (hP (isB h1) (hC (columnsN_k h2' h4' (by decide +kernel) q2) hN))))
theorem ceB2 {n1:Bool} {a1 b1:ByteArray} {x1:Rat}{n2:Bool} {a2 b2:ByteArray} {x2:Rat}{n3:Bool} {a3 b3:ByteArray} {x3:Rat}{n4:Bool} {a4 b4:ByteArray} {x4:Rat} (h1':IsR n1 a1 b1 x1 2000000) (h2':IsR n2 a2 b2 x2 2000000) (h3':IsR n3 a3 b3 x3 2000000) (h4':IsR n4 a4 b4 x4 2000000) (q1:MustN (col x1 x3 128)) (q2:MustR (col x2 x4 128)) (h0:(decide (x1≤x3)&&decide (x2≤x4))=true) (h1:inG x1 x3=false):CSpec Tryd.prog 15 #[(ag [rr n1 a1 b1,rr n2 a2 b2,rr n3 a3 b3,rr n4 a4 b4])] (.tuple #[Value.slice none (0:Nat) (0:Nat),.int .i64 (17:Int)]):=by
  exact fn_ok Tryd.func15 (sc:=[(1,1,.fix (.bool true)),(3,6,.fix (.tuple #[Value.slice none (0:Nat) (0:Nat),.bool (inG x1 x3)])),(3,9,.is (.c (.bool false))),(4,6,.sub false [] (V.td (0:Nat) (List.length (col x2 x4 (128:Nat))) (1:Nat) (Value.bool (inG x2 x4))) (some [some { own:=true,cells:=ic (col x2 x4 (128:Nat)) }]))]) (sb:=[]) (by kernel_rfl) (hC (cbool (vb_k h1' h2' h3' h4') h0) (hC (columnsN_k h1' h3' (by decide +kernel) q1) (hP (isB h1) (hF (columnsR_k h2' h4' (by decide +kernel) q2) (hP (And.intro (show Flat [] from trivial) (show Flat [some { own:=true,cells:=ic (col x2 x4 (128:Nat)) }] from (flk ic_f trivial))) hN)))))
theorem ceB3 {n1:Bool} {a1 b1:ByteArray} {x1:Rat}{n2:Bool} {a2 b2:ByteArray} {x2:Rat}{n3:Bool} {a3 b3:ByteArray} {x3:Rat}{n4:Bool} {a4 b4:ByteArray} {x4:Rat} (h1':IsR n1 a1 b1 x1 2000000) (h2':IsR n2 a2 b2 x2 2000000) (h3':IsR n3 a3 b3 x3 2000000) (h4':IsR n4 a4 b4 x4 2000000) (q1:MustR (col x1 x3 128)) (q2:MustN (col x2 x4 128)) (h0:(decide (x1≤x3)&&decide (x2≤x4))=true) (h1:inG x1 x3=false):CSpec Tryd.prog 15 #[(ag [rr n1 a1 b1,rr n2 a2 b2,rr n3 a3 b3,rr n4 a4 b4])] (.tuple #[Value.slice none (0:Nat) (0:Nat),.int .i64 (17:Int)]):=by
  exact fn_ok Tryd.func15 (sc:=[(1,1,.fix (.bool true)),(3,6,.sub false [] (V.td (0:Nat) (List.length (col x1 x3 (128:Nat))) (1:Nat) (Value.bool (inG x1 x3))) (some [some { own:=true,cells:=ic (col x1 x3 (128:Nat)) }])),(3,9,.is (.c (.bool false))),(4,6,.fix (.tuple #[Value.slice none (0:Nat) (0:Nat),.bool (inG x2 x4)]))]) (sb:=[]) (by kernel_rfl) (hC (cbool (vb_k h1' h2' h3' h4') h0) (hF (columnsR_k h1' h3' (by decide +kernel) q1) (hP (And.intro (show Flat [] from trivial) (show Flat [some { own:=true,cells:=ic (col x1 x3 (128:Nat)) }] from (flk ic_f trivial))) (hP (isB h1) (hC (columnsN_k h2' h4' (by decide +kernel) q2) hN)))))
theorem ceB4 {n1:Bool} {a1 b1:ByteArray} {x1:Rat}{n2:Bool} {a2 b2:ByteArray} {x2:Rat}{n3:Bool} {a3 b3:ByteArray} {x3:Rat}{n4:Bool} {a4 b4:ByteArray} {x4:Rat} (h1':IsR n1 a1 b1 x1 2000000) (h2':IsR n2 a2 b2 x2 2000000) (h3':IsR n3 a3 b3 x3 2000000) (h4':IsR n4 a4 b4 x4 2000000) (q1:MustR (col x1 x3 128)) (q2:MustR (col x2 x4 128)) (h0:(decide (x1≤x3)&&decide (x2≤x4))=true) (h1:inG x1 x3=false):CSpec Tryd.prog 15 #[(ag [rr n1 a1 b1,rr n2 a2 b2,rr n3 a3 b3,rr n4 a4 b4])] (.tuple #[Value.slice none (0:Nat) (0:Nat),.int .i64 (17:Int)]):=by
  exact fn_ok Tryd.func15 (sc:=[(1,1,.fix (.bool true)),(3,6,.sub false [] (V.td (0:Nat) (List.length (col x1 x3 (128:Nat))) (1:Nat) (Value.bool (inG x1 x3))) (some [some { own:=true,cells:=ic (col x1 x3 (128:Nat)) }])),(3,9,.is (.c (.bool false))),(4,6,.sub false [] (V.td (0:Nat) (List.length (col x2 x4 (128:Nat))) (1:Nat) (Value.bool (inG x2 x4))) (some [some { own:=true,cells:=ic (col x2 x4 (128:Nat)) }]))]) (sb:=[]) (by kernel_rfl) (hC (cbool (vb_k h1' h2' h3' h4') h0) (hF (columnsR_k h1' h3' (by decide +kernel) q1) (hP (And.intro (show Flat [] from trivial) (show Flat [some { own:=true,cells:=ic (col x1 x3 (128:Nat)) }] from (flk ic_f trivial))) (hP (isB h1) (hF (columnsR_k h2' h4' (by decide +kernel) q2) (hP (And.intro (show Flat [] from trivial) (show Flat [some { own:=true,cells:=ic (col x2 x4 (128:Nat)) }] from (flk ic_f trivial))) hN))))))
theorem ceB5 {n1:Bool} {a1 b1:ByteArray} {x1:Rat}{n2:Bool} {a2 b2:ByteArray} {x2:Rat}{n3:Bool} {a3 b3:ByteArray} {x3:Rat}{n4:Bool} {a4 b4:ByteArray} {x4:Rat} (h1':IsR n1 a1 b1 x1 2000000) (h2':IsR n2 a2 b2 x2 2000000) (h3':IsR n3 a3 b3 x3 2000000) (h4':IsR n4 a4 b4 x4 2000000) (q1:MustR (col x1 x3 128)) (q2:MustN (col x2 x4 128)) (h0:(decide (x1≤x3)&&decide (x2≤x4))=true) (h1:inG x1 x3=true) (h2:inG x2 x4=false):CSpec Tryd.prog 15 #[(ag [rr n1 a1 b1,rr n2 a2 b2,rr n3 a3 b3,rr n4 a4 b4])] (.tuple #[Value.slice none (0:Nat) (0:Nat),.int .i64 (17:Int)]):=by
  exact fn_ok Tryd.func15 (sc:=[(1,1,.fix (.bool true)),(3,6,.sub false [] (V.td (0:Nat) (List.length (col x1 x3 (128:Nat))) (1:Nat) (Value.bool (inG x1 x3))) (some [some { own:=true,cells:=ic (col x1 x3 (128:Nat)) }])),(3,9,.is (.c (.bool true))),(4,6,.fix (.tuple #[Value.slice none (0:Nat) (0:Nat),.bool (inG x2 x4)])),(4,9,.is (.c (.bool false)))]) (sb:=[]) (by kernel_rfl) (hC (cbool (vb_k h1' h2' h3' h4') h0) (hF (columnsR_k h1' h3' (by decide +kernel) q1) (hP (And.intro (show Flat [] from trivial) (show Flat [some { own:=true,cells:=ic (col x1 x3 (128:Nat)) }] from (flk ic_f trivial))) (hP (isB h1) (hC (columnsN_k h2' h4' (by decide +kernel) q2) (hP (isB h2) hN))))))
theorem ceB6 {n1:Bool} {a1 b1:ByteArray} {x1:Rat}{n2:Bool} {a2 b2:ByteArray} {x2:Rat}{n3:Bool} {a3 b3:ByteArray} {x3:Rat}{n4:Bool} {a4 b4:ByteArray} {x4:Rat} (h1':IsR n1 a1 b1 x1 2000000) (h2':IsR n2 a2 b2 x2 2000000) (h3':IsR n3 a3 b3 x3 2000000) (h4':IsR n4 a4 b4 x4 2000000) (q1:MustR (col x1 x3 128)) (q2:MustR (col x2 x4 128)) (h0:(decide (x1≤x3)&&decide (x2≤x4))=true) (h1:inG x1 x3=true) (h2:inG x2 x4=false):CSpec Tryd.prog 15 #[(ag [rr n1 a1 b1,rr n2 a2 b2,rr n3 a3 b3,rr n4 a4 b4])] (.tuple #[Value.slice none (0:Nat) (0:Nat),.int .i64 (17:Int)]):=by
  exact fn_ok Tryd.func15 (sc:=[(1,1,.fix (.bool true)),(3,6,.sub false [] (V.td (0:Nat) (List.length (col x1 x3 (128:Nat))) (1:Nat) (Value.bool (inG x1 x3))) (some [some { own:=true,cells:=ic (col x1 x3 (128:Nat)) }])),(3,9,.is (.c (.bool true))),(4,6,.sub false [] (V.td (0:Nat) (List.length (col x2 x4 (128:Nat))) (1:Nat) (Value.bool (inG x2 x4))) (some [some { own:=true,cells:=ic (col x2 x4 (128:Nat)) }])),(4,9,.is (.c (.bool false)))]) (sb:=[]) (by kernel_rfl) (hC (cbool (vb_k h1' h2' h3' h4') h0) (hF (columnsR_k h1' h3' (by decide +kernel) q1) (hP (And.intro (show Flat [] from trivial) (show Flat [some { own:=true,cells:=ic (col x1 x3 (128:Nat)) }] from (flk ic_f trivial))) (hP (isB h1) (hF (columnsR_k h2' h4' (by decide +kernel) q2) (hP (And.intro (show Flat [] from trivial) (show Flat [some { own:=true,cells:=ic (col x2 x4 (128:Nat)) }] from (flk ic_f trivial))) (hP (isB h2) hN)))))))
theorem ceC0 {n1:Bool} {a1 b1:ByteArray} {x1:Rat}{n2:Bool} {a2 b2:ByteArray} {x2:Rat}{n3:Bool} {a3 b3:ByteArray} {x3:Rat}{n4:Bool} {a4 b4:ByteArray} {x4:Rat} (h1':IsR n1 a1 b1 x1 2000000) (h2':IsR n2 a2 b2 x2 2000000) (h3':IsR n3 a3 b3 x3 2000000) (h4':IsR n4 a4 b4 x4 2000000) (q1:MustR (col x1 x3 128)) (q2:MustR (col x2 x4 128))(hx:Box4 x1 x2 x3 x4) (h0:(decide (x1≤x3)&&decide (x2≤x4))=true) (h1:inG x1 x3=true) (h2:inG x2 x4=true) (h3:decide ((400:Int) < nc x1 x3*nc x2 x4)=true):CSpec Tryd.prog 15 #[(ag [rr n1 a1 b1,rr n2 a2 b2,rr n3 a3 b3,rr n4 a4 b4])] (.tuple #[Value.slice none (0:Nat) (0:Nat),.int .i64 (2:Int)]):=by
  exact fn_ok Tryd.func15 (sc:=[(1,1,.fix (.bool true)),(3,6,.sub false [] (V.td (0:Nat) (List.length (col x1 x3 (128:Nat))) (1:Nat) (Value.bool (inG x1 x3))) (some [some { own:=true,cells:=ic (col x1 x3 (128:Nat)) }])),(3,9,.is (.c (.bool true))),(4,6,.sub false [] (V.td (0:Nat) (List.length (col x2 x4 (128:Nat))) (1:Nat) (Value.bool (inG x2 x4))) (some [some { own:=true,cells:=ic (col x2 x4 (128:Nat)) }])),(4,9,.is (.c (.bool true))),(7,4,.is (.c (.int .i64 (nc x1 x3*nc x2 x4)))),(7,5,.is (.c (.bool true)))]) (sb:=[]) (by kernel_rfl) (hC (cbool (vb_k h1' h2' h3' h4') h0) (hF (columnsR_k h1' h3' (by decide +kernel) q1) (hP (And.intro (show Flat [] from trivial) (show Flat [some { own:=true,cells:=ic (col x1 x3 (128:Nat)) }] from (flk ic_f trivial))) (hP (isB h1) (hF (columnsR_k h2' h4' (by decide +kernel) q2) (hP (And.intro (show Flat [] from trivial) (show Flat [some { own:=true,cells:=ic (col x2 x4 (128:Nat)) }] from (flk ic_f trivial))) (hP (isB h2) (hP (show V.c (Value.int .i64 (IntKind.wrap .i64 ((↑(List.length (col x1 x3 (128:Nat))):Int)*(↑(List.length (col x2 x4 (128:Nat))):Int)))) = .c (.int .i64 (nc x1 x3*nc x2 x4)) from (gI (by rw [nc_len hx.lx hx.gx,nc_len hx.ly hx.gy]; exact mulb (nc_n hx.lx hx.gx).1 (nc_n hx.lx hx.gx).2 (nc_n hx.ly hx.gy).1 (nc_n hx.ly hx.gy).2))) (hP (isB h3) hN)))))))))
theorem ci_a {F:List V} {X Y:List Int} {q:List (Int × Int)} {v u:Nat} {x y:Int} (hF:F.all V.isC=true) (hx:X[u]? = some x) (hu:u < X.length) (hl:X.length < 4611686018427387904) (h0:decide ((↑u:Int) < (↑(List.length X):Int))=true):TSpecN Tryd.prog 3 (loopOf Tryd.f15 3) (ciN F (ic X) (ic Y) X.length Y.length v u y) (.normal) (ciR F (ic X) (ic Y) [.c (.int .i64 x),.c (.int .i64 y)] 1 X.length Y.length v (u+1) y):=by
  exact tspecN_ren (mask 71 0 [4,8,10,50,51,52,56,57,58]) 3 [4] (sc:=[(14,0,.is (.c (.bool true))),(15,1,.fix (.int .i64 x)),(16,5,.app),(17,0,.is (.c (.int .i64 ((↑(u+(1:Nat)):Int)))))]) (sb:=[]) (by kernel_rfl) (hP (isB h0) (hP (show (0:Int)≤(↑u:Int)∧(↑u:Int) < (↑(List.length X):Int) by omega) (hP (ic_at hx) (hP (Eq.refl true) (hP (show (1:Nat)≤(9223372036854775807:Nat)∧(16:Nat)≤(140737488355328:Nat) by decide) (hP (incz hu hl) hN)))))) (flk hF (flk ic_f (flk ic_f (flk rfl trivial))))
theorem ci_b {F:List V} {X Y:List Int} {q:List (Int × Int)} {v u:Nat} {x y:Int} (hF:F.all V.isC=true) (hx:X[u]? = some x) (hu:u < X.length) (hl:X.length < 4611686018427387904) (hn:q.length≤1000000) (h0:decide ((↑u:Int) < (↑(List.length X):Int))=true):TSpecN Tryd.prog 3 (loopOf Tryd.f15 3) (ciR F (ic X) (ic Y) (cc q) q.length X.length Y.length v u y) (.normal) (ciR F (ic X) (ic Y) (cc q++[.c (.int .i64 x),.c (.int .i64 y)]) (q.length+1) X.length Y.length v (u+1) y):=by
  exact tspecN_ren (mask 71 0 [4,8,10,50,51,52,56,57,58]) 3 [5] (sc:=[(14,0,.is (.c (.bool true))),(15,1,.fix (.int .i64 x)),(16,5,.app),(17,0,.is (.c (.int .i64 ((↑(u+(1:Nat)):Int)))))]) (sb:=[]) (by kernel_rfl) (hP (isB h0) (hP (show (0:Int)≤(↑u:Int)∧(↑u:Int) < (↑(List.length X):Int) by omega) (hP (ic_at hx) (hP (cc_ap (q:=q) (x:=x) (y:=y)) (hP (show List.length q+(1:Nat)≤(9223372036854775807:Nat)∧(List.length q+(1:Nat))*(16:Nat)≤(140737488355328:Nat) by omega) (hP (incz hu hl) hN)))))) (flk hF (flk ic_f (flk ic_f (flk (flap cc_f rfl) trivial))))
theorem ci_c {F:List V} {X Y:List Int} {q:List (Int × Int)} {v u:Nat} {x y:Int} (hF:F.all V.isC=true) (h0:decide ((↑u:Int) < (↑(List.length X):Int))=false):TSpecN Tryd.prog 3 (loopOf Tryd.f15 3) (ciR F (ic X) (ic Y) (cc q) q.length X.length Y.length v u y) (.exit 3) (ciR F (ic X) (ic Y) (cc q) q.length X.length Y.length v u y):=by
  exact tspecN_ren (mask 71 0 [4,8,10,50,51,52,56,57,58]) 3 [3] (sc:=[(14,0,.is (.c (.bool false)))]) (sb:=[]) (by kernel_rfl) (hP (isB h0) hN) (flk hF (flk ic_f (flk ic_f (flk cc_f trivial))))
def ciS (F:List V) (X Y:List Int) (q:List (Int × Int)) (v u:Nat) (y:Int):St:=if q=[] then ciN F (ic X) (ic Y) X.length Y.length v u y else ciR F (ic X) (ic Y) (cc q) q.length X.length Y.length v u y
def coS (F:List V) (X Y:List Int) (q:List (Int × Int)) (v:Nat):St:=if q=[] then coN F (ic X) (ic Y) X.length Y.length v else coR F (ic X) (ic Y) (cc q) q.length X.length Y.length v
theorem ci_in {F:List V} {X Y:List Int} {v:Nat} {y:Int} (hF:F.all V.isC=true) (hl:X.length < 4611686018427387904):∀ (d:Nat) (q:List (Int × Int)) (u:Nat),u+d=X.length→(0 < d∨q≠[])→q.length+d≤100000 →
    RoundsN Tryd.prog 3 (loopOf Tryd.f15 3) 3 (ciS F X Y q v u y) .normal (ciR F (ic X) (ic Y) (cc (q++rowL y (X.drop u))) (q++rowL y (X.drop u)).length X.length Y.length v X.length y)
  | 0,q,u,hd,hq,hn=>by
    obtain rfl:u=X.length:=by omega
    have hq':q≠[]:=hq.resolve_left (by omega)
    rw [List.drop_length,show q++rowL y []=q by simp [rowL]]
    unfold ciS
    rw [if_neg hq']
    exact .stop (ci_c (x:=0) hF (decide_eq_false (by omega)))
  | d+1,q,u,hd,hq,hn=>by
    have hlt:decide ((u:Int) < (X.length:Int))=true:=decide_eq_true (by omega)
    have hu:u < X.length:=by omega
    rw [List.drop_eq_getElem_cons hu,rowL_cons]
    refine .step ?_ (ci_in hF hl d (q++[(X[u],y)]) (u+1) (by omega) (.inr (by simp)) (by rw [List.length_append,List.length_singleton]; omega))
    unfold ciS
    rw [if_neg (show ¬ (q++[(X[u],y)]=[]) by simp)]
    split
    · rename_i h0
      subst h0
      exact ci_a (q:=[]) hF (List.getElem?_eq_getElem hu) hu hl hlt
    have:=ci_b (q:=q) (Y:=Y) (v:=v) (y:=y) hF (List.getElem?_eq_getElem hu) hu hl (by omega) hlt
    rw [cc_snoc] at this
    rw [List.length_append]
    exact this
theorem co_a {F:List V} {X Y:List Int} {p q:List (Int × Int)} {v:Nat} {y:Int} (hF:F.all V.isC=true) (hy:Y[v]? = some y) (hv:v < Y.length) (hl:Y.length < 4611686018427387904) (hb:TSpecN Tryd.prog 3 (.block 3 (.loop (loopOf Tryd.f15 3))) (ciN F (ic X) (ic Y) X.length Y.length v 0 y) .normal (ciR F (ic X) (ic Y) (cc q) q.length X.length Y.length v X.length y)) (h0:decide ((↑v:Int) < (↑(List.length Y):Int))=true):TSpecN Tryd.prog 3 (loopOf Tryd.f15 1) (coN F (ic X) (ic Y) X.length Y.length v) (.normal) (coR F (ic X) (ic Y) (cc q) q.length X.length Y.length (v+1)):=by
  exact tspecN_ren (mask 71 0 [4,8,50,51,52]) 3 [3] (sc:=[(11,0,.is (.c (.bool true))),(12,1,.fix (.int .i64 y)),(3,99999,.maskN (mask 71 0 [4,8,10,50,51,52,56,57,58])),(18,0,.is (.c (.int .i64 ((↑(v+(1:Nat)):Int)))))]) (sb:=[(3,.normal,ciR F (ic X) (ic Y) (cc q) q.length X.length Y.length v X.length y)]) (by kernel_rfl) (hP (isB h0) (hP (show (0:Int)≤(↑v:Int)∧(↑v:Int) < (↑(List.length Y):Int) by omega) (hP (ic_at hy) (hP (show Flat [some { own:=true,cells:=F },some { own:=true,cells:=ic X },some { own:=true,cells:=ic Y }] from (flk hF (flk ic_f (flk ic_f trivial)))) (hP (hb) (hP (incz hv hl) hN)))))) (flk hF (flk ic_f (flk ic_f (flk cc_f trivial))))
theorem co_b {F:List V} {X Y:List Int} {p q:List (Int × Int)} {v:Nat} {y:Int} (hF:F.all V.isC=true) (hy:Y[v]? = some y) (hv:v < Y.length) (hl:Y.length < 4611686018427387904) (hb:TSpecN Tryd.prog 3 (.block 3 (.loop (loopOf Tryd.f15 3))) (ciR F (ic X) (ic Y) (cc p) p.length X.length Y.length v 0 y) .normal (ciR F (ic X) (ic Y) (cc q) q.length X.length Y.length v X.length y)) (h0:decide ((↑v:Int) < (↑(List.length Y):Int))=true):TSpecN Tryd.prog 3 (loopOf Tryd.f15 1) (coR F (ic X) (ic Y) (cc p) p.length X.length Y.length v) (.normal) (coR F (ic X) (ic Y) (cc q) q.length X.length Y.length (v+1)):=by
  exact tspecN_ren (mask 71 0 [4,8,50,51,52]) 3 [3] (sc:=[(11,0,.is (.c (.bool true))),(12,1,.fix (.int .i64 y)),(3,99999,.maskN (mask 71 0 [4,8,10,50,51,52,56,57,58])),(18,0,.is (.c (.int .i64 ((↑(v+(1:Nat)):Int)))))]) (sb:=[(3,.normal,ciR F (ic X) (ic Y) (cc q) q.length X.length Y.length v X.length y)]) (by kernel_rfl) (hP (isB h0) (hP (show (0:Int)≤(↑v:Int)∧(↑v:Int) < (↑(List.length Y):Int) by omega) (hP (ic_at hy) (hP (show Flat [some { own:=true,cells:=F },some { own:=true,cells:=ic X },some { own:=true,cells:=ic Y },some { own:=true,cells:=cc p }] from (flk hF (flk ic_f (flk ic_f (flk cc_f trivial))))) (hP (hb) (hP (incz hv hl) hN)))))) (flk hF (flk ic_f (flk ic_f (flk cc_f trivial))))
theorem co_c {F:List V} {X Y:List Int} {p q:List (Int × Int)} {v:Nat} {y:Int} (hF:F.all V.isC=true)  (h0:decide ((↑v:Int) < (↑(List.length Y):Int))=false):TSpecN Tryd.prog 3 (loopOf Tryd.f15 1) (coR F (ic X) (ic Y) (cc q) q.length X.length Y.length v) (.exit 1) (coR F (ic X) (ic Y) (cc q) q.length X.length Y.length v):=by
  exact tspecN_ren (mask 71 0 [4,8,50,51,52]) 3 [3] (sc:=[(11,0,.is (.c (.bool false)))]) (sb:=[]) (by kernel_rfl) (hP (isB h0) hN) (flk hF (flk ic_f (flk ic_f (flk cc_f trivial))))
theorem co_out {F:List V} {X Y:List Int} (hF:F.all V.isC=true) (hx0:X≠[]) (hx:X.length < 4611686018427387904) (hl:Y.length < 4611686018427387904) (hX:X.length≤200):∀ (d:Nat) (q:List (Int × Int)) (v:Nat),v+d=Y.length→(0 < d∨q≠[])→q.length+d*200≤50000 →
    RoundsN Tryd.prog 3 (loopOf Tryd.f15 1) 1 (coS F X Y q v) .normal (coR F (ic X) (ic Y) (cc (q++gridL X (Y.drop v))) (q++gridL X (Y.drop v)).length X.length Y.length Y.length)
  | 0,q,v,hd,hq,hn=>by
    obtain rfl:v=Y.length:=by omega
    have hq':q≠[]:=hq.resolve_left (by omega)
    rw [List.drop_length,show q++gridL X []=q by simp [gridL]]
    unfold coS
    rw [if_neg hq']
    exact .stop (co_c (p:=[]) (y:=0) hF (decide_eq_false (by omega)))
  | d+1,q,v,hd,hq,hn=>by
    have hlt:decide ((v:Int) < (Y.length:Int))=true:=decide_eq_true (by omega)
    have hv:v < Y.length:=by omega
    have hxl:0 < X.length:=List.length_pos_iff.2 hx0
    have hin:=RoundsN.spec (ci_in (Y:=Y) (v:=v) (y:=Y[v]) hF hx X.length q 0 (by omega) (.inl hxl) (by omega))
    rw [List.drop_zero] at hin
    have hne:q++rowL Y[v] X≠[]:=by
      intro h
      have:=congrArg List.length h
      simp [rowL] at this
      exact hx0 this.2
    rw [List.drop_eq_getElem_cons hv,gridL_cons]
    refine .step ?_ (co_out hF hx0 hx hl hX d (q++rowL Y[v] X) (v+1) (by omega) (.inr hne) (by rw [List.length_append,show (rowL Y[v] X).length=X.length by simp [rowL]]; omega))
    unfold coS
    rw [if_neg hne]
    unfold ciS at hin
    split
    · rename_i h0
      rw [if_pos h0] at hin
      exact co_a (p:=[]) hF (List.getElem?_eq_getElem hv) hv hl hin hlt
    rename_i h0
    rw [if_neg h0] at hin
    exact co_b hF (List.getElem?_eq_getElem hv) hv hl hin hlt
theorem ceD0 {n1:Bool} {a1 b1:ByteArray} {x1:Rat}{n2:Bool} {a2 b2:ByteArray} {x2:Rat}{n3:Bool} {a3 b3:ByteArray} {x3:Rat}{n4:Bool} {a4 b4:ByteArray} {x4:Rat}{q:List (Int × Int)} (h1':IsR n1 a1 b1 x1 2000000) (h2':IsR n2 a2 b2 x2 2000000) (h3':IsR n3 a3 b3 x3 2000000) (h4':IsR n4 a4 b4 x4 2000000) (q1:MustR (col x1 x3 128)) (q2:MustR (col x2 x4 128))(hx:Box4 x1 x2 x3 x4) (hb:TSpecN Tryd.prog 0 (.block 1 (.loop (loopOf Tryd.f15 1))) (coN (nv [rr n1 a1 b1,rr n2 a2 b2,rr n3 a3 b3,rr n4 a4 b4]) (ic (col x1 x3 128)) (ic (col x2 x4 128)) (col x1 x3 128).length (col x2 x4 128).length 0) .normal (coR (nv [rr n1 a1 b1,rr n2 a2 b2,rr n3 a3 b3,rr n4 a4 b4]) (ic (col x1 x3 128)) (ic (col x2 x4 128)) (cc q) q.length (col x1 x3 128).length (col x2 x4 128).length (col x2 x4 128).length)) (h0:(decide (x1≤x3)&&decide (x2≤x4))=true) (h1:inG x1 x3=true) (h2:inG x2 x4=true) (h3:decide ((400:Int) < nc x1 x3*nc x2 x4)=false):FSpec Tryd.prog 15 [.c (ag [rr n1 a1 b1,rr n2 a2 b2,rr n3 a3 b3,rr n4 a4 b4])] [] (.td 0 q.length 2 (.int .i64 0)) [some ⟨true,cc q⟩]:=by
  exact fspec_ok Tryd.func15 (sc:=[(1,1,.fix (.bool true)),(3,6,.sub false [] (V.td (0:Nat) (List.length (col x1 x3 (128:Nat))) (1:Nat) (Value.bool (inG x1 x3))) (some [some { own:=true,cells:=ic (col x1 x3 (128:Nat)) }])),(3,9,.is (.c (.bool true))),(4,6,.sub false [] (V.td (0:Nat) (List.length (col x2 x4 (128:Nat))) (1:Nat) (Value.bool (inG x2 x4))) (some [some { own:=true,cells:=ic (col x2 x4 (128:Nat)) }])),(4,9,.is (.c (.bool true))),(7,4,.is (.c (.int .i64 (nc x1 x3*nc x2 x4)))),(7,5,.is (.c (.bool false))),(1,99999,.maskN (mask 71 0 [4,8,50,51,52]))]) (sb:=[(1,.normal,coR (nv [rr n1 a1 b1,rr n2 a2 b2,rr n3 a3 b3,rr n4 a4 b4]) (ic (col x1 x3 128)) (ic (col x2 x4 128)) (cc q) q.length (col x1 x3 128).length (col x2 x4 128).length (col x2 x4 128).length)]) (keep:=[3]) (by kernel_rfl) (hP (show Flat [some ⟨true,cc q⟩] from flk cc_f trivial) (hC (cbool (vb_k h1' h2' h3' h4') h0) (hF (columnsR_k h1' h3' (by decide +kernel) q1) (hP (And.intro (show Flat [] from trivial) (show Flat [some { own:=true,cells:=ic (col x1 x3 (128:Nat)) }] from (flk ic_f trivial))) (hP (isB h1) (hF (columnsR_k h2' h4' (by decide +kernel) q2) (hP (And.intro (show Flat [] from trivial) (show Flat [some { own:=true,cells:=ic (col x2 x4 (128:Nat)) }] from (flk ic_f trivial))) (hP (isB h2) (hP (show V.c (Value.int .i64 (IntKind.wrap .i64 ((↑(List.length (col x1 x3 (128:Nat))):Int)*(↑(List.length (col x2 x4 (128:Nat))):Int)))) = .c (.int .i64 (nc x1 x3*nc x2 x4)) from (gI (by rw [nc_len hx.lx hx.gx,nc_len hx.ly hx.gy]; exact mulb (nc_n hx.lx hx.gx).1 (nc_n hx.lx hx.gx).2 (nc_n hx.ly hx.gy).1 (nc_n hx.ly hx.gy).2))) (hP (isB h3) (hP (show Flat [some ⟨Bool.true,nv [[.bool n1],[.string a1],[.string b1],[.bool n2],[.string a2],[.string b2],[.bool n3],[.string a3],[.string b3],[.bool n4],[.string a4],[.string b4]]⟩,some { own:=true,cells:=ic (col x1 x3 (128:Nat)) },some { own:=true,cells:=ic (col x2 x4 (128:Nat)) }] from (flk rfl (flk ic_f (flk ic_f trivial)))) (hP (hb) hN))))))))))))
section
variable {n1:Bool} {a1 b1:ByteArray} {x1:Rat}{n2:Bool} {a2 b2:ByteArray} {x2:Rat}{n3:Bool} {a3 b3:ByteArray} {x3:Rat}{n4:Bool} {a4 b4:ByteArray} {x4:Rat}
theorem ceA_k (h1':IsR n1 a1 b1 x1 2000000) (h2':IsR n2 a2 b2 x2 2000000) (h3':IsR n3 a3 b3 x3 2000000) (h4':IsR n4 a4 b4 x4 2000000) (hm:MustA x1 x2 x3 x4):CSpec Tryd.prog 15 #[ag [rr n1 a1 b1,rr n2 a2 b2,rr n3 a3 b3,rr n4 a4 b4]] (.tuple #[.slice none 0 0,.int .i64 1]):=by
  refine ceA0 h1' h2' h3' h4' ?_
  rw [← Bool.not_eq_true,Bool.and_eq_true,decide_eq_true_eq,decide_eq_true_eq]
  exact hm
theorem ceB_k (h1':IsR n1 a1 b1 x1 2000000) (h2':IsR n2 a2 b2 x2 2000000) (h3':IsR n3 a3 b3 x3 2000000) (h4':IsR n4 a4 b4 x4 2000000) (hm:MustB x1 x2 x3 x4):CSpec Tryd.prog 15 #[ag [rr n1 a1 b1,rr n2 a2 b2,rr n3 a3 b3,rr n4 a4 b4]] (.tuple #[.slice none 0 0,.int .i64 17]):=by
  obtain ⟨⟨g1,g2⟩,hg⟩:=hm
  have hb:(decide (x1≤x3)&&decide (x2≤x4))=true:=by rw [decide_eq_true g1,decide_eq_true g2]; rfl
  cases e:inG x1 x3 with
  | false =>
    by_cases q1:col x1 x3 128=[]<;>by_cases q2:col x2 x4 128=[]
    · exact ceB1 h1' h2' h3' h4' q1 q2 hb e
    · exact ceB2 h1' h2' h3' h4' q1 q2 hb e
    · exact ceB3 h1' h2' h3' h4' q1 q2 hb e
    exact ceB4 h1' h2' h3' h4' q1 q2 hb e
  | true =>
    rw [e,Bool.true_and] at hg
    have q1:col x1 x3 128≠[]:=by
      have:=nc_b g1 e
      rw [col_ival g1 e,ival_cons (by omega)]
      simp
    by_cases q2:col x2 x4 128=[]
    · exact ceB5 h1' h2' h3' h4' q1 q2 hb e hg
    exact ceB6 h1' h2' h3' h4' q1 q2 hb e hg
theorem col_ne {l h:Rat} (g:l≤h) (e:inG l h=true):col l h 128≠[]:=by
  have:=nc_b g e
  rw [col_ival g e,ival_cons (by omega)]
  simp
theorem ceC_k (h1':IsR n1 a1 b1 x1 2000000) (h2':IsR n2 a2 b2 x2 2000000) (h3':IsR n3 a3 b3 x3 2000000) (h4':IsR n4 a4 b4 x4 2000000) (hm:MustC x1 x2 x3 x4):CSpec Tryd.prog 15 #[ag [rr n1 a1 b1,rr n2 a2 b2,rr n3 a3 b3,rr n4 a4 b4]] (.tuple #[.slice none 0 0,.int .i64 2]):=by
  obtain ⟨hx,hn⟩:=hm
  have hb:(decide (x1≤x3)&&decide (x2≤x4))=true:=by rw [decide_eq_true hx.lx,decide_eq_true hx.ly]; rfl
  exact ceC0 h1' h2' h3' h4' (col_ne hx.lx hx.gx) (col_ne hx.ly hx.gy) hx hb hx.gx hx.gy (decide_eq_true hn)
theorem ceD_k (h1':IsR n1 a1 b1 x1 2000000) (h2':IsR n2 a2 b2 x2 2000000) (h3':IsR n3 a3 b3 x3 2000000) (h4':IsR n4 a4 b4 x4 2000000) (hm:MustD x1 x2 x3 x4):FSpec Tryd.prog 15 [.c (ag [rr n1 a1 b1,rr n2 a2 b2,rr n3 a3 b3,rr n4 a4 b4])] [] (.td 0 (gq x1 x2 x3 x4).length 2 (.int .i64 0)) [some ⟨true,cc (gq x1 x2 x3 x4)⟩]:=by
  obtain ⟨hx,hn⟩:=hm
  have hb:(decide (x1≤x3)&&decide (x2≤x4))=true:=by rw [decide_eq_true hx.lx,decide_eq_true hx.ly]; rfl
  have a:=nc_n hx.lx hx.gx
  have b:=nc_n hx.ly hx.gy
  have la:=nc_len hx.lx hx.gx
  have lb:=nc_len hx.ly hx.gy
  have hy:=List.length_pos_iff.2 (col_ne hx.ly hx.gy)
  have ho:=tsn_le (m:=0) (RoundsN.spec (co_out (F:=nv [rr n1 a1 b1,rr n2 a2 b2,rr n3 a3 b3,rr n4 a4 b4]) (X:=col x1 x3 128) (Y:=col x2 x4 128) rfl (col_ne hx.lx hx.gx) (by omega) (by omega) (Nat.le_trans (col_le 128) (by omega)) (col x2 x4 128).length [] 0 (by omega) (.inl hy) (by have:=col_le (l:=x2) (h:=x4) 128; simp only [List.length_nil]; omega))) (by omega)
  have hq:[]++gridL (col x1 x3 128) ((col x2 x4 128).drop 0)=gq x1 x2 x3 x4:=by
    rw [List.drop_zero,List.nil_append,col_ival hx.lx hx.gx,col_ival hx.ly hx.gy]
    rfl
  rw [hq] at ho
  exact ceD0 h1' h2' h3' h4' (col_ne hx.lx hx.gx) (col_ne hx.ly hx.gy) hx ho hb hx.gx hx.gy (decide_eq_false (by omega))
end
def eqS (q:List (Int × Int)) (c1 c2 i:Nat):St:=⟨slots 26 0 [(0,.sl 0 0 q.length c1),(1,.sl 1 0 q.length c2),(12,.c (.int .i64 (q.length:Int))),(13,.c (.int .i64 (i:Int)))],[some ⟨false,cc q⟩,some ⟨false,cc q⟩]⟩
theorem eq_a {q:List (Int × Int)} {c1 c2 i:Nat} {x y:Int} (hx:q[i]? = some (x,y)) (hi:i < q.length) (hl:q.length < 4611686018427387904) (h0:decide ((↑i:Int) < (↑(List.length q):Int))=true):TSpec Tryd.prog (loopOf Tryd.f16 0) (eqS q c1 c2 i) (.normal) (eqS q c1 c2 (i+1)):=by
  exact tspec_dim (mask 26 0 [0,1,12,13]) 2 (sc:=[(4,0,.is (.c (.bool true))),(6,3,.fix (ag [[.int .i64 x],[.int .i64 y]])),(6,7,.fix (ag [[.int .i64 x],[.int .i64 y]])),(6,8,.eqs),(8,0,.is (.c (.int .i64 ((↑(i+(1:Nat)):Int)))))]) (sb:=[]) (by kernel_rfl) (hP (isB h0) (hP (show (0:Int)≤(↑i:Int)∧(↑i:Int) < (↑(List.length q):Int) by omega) (hP (cc_ld hx) (hP (show (0:Int)≤(↑i:Int)∧(↑i:Int) < (↑(List.length q):Int) by omega) (hP (cc_ld hx) (hP (Eq.refl (ag [[.int .i64 x],[.int .i64 y]])) (hP (incz hi hl) hN))))))) (flk cc_f (flk cc_f trivial))
theorem eq_b {q:List (Int × Int)} {c1 c2 i:Nat} {x y:Int}  (h0:decide ((↑i:Int) < (↑(List.length q):Int))=false):TSpec Tryd.prog (loopOf Tryd.f16 0) (eqS q c1 c2 i) (.exit 0) (eqS q c1 c2 i):=by
  exact tspec_dim (mask 26 0 [0,1,12,13]) 2 (sc:=[(4,0,.is (.c (.bool false)))]) (sb:=[]) (by kernel_rfl) (hP (isB h0) hN) (flk cc_f (flk cc_f trivial))
theorem eq_loop {q:List (Int × Int)} {c1 c2:Nat} (hl:q.length < 4611686018427387904):∀ (d i:Nat),i+d=q.length→Rounds Tryd.prog (loopOf Tryd.f16 0) 0 (eqS q c1 c2 i) .normal (eqS q c1 c2 q.length)
  | 0,i,h=>by
    obtain rfl:i=q.length:=by omega
    exact .stop (eq_b (x:=0) (y:=0) (decide_eq_false (by omega)))
  | d+1,i,h=>by
    have hi:i < q.length:=by omega
    refine .step ?_ (eq_loop hl d (i+1) (by omega))
    exact eq_a (x:=q[i].1) (y:=q[i].2) (List.getElem?_eq_getElem hi) hi hl (decide_eq_true (by omega))
theorem eq_f {q:List (Int × Int)} {c1 c2:Nat} (hb:TSpec Tryd.prog (.block 0 (.loop (loopOf Tryd.f16 0))) (eqS q c1 c2 0) .normal (eqS q c1 c2 q.length)) (h0:(!decide ((↑(List.length q):Int)=(↑(List.length q):Int)))=false):FSpec Tryd.prog 16 [.sl 0 0 q.length c1,.sl 1 0 q.length c2] [some ⟨false,cc q⟩,some ⟨false,cc q⟩] (.c (.bool true)) [some ⟨false,cc q⟩,some ⟨false,cc q⟩]:=by
  exact fspec_ok Tryd.func16 (sc:=[(1,4,.is (.c (.bool false))),(0,99999,.mask (mask 26 0 [0,1,12,13]))]) (sb:=[(0,.normal,eqS q c1 c2 q.length)]) (keep:=[]) (by kernel_rfl) (hP (show Flat [some ⟨false,cc q⟩,some ⟨false,cc q⟩] from flk cc_f (flk cc_f trivial)) (hP (isB h0) (hP (show Flat [some { own:=false,cells:=cc q },some { own:=false,cells:=cc q }] from (flk cc_f (flk cc_f trivial))) (hP (hb) hN))))
theorem eq0_k    : CSpec Tryd.prog 16 #[(.slice none 0 0),(.slice none 0 0)] (.bool true):=by
  exact fn_ok Tryd.func16 (sc:=[]) (sb:=[]) (by kernel_rfl) hN
theorem equal_k {q:List (Int × Int)} {c1 c2:Nat} (hl:q.length < 4611686018427387904):FSpec Tryd.prog 16 [.sl 0 0 q.length c1,.sl 1 0 q.length c2] [some ⟨false,cc q⟩,some ⟨false,cc q⟩] (.c (.bool true)) [some ⟨false,cc q⟩,some ⟨false,cc q⟩] :=
  eq_f (eq_loop hl q.length 0 (by omega)).spec (by simp)
theorem gq_len {x1 x2 x3 x4:Rat} (hm:MustD x1 x2 x3 x4):(gq x1 x2 x3 x4).length < 4611686018427387904:=by
  obtain ⟨hx,hn⟩:=hm
  have a:=nc_n hx.lx hx.gx
  have b:=nc_n hx.ly hx.gy
  have ha:=nc_b hx.lx hx.gx
  have hb:=nc_b hx.ly hx.gy
  have e:∀ (l m:List Int),(gridL l m).length=m.length*l.length:=by
    intro l m
    induction m with
    | nil=>simp [gridL]
    | cons y m ih =>
      have:gridL l (y::m)=rowL y l++gridL l m:=by simp [gridL]
      rw [this,List.length_append,ih,List.length_cons,Nat.succ_mul]
      simp [rowL]
      omega
  unfold gq
  rw [e]
  have l1:=ival_len (a:=sF x1) (b:=flv x3+1) (by omega)
  have l2:=ival_len (a:=sF x2) (b:=flv x4+1) (by omega)
  unfold nc at a b
  have:=Nat.mul_le_mul (show (ival (sF x2) (flv x4+1)).length≤1000 by omega) (show (ival (sF x1) (flv x3+1)).length≤1000 by omega)
  omega
theorem grid0_k:FSpec Tryd.prog 14 [.c (ag [rr false ⟨#[]⟩ ⟨#[]⟩,rr false ⟨#[]⟩ ⟨#[]⟩,rr false ⟨#[]⟩ ⟨#[]⟩,rr false ⟨#[]⟩ ⟨#[]⟩])] [] (.td 0 4 2 (.int .i64 0)) [some ⟨true,[.c (.int .i64 (-1)),.c (.int .i64 (-1)),.c (.int .i64 0),.c (.int .i64 (-1)),.c (.int .i64 (-1)),.c (.int .i64 0),.c (.int .i64 0),.c (.int .i64 0)]⟩]:=by
  have z:IsR false ⟨#[]⟩ ⟨#[]⟩ 0 2000000:=by
    have:=IsR.raw false ⟨#[]⟩ ⟨#[]⟩ (K:=2000000) (by decide) (by decide) (by decide)
    have e:qv false ⟨#[]⟩ ⟨#[]⟩=0:=isR0_s.eq
    rwa [e] at this
  have hm:MustD 0 0 0 0:=⟨⟨by decide +kernel,by decide +kernel,by decide +kernel,by decide +kernel⟩,by decide +kernel⟩
  have:=ofD_k z z z z hm
  have e:gq 0 0 0 0=[(-1,-1),(0,-1),(-1,0),(0,0)]:=by decide +kernel
  rw [e] at this
  exact this
theorem gridBegun_k    : CSpec Tryd.prog 13 #[] (.bool true):=by
  exact fn_ok Tryd.func13 (sc:=[(1,1,.sub true [] (V.td (0:Nat) (4:Nat) (2:Nat) (Value.int .i64 (0:Int))) (some [some ⟨Bool.true,nv [[.int .i64 (-1:Int)],[.int .i64 (-1:Int)],[.int .i64 (0:Int)],[.int .i64 (-1:Int)],[.int .i64 (-1:Int)],[.int .i64 (0:Int)],[.int .i64 (0:Int)],[.int .i64 (0:Int)]]⟩]))]) (sb:=[]) (by kernel_rfl) (hF grid0_k (hP (show (0:Int)≤(0:Int)∧(0:Int) < (4:Int) by decide) hN))
theorem glA {n1:Bool} {a1 b1:ByteArray} {x1:Rat}{n2:Bool} {a2 b2:ByteArray} {x2:Rat}{n3:Bool} {a3 b3:ByteArray} {x3:Rat}{n4:Bool} {a4 b4:ByteArray} {x4:Rat} (h1':IsR n1 a1 b1 x1 2000000) (h2':IsR n2 a2 b2 x2 2000000) (h3':IsR n3 a3 b3 x3 2000000) (h4':IsR n4 a4 b4 x4 2000000) (hm:MustA x1 x2 x3 x4)  : CSpec Tryd.prog 4 #[(ag [rr n1 a1 b1,rr n2 a2 b2,rr n3 a3 b3,rr n4 a4 b4])] (.bool true):=by
  exact fn_ok Tryd.func4 (sc:=[(1,0,.fix (.bool true)),(3,1,.fix (.tuple #[Value.slice none (0:Nat) (0:Nat),.int .i64 (1:Int)])),(4,1,.fix (.tuple #[Value.slice none (0:Nat) (0:Nat),.int .i64 (1:Int)])),(5,6,.fix (.bool true))]) (sb:=[]) (by kernel_rfl) (hC gridBegun_k (hC (ofA_k h1' h2' h3' h4' hm) (hC (ceA_k h1' h2' h3' h4' hm) (hC eq0_k hN))))
theorem glB {n1:Bool} {a1 b1:ByteArray} {x1:Rat}{n2:Bool} {a2 b2:ByteArray} {x2:Rat}{n3:Bool} {a3 b3:ByteArray} {x3:Rat}{n4:Bool} {a4 b4:ByteArray} {x4:Rat} (h1':IsR n1 a1 b1 x1 2000000) (h2':IsR n2 a2 b2 x2 2000000) (h3':IsR n3 a3 b3 x3 2000000) (h4':IsR n4 a4 b4 x4 2000000) (hm:MustB x1 x2 x3 x4)  : CSpec Tryd.prog 4 #[(ag [rr n1 a1 b1,rr n2 a2 b2,rr n3 a3 b3,rr n4 a4 b4])] (.bool true):=by
  exact fn_ok Tryd.func4 (sc:=[(1,0,.fix (.bool true)),(3,1,.fix (.tuple #[Value.slice none (0:Nat) (0:Nat),.int .i64 (17:Int)])),(4,1,.fix (.tuple #[Value.slice none (0:Nat) (0:Nat),.int .i64 (17:Int)])),(5,6,.fix (.bool true))]) (sb:=[]) (by kernel_rfl) (hC gridBegun_k (hC (ofB_k h1' h2' h3' h4' hm) (hC (ceB_k h1' h2' h3' h4' hm) (hC eq0_k hN))))
theorem glC {n1:Bool} {a1 b1:ByteArray} {x1:Rat}{n2:Bool} {a2 b2:ByteArray} {x2:Rat}{n3:Bool} {a3 b3:ByteArray} {x3:Rat}{n4:Bool} {a4 b4:ByteArray} {x4:Rat} (h1':IsR n1 a1 b1 x1 2000000) (h2':IsR n2 a2 b2 x2 2000000) (h3':IsR n3 a3 b3 x3 2000000) (h4':IsR n4 a4 b4 x4 2000000) (hm:MustC x1 x2 x3 x4)  : CSpec Tryd.prog 4 #[(ag [rr n1 a1 b1,rr n2 a2 b2,rr n3 a3 b3,rr n4 a4 b4])] (.bool true):=by
  exact fn_ok Tryd.func4 (sc:=[(1,0,.fix (.bool true)),(3,1,.fix (.tuple #[Value.slice none (0:Nat) (0:Nat),.int .i64 (2:Int)])),(4,1,.fix (.tuple #[Value.slice none (0:Nat) (0:Nat),.int .i64 (2:Int)])),(5,6,.fix (.bool true))]) (sb:=[]) (by kernel_rfl) (hC gridBegun_k (hC (ofC_k h1' h2' h3' h4' hm) (hC (ceC_k h1' h2' h3' h4' hm) (hC eq0_k hN))))
theorem glD {n1:Bool} {a1 b1:ByteArray} {x1:Rat}{n2:Bool} {a2 b2:ByteArray} {x2:Rat}{n3:Bool} {a3 b3:ByteArray} {x3:Rat}{n4:Bool} {a4 b4:ByteArray} {x4:Rat} (h1':IsR n1 a1 b1 x1 2000000) (h2':IsR n2 a2 b2 x2 2000000) (h3':IsR n3 a3 b3 x3 2000000) (h4':IsR n4 a4 b4 x4 2000000) (hm:MustD x1 x2 x3 x4) (hq:(gq x1 x2 x3 x4).length < 4611686018427387904)  : CSpec Tryd.prog 4 #[(ag [rr n1 a1 b1,rr n2 a2 b2,rr n3 a3 b3,rr n4 a4 b4])] (.bool true):=by
  exact fn_ok Tryd.func4 (sc:=[(1,0,.fix (.bool true)),(3,1,.sub false [] (V.td (0:Nat) (List.length (gq x1 x2 x3 x4)) (2:Nat) (Value.int .i64 (0:Int))) (some [some { own:=true,cells:=cc (gq x1 x2 x3 x4) }])),(4,1,.sub false [] (V.td (0:Nat) (List.length (gq x1 x2 x3 x4)) (2:Nat) (Value.int .i64 (0:Int))) (some [some { own:=true,cells:=cc (gq x1 x2 x3 x4) }])),(5,6,.readf (.bool true))]) (sb:=[]) (by kernel_rfl) (hC gridBegun_k (hF (ofD_k h1' h2' h3' h4' hm) (hP (And.intro (show Flat [] from trivial) (show Flat [some { own:=true,cells:=cc (gq x1 x2 x3 x4) }] from (flk cc_f trivial))) (hF (ceD_k h1' h2' h3' h4' hm) (hP (And.intro (show Flat [] from trivial) (show Flat [some { own:=true,cells:=cc (gq x1 x2 x3 x4) }] from (flk cc_f trivial))) (hP (show Flat [some { own:=false,cells:=cc (gq x1 x2 x3 x4) },some { own:=false,cells:=cc (gq x1 x2 x3 x4) }] from (flk cc_f (flk cc_f trivial))) (hP (fun (cp:Nat→Nat→Nat)=>(equal_k (c1:=cp (1:Nat) (2:Nat)) (c2:=cp (2:Nat) (2:Nat)) hq)) hN)))))))
theorem gridBoxes_law (n1:Bool) (a1 b1:ByteArray) (n2:Bool) (a2 b2:ByteArray) (n3:Bool) (a3 b3:ByteArray) (n4:Bool) (a4 b4:ByteArray) (s1:a1.size≤1048576) (t1:b1.size≤1048576) (s2:a2.size≤1048576) (t2:b2.size≤1048576) (s3:a3.size≤1048576) (t3:b3.size≤1048576) (s4:a4.size≤1048576) (t4:b4.size≤1048576):CSpec Tryd.prog 4 #[ag [rr n1 a1 b1,rr n2 a2 b2,rr n3 a3 b3,rr n4 a4 b4]] (.bool true):=by
  have i1:=IsR.raw n1 a1 b1 (K:=2000000) (by omega) (by omega) (by decide)
  have i2:=IsR.raw n2 a2 b2 (K:=2000000) (by omega) (by omega) (by decide)
  have i3:=IsR.raw n3 a3 b3 (K:=2000000) (by omega) (by omega) (by decide)
  have i4:=IsR.raw n4 a4 b4 (K:=2000000) (by omega) (by omega) (by decide)
  by_cases hA:qv n1 a1 b1≤qv n3 a3 b3∧qv n2 a2 b2≤qv n4 a4 b4
  · cases hB:(inG (qv n1 a1 b1) (qv n3 a3 b3)&&inG (qv n2 a2 b2) (qv n4 a4 b4)) with
    | false=>exact glB i1 i2 i3 i4 ⟨hA,hB⟩
    | true =>
      rw [Bool.and_eq_true] at hB
      have h4:Box4 _ _ _ _:=⟨hA.1,hA.2,hB.1,hB.2⟩
      by_cases hC:400 < nc (qv n1 a1 b1) (qv n3 a3 b3)*nc (qv n2 a2 b2) (qv n4 a4 b4)
      · exact glC i1 i2 i3 i4 ⟨h4,hC⟩
      have hm:MustD _ _ _ _:=⟨h4,Int.not_lt.1 hC⟩
      exact glD i1 i2 i3 i4 hm (gq_len hm)
  exact glA i1 i2 i3 i4 hA
end Go.Proofs.YtkpeembfagcpcaaDoor.G
