import Derived.Test.YtkpeembfagcpcaaDoorYGY
namespace Go.Proofs.YtkpeembfagcpcaaDoor.G
open Go.Proofs.YtkpeembfagcpcaaDoor.U Go.RowKit
set_option linter.unusedVariables false
set_option maxRecDepth 100000
theorem sub_ge {x y:Rat}:0≤Int.sign (Rat.num (y - x))↔x≤y:=by
  have h1:=sign_lt (x:=y - x)
  constructor
  · intro h
    have:=mt h1.2 (by omega)
    grind
  intro h
  have:=mt h1.1 (by grind)
  omega
theorem boxis1 {n1:Bool} {a1 b1:ByteArray} {x1:Rat}{n2:Bool} {a2 b2:ByteArray} {x2:Rat}{n3:Bool} {a3 b3:ByteArray} {x3:Rat}{n4:Bool} {a4 b4:ByteArray} {x4:Rat} (h1':IsR n1 a1 b1 x1 2000000) (h2':IsR n2 a2 b2 x2 2000000) (h3':IsR n3 a3 b3 x3 2000000) (h4':IsR n4 a4 b4 x4 2000000) (h2:decide ((0:Int)≤Int.sign (Rat.num (x3 - x1)))=false):CSpec Tryd.prog 54 #[(ag [rr n1 a1 b1,rr n2 a2 b2,rr n3 a3 b3,rr n4 a4 b4])] (.bool false):=by
  have s0:=(sub_s (szr h3') (szr h1'))
  have s1:=(isR_s s0)
  exact fn_ok Tryd.func54 (sc:=[(1,6,.fix (Rv (x3 - x1))),(1,7,.fix (.int .i64 (Int.sign (Rat.num (x3 - x1))))),(1,8,.is (.c (.bool false)))]) (sb:=[]) (by kernel_rfl) (hC (sub_k h3' h1' (by decide +kernel)) (hC (sign_k s1 (by decide +kernel)) (hP (isB h2) hN)))
theorem boxis2 {n1:Bool} {a1 b1:ByteArray} {x1:Rat}{n2:Bool} {a2 b2:ByteArray} {x2:Rat}{n3:Bool} {a3 b3:ByteArray} {x3:Rat}{n4:Bool} {a4 b4:ByteArray} {x4:Rat} (h1':IsR n1 a1 b1 x1 2000000) (h2':IsR n2 a2 b2 x2 2000000) (h3':IsR n3 a3 b3 x3 2000000) (h4':IsR n4 a4 b4 x4 2000000) (h2:decide ((0:Int)≤Int.sign (Rat.num (x3 - x1)))=true):CSpec Tryd.prog 54 #[(ag [rr n1 a1 b1,rr n2 a2 b2,rr n3 a3 b3,rr n4 a4 b4])] (.bool (decide ((0:Int)≤Int.sign (Rat.num (x4 - x2))))):=by
  have s0:=(sub_s (szr h3') (szr h1'))
  have s1:=(isR_s s0)
  have s3:=(sub_s (szr h4') (szr h2'))
  have s4:=(isR_s s3)
  exact fn_ok Tryd.func54 (sc:=[(1,6,.fix (Rv (x3 - x1))),(1,7,.fix (.int .i64 (Int.sign (Rat.num (x3 - x1))))),(1,8,.is (.c (.bool true))),(1,16,.fix (Rv (x4 - x2))),(1,17,.fix (.int .i64 (Int.sign (Rat.num (x4 - x2)))))]) (sb:=[]) (by kernel_rfl) (hC (sub_k h3' h1' (by decide +kernel)) (hC (sign_k s1 (by decide +kernel)) (hP (isB h2) (hC (sub_k h4' h2' (by decide +kernel)) (hC (sign_k s4 (by decide +kernel)) hN)))))
def cc (l:List (Int × Int)):List V:=l.flatMap fun p=>[.c (.int .i64 p.1),.c (.int .i64 p.2)]
theorem cc_f {q:List (Int × Int)}:(cc q).all V.isC=true:=by
  induction q with
  | nil=>rfl
  | cons x q ih=>exact ih
theorem cc_len {q:List (Int × Int)}:(cc q).length=q.length*2:=by
  induction q with
  | nil=>rfl
  | cons x q ih=>show (cc q).length+2=_; rw [ih,List.length_cons]; omega
theorem cc_ap {q:List (Int × Int)} {x y:Int}:appB (cc q) [.c (.int .i64 x),.c (.int .i64 y)] q.length 1 2=true:=by
  simp [appB,cc_len,cc_f,V.isC,one]
theorem cc_snoc {q:List (Int × Int)} {x y:Int}:cc q++[.c (.int .i64 x),.c (.int .i64 y)]=cc (q++[(x,y)]):=by simp [cc]
theorem cc_at:∀ {q:List (Int × Int)} {i:Nat} {p:Int × Int},q[i]? = some p→((cc q).drop (i*2)).take 2=[.c (.int .i64 p.1),.c (.int .i64 p.2)]
  | [],i,p,h=>by simp at h
  | y::q,0,p,h=>by
    simp only [List.getElem?_cons_zero,Option.some.injEq] at h
    subst h
    rfl
  | y::q,i+1,p,h=>by
    have:(cc (y::q)).drop ((i+1)*2)=(cc q).drop (i*2):=by rw [Nat.succ_mul]; rfl
    rw [this]
    exact cc_at (by simpa using h)
theorem cc_ld {q:List (Int × Int)} {i:Nat} {x y:Int} (h:q[i]? = some (x,y)):((cc q).drop (0+Int.toNat (i:Int)*2)).take 2=[.c (.int .i64 x),.c (.int .i64 y)]∧(#[Value.int .i64 x,.int .i64 y]:Array Value).size=2:=by
  rw [Int.toNat_natCast,Nat.zero_add]
  exact ⟨cc_at h,rfl⟩
theorem ic_at {q:List Int} {i:Nat} {x:Int} (h:q[i]? = some x):(ic q)[i*1]? = some (.c (.int .i64 x)):=by simp [ic,h]
theorem incz {i n:Nat} (h:i < n) (hn:n < 4611686018427387904):V.c (.int .i64 (IntKind.wrap .i64 ((i:Int)+1))) = .c (.int .i64 ((i+1:Nat):Int)):=by
  congr 2
  rw [IntKind.wrap_i64]
  push_cast
  omega
theorem mulb {a b:Int} (ha:0≤a) (ha2:a≤1000) (hb:0≤b) (hb2:b≤1000):IntKind.wrap .i64 (a*b)=a*b:=by
  have h0:=Int.mul_nonneg ha hb
  have h1:a*b≤1000*1000:=Int.mul_le_mul ha2 hb2 hb (by decide)
  rw [IntKind.wrap_i64]
  omega
def MustA (x1 x2 x3 x4:Rat):Prop:=¬ (x1≤x3∧x2≤x4)
def MustB (x1 x2 x3 x4:Rat):Prop:=(x1≤x3∧x2≤x4)∧(inG x1 x3&&inG x2 x4)=false
def nc (l h:Rat):Int:=flv h - sF l+1
structure Box4 (x1 x2 x3 x4:Rat):Prop where
  lx:x1≤x3
  ly:x2≤x4
  gx:inG x1 x3=true
  gy:inG x2 x4=true
def MustC (x1 x2 x3 x4:Rat):Prop:=Box4 x1 x2 x3 x4∧400 < nc x1 x3*nc x2 x4
def MustD (x1 x2 x3 x4:Rat):Prop:=Box4 x1 x2 x3 x4∧nc x1 x3*nc x2 x4≤400
theorem inG_sO {l h:Rat} (hl:l≤h):sO l h=inG l h:=so_iff hl
theorem nc_b {l h:Rat} (hl:l≤h) (hg:inG l h=true):(-64≤sF l∧flv h < 64)∧sF l≤flv h:=by
  have hs:=(inG_sO hl).trans hg
  have hz:=fl_neg l (fl h+1)
  unfold sO onG at hs
  simp only [Bool.and_eq_true,decide_eq_true_eq] at hs
  refine ⟨⟨hs.2.2.1.1,hs.2.2.2.2⟩,?_⟩
  unfold sF flv
  rw [if_pos hs.1,if_pos hs.2.1]
  have:=hz.2 (by
    have:=mt (le_fl h (fl h+1)).2 (by omega)
    grind)
  omega
theorem col_ival {l h:Rat} (hl:l≤h) (hg:inG l h=true):col l h 128=ival (sF l) (flv h+1):=by
  unfold inG at hg
  simp only [Bool.and_eq_true,decide_eq_true_eq] at hg
  exact col_all hl hg.1 hg.2
theorem nc_len {l h:Rat} (hl:l≤h) (hg:inG l h=true):((col l h 128).length:Int)=nc l h:=by
  have:=(nc_b hl hg).2
  rw [col_ival hl hg,ival_len (by omega)]
  unfold nc
  omega
theorem ival_cons {a b:Int} (h:a < b):ival a b=a::ival (a+1) b:=by
  unfold ival
  obtain ⟨n,hn⟩:∃ n,(b - a).toNat=n+1:=⟨(b - a).toNat - 1,by omega⟩
  rw [hn,show (b - (a+1)).toNat=n by omega,List.range_succ_eq_map,List.map_cons,List.map_map]
  simp
  intro k _
  omega
def rowL (y:Int) (l:List Int):List (Int × Int):=l.map fun x=>(x,y)
def gridL (l m:List Int):List (Int × Int):=m.flatMap fun y=>rowL y l
theorem vb_k {n1:Bool} {a1 b1:ByteArray} {x1:Rat}{n2:Bool} {a2 b2:ByteArray} {x2:Rat}{n3:Bool} {a3 b3:ByteArray} {x3:Rat}{n4:Bool} {a4 b4:ByteArray} {x4:Rat} (h1':IsR n1 a1 b1 x1 2000000) (h2':IsR n2 a2 b2 x2 2000000) (h3':IsR n3 a3 b3 x3 2000000) (h4':IsR n4 a4 b4 x4 2000000):CSpec Tryd.prog 54 #[ag [rr n1 a1 b1,rr n2 a2 b2,rr n3 a3 b3,rr n4 a4 b4]] (.bool (decide (x1≤x3)&&decide (x2≤x4))):=by
  by_cases h:x1≤x3
  · rw [decide_eq_true h,Bool.true_and]
    exact cbool (boxis2 h1' h2' h3' h4' (decide_eq_true (sub_ge.2 h))) (decide_eq_decide.2 sub_ge)
  rw [decide_eq_false h,Bool.false_and]
  exact boxis1 h1' h2' h3' h4' (decide_eq_false (fun g=>h (sub_ge.1 g)))
theorem ofa1 {n1:Bool} {a1 b1:ByteArray} {x1:Rat}{n2:Bool} {a2 b2:ByteArray} {x2:Rat}{n3:Bool} {a3 b3:ByteArray} {x3:Rat}{n4:Bool} {a4 b4:ByteArray} {x4:Rat} (h1':IsR n1 a1 b1 x1 2000000) (h2':IsR n2 a2 b2 x2 2000000) (h3':IsR n3 a3 b3 x3 2000000) (h4':IsR n4 a4 b4 x4 2000000)  (h0:decide ((0:Int) < cmpR x1 x3)=true):CSpec Tryd.prog 14 #[(ag [rr n1 a1 b1,rr n2 a2 b2,rr n3 a3 b3,rr n4 a4 b4])] (.tuple #[Value.slice none (0:Nat) (0:Nat),.int .i64 (1:Int)]):=by
  exact fn_ok Tryd.func14 (sc:=[(1,6,.fix (.int .i64 (cmpR x1 x3))),(1,7,.is (.c (.bool true)))]) (sb:=[]) (by kernel_rfl) (hC (cmp_k h1' h3' (by decide +kernel)) (hP (isB h0) hN))
theorem ofa2 {n1:Bool} {a1 b1:ByteArray} {x1:Rat}{n2:Bool} {a2 b2:ByteArray} {x2:Rat}{n3:Bool} {a3 b3:ByteArray} {x3:Rat}{n4:Bool} {a4 b4:ByteArray} {x4:Rat} (h1':IsR n1 a1 b1 x1 2000000) (h2':IsR n2 a2 b2 x2 2000000) (h3':IsR n3 a3 b3 x3 2000000) (h4':IsR n4 a4 b4 x4 2000000)  (h0:decide ((0:Int) < cmpR x1 x3)=false) (h1:decide ((0:Int) < cmpR x2 x4)=true):CSpec Tryd.prog 14 #[(ag [rr n1 a1 b1,rr n2 a2 b2,rr n3 a3 b3,rr n4 a4 b4])] (.tuple #[Value.slice none (0:Nat) (0:Nat),.int .i64 (1:Int)]):=by
  exact fn_ok Tryd.func14 (sc:=[(1,6,.fix (.int .i64 (cmpR x1 x3))),(1,7,.is (.c (.bool false))),(1,15,.fix (.int .i64 (cmpR x2 x4))),(1,16,.is (.c (.bool true)))]) (sb:=[]) (by kernel_rfl) (hC (cmp_k h1' h3' (by decide +kernel)) (hP (isB h0) (hC (cmp_k h2' h4' (by decide +kernel)) (hP (isB h1) hN))))
theorem ofb1 {n1:Bool} {a1 b1:ByteArray} {x1:Rat}{n2:Bool} {a2 b2:ByteArray} {x2:Rat}{n3:Bool} {a3 b3:ByteArray} {x3:Rat}{n4:Bool} {a4 b4:ByteArray} {x4:Rat} (h1':IsR n1 a1 b1 x1 2000000) (h2':IsR n2 a2 b2 x2 2000000) (h3':IsR n3 a3 b3 x3 2000000) (h4':IsR n4 a4 b4 x4 2000000)  (h0:decide ((0:Int) < cmpR x1 x3)=false) (h1:decide ((0:Int) < cmpR x2 x4)=false) (h2:sO x1 x3=false):CSpec Tryd.prog 14 #[(ag [rr n1 a1 b1,rr n2 a2 b2,rr n3 a3 b3,rr n4 a4 b4])] (.tuple #[Value.slice none (0:Nat) (0:Nat),.int .i64 (17:Int)]):=by
  exact fn_ok Tryd.func14 (sc:=[(1,6,.fix (.int .i64 (cmpR x1 x3))),(1,7,.is (.c (.bool false))),(1,15,.fix (.int .i64 (cmpR x2 x4))),(1,16,.is (.c (.bool false))),(3,6,.fix (.tuple #[.int .i64 (sF x1),.int .i64 (flv x3),.bool (sO x1 x3)])),(3,10,.is (.c (.bool false))),(4,6,.fix (.tuple #[.int .i64 (sF x2),.int .i64 (flv x4),.bool (sO x2 x4)]))]) (sb:=[]) (by kernel_rfl) (hC (cmp_k h1' h3' (by decide +kernel)) (hP (isB h0) (hC (cmp_k h2' h4' (by decide +kernel)) (hP (isB h1) (hC (sides_k h1' h3' (by decide +kernel)) (hP (isB h2) (hC (sides_k h2' h4' (by decide +kernel)) hN)))))))
theorem ofb2 {n1:Bool} {a1 b1:ByteArray} {x1:Rat}{n2:Bool} {a2 b2:ByteArray} {x2:Rat}{n3:Bool} {a3 b3:ByteArray} {x3:Rat}{n4:Bool} {a4 b4:ByteArray} {x4:Rat} (h1':IsR n1 a1 b1 x1 2000000) (h2':IsR n2 a2 b2 x2 2000000) (h3':IsR n3 a3 b3 x3 2000000) (h4':IsR n4 a4 b4 x4 2000000)  (h0:decide ((0:Int) < cmpR x1 x3)=false) (h1:decide ((0:Int) < cmpR x2 x4)=false) (h2:sO x1 x3=true) (h3:sO x2 x4=false):CSpec Tryd.prog 14 #[(ag [rr n1 a1 b1,rr n2 a2 b2,rr n3 a3 b3,rr n4 a4 b4])] (.tuple #[Value.slice none (0:Nat) (0:Nat),.int .i64 (17:Int)]):=by
  exact fn_ok Tryd.func14 (sc:=[(1,6,.fix (.int .i64 (cmpR x1 x3))),(1,7,.is (.c (.bool false))),(1,15,.fix (.int .i64 (cmpR x2 x4))),(1,16,.is (.c (.bool false))),(3,6,.fix (.tuple #[.int .i64 (sF x1),.int .i64 (flv x3),.bool (sO x1 x3)])),(3,10,.is (.c (.bool true))),(4,6,.fix (.tuple #[.int .i64 (sF x2),.int .i64 (flv x4),.bool (sO x2 x4)])),(4,10,.is (.c (.bool false)))]) (sb:=[]) (by kernel_rfl) (hC (cmp_k h1' h3' (by decide +kernel)) (hP (isB h0) (hC (cmp_k h2' h4' (by decide +kernel)) (hP (isB h1) (hC (sides_k h1' h3' (by decide +kernel)) (hP (isB h2) (hC (sides_k h2' h4' (by decide +kernel)) (hP (isB h3) hN))))))))
theorem ofc {n1:Bool} {a1 b1:ByteArray} {x1:Rat}{n2:Bool} {a2 b2:ByteArray} {x2:Rat}{n3:Bool} {a3 b3:ByteArray} {x3:Rat}{n4:Bool} {a4 b4:ByteArray} {x4:Rat} (h1':IsR n1 a1 b1 x1 2000000) (h2':IsR n2 a2 b2 x2 2000000) (h3':IsR n3 a3 b3 x3 2000000) (h4':IsR n4 a4 b4 x4 2000000) (e1:-64≤sF x1) (e2:flv x3 < 64) (e3:sF x1≤flv x3) (e4:-64≤sF x2) (e5:flv x4 < 64) (e6:sF x2≤flv x4) (h0:decide ((0:Int) < cmpR x1 x3)=false) (h1:decide ((0:Int) < cmpR x2 x4)=false) (h2:sO x1 x3=true) (h3:sO x2 x4=true) (h4:decide ((400:Int) < nc x1 x3*nc x2 x4)=true):CSpec Tryd.prog 14 #[(ag [rr n1 a1 b1,rr n2 a2 b2,rr n3 a3 b3,rr n4 a4 b4])] (.tuple #[Value.slice none (0:Nat) (0:Nat),.int .i64 (2:Int)]):=by
  exact fn_ok Tryd.func14 (sc:=[(1,6,.fix (.int .i64 (cmpR x1 x3))),(1,7,.is (.c (.bool false))),(1,15,.fix (.int .i64 (cmpR x2 x4))),(1,16,.is (.c (.bool false))),(3,6,.fix (.tuple #[.int .i64 (sF x1),.int .i64 (flv x3),.bool (sO x1 x3)])),(3,10,.is (.c (.bool true))),(4,6,.fix (.tuple #[.int .i64 (sF x2),.int .i64 (flv x4),.bool (sO x2 x4)])),(4,10,.is (.c (.bool true))),(7,2,.is (.c (.int .i64 (flv x3 - sF x1)))),(7,3,.is (.c (.int .i64 (nc x1 x3)))),(7,6,.is (.c (.int .i64 (flv x4 - sF x2)))),(7,7,.is (.c (.int .i64 (nc x2 x4)))),(7,8,.is (.c (.int .i64 (nc x1 x3*nc x2 x4)))),(7,9,.is (.c (.bool true)))]) (sb:=[]) (by kernel_rfl) (hC (cmp_k h1' h3' (by decide +kernel)) (hP (isB h0) (hC (cmp_k h2' h4' (by decide +kernel)) (hP (isB h1) (hC (sides_k h1' h3' (by decide +kernel)) (hP (isB h2) (hC (sides_k h2' h4' (by decide +kernel)) (hP (isB h3) (hP (show V.c (Value.int .i64 (IntKind.wrap .i64 (flv x3 - sF x1))) = .c (.int .i64 (flv x3 - sF x1)) from (gI (by rw [IntKind.wrap_i64]; omega))) (hP (show V.c (Value.int .i64 (IntKind.wrap .i64 (flv x3 - sF x1+(1:Int)))) = .c (.int .i64 (nc x1 x3)) from (gI (by rw [IntKind.wrap_i64]; unfold nc; omega))) (hP (show V.c (Value.int .i64 (IntKind.wrap .i64 (flv x4 - sF x2))) = .c (.int .i64 (flv x4 - sF x2)) from (gI (by rw [IntKind.wrap_i64]; omega))) (hP (show V.c (Value.int .i64 (IntKind.wrap .i64 (flv x4 - sF x2+(1:Int)))) = .c (.int .i64 (nc x2 x4)) from (gI (by rw [IntKind.wrap_i64]; unfold nc; omega))) (hP (show V.c (Value.int .i64 (IntKind.wrap .i64 (nc x1 x3*nc x2 x4))) = .c (.int .i64 (nc x1 x3*nc x2 x4)) from (gI (mulb (by unfold nc; omega) (by unfold nc; omega) (by unfold nc; omega) (by unfold nc; omega)))) (hP (isB h4) hN))))))))))))))
def ofN (F:List V) (x0 x1 y1 x y:Int):St:=⟨slots 88 0 [(4,.c (.int .i64 x0)),(5,.c (.int .i64 x1)),(8,.c (.int .i64 y1)),(10,.c (.slice none 0 0)),(11,.c (.int .i64 y)),(12,.c (.int .i64 x))],[some ⟨true,F⟩]⟩
def ofR (F Q:List V) (n:Nat) (x0 x1 y1 x y:Int):St:=⟨slots 88 0 [(4,.c (.int .i64 x0)),(5,.c (.int .i64 x1)),(8,.c (.int .i64 y1)),(10,.sd 1 n 2),(11,.c (.int .i64 y)),(12,.c (.int .i64 x))],[some ⟨true,F⟩,some ⟨true,Q⟩]⟩
def ogN (F:List V) (x0 x1 y1 y:Int):St:=⟨slots 88 0 [(4,.c (.int .i64 x0)),(5,.c (.int .i64 x1)),(8,.c (.int .i64 y1)),(10,.c (.slice none 0 0)),(11,.c (.int .i64 y))],[some ⟨true,F⟩]⟩
def ogR (F Q:List V) (n:Nat) (x0 x1 y1 y:Int):St:=⟨slots 88 0 [(4,.c (.int .i64 x0)),(5,.c (.int .i64 x1)),(8,.c (.int .i64 y1)),(10,.sd 1 n 2),(11,.c (.int .i64 y))],[some ⟨true,F⟩,some ⟨true,Q⟩]⟩
theorem oi_a {F:List V} {q:List (Int × Int)} {x0 x1 y1 x y:Int} (hF:F.all V.isC=true) (b1:-64≤x) (b2:x≤64) (b3:-64≤y) (b4:y≤64) (h0:decide (x≤x1)=true):TSpecN Tryd.prog 1 (loopOf Tryd.f14 2) (ofN F x0 x1 y1 x y) (.normal) (ofR F [.c (.int .i64 x),.c (.int .i64 y)] 1 x0 x1 y1 (x+1) y):=by
  exact tspecN_ren (mask 88 0 [4,5,8,10,11,12]) 1 [2] (sc:=[(14,2,.is (.c (.bool true))),(16,5,.app),(15,1,.is (.c (.int .i64 (x+(1:Int)))))]) (sb:=[]) (by kernel_rfl) (hP (isB h0) (hP (Eq.refl true) (hP (show (1:Nat)≤(9223372036854775807:Nat)∧(16:Nat)≤(140737488355328:Nat) by decide) (hP (show V.c (Value.int .i64 (IntKind.wrap .i64 (x+(1:Int)))) = .c (.int .i64 (x+(1:Int))) from (gI (by rw [IntKind.wrap_i64]; omega))) hN)))) (flk hF (flk rfl trivial))
theorem oi_b {F:List V} {q:List (Int × Int)} {x0 x1 y1 x y:Int} (hF:F.all V.isC=true) (b1:-64≤x) (b2:x≤64) (b3:-64≤y) (b4:y≤64) (hn:q.length≤1000000) (h0:decide (x≤x1)=true):TSpecN Tryd.prog 1 (loopOf Tryd.f14 2) (ofR F (cc q) q.length x0 x1 y1 x y) (.normal) (ofR F (cc q++[.c (.int .i64 x),.c (.int .i64 y)]) (q.length+1) x0 x1 y1 (x+1) y):=by
  exact tspecN_ren (mask 88 0 [4,5,8,10,11,12]) 1 [3] (sc:=[(14,2,.is (.c (.bool true))),(16,5,.app),(15,1,.is (.c (.int .i64 (x+(1:Int)))))]) (sb:=[]) (by kernel_rfl) (hP (isB h0) (hP (cc_ap (q:=q) (x:=x) (y:=y)) (hP (show List.length q+(1:Nat)≤(9223372036854775807:Nat)∧(List.length q+(1:Nat))*(16:Nat)≤(140737488355328:Nat) by omega) (hP (show V.c (Value.int .i64 (IntKind.wrap .i64 (x+(1:Int)))) = .c (.int .i64 (x+(1:Int))) from (gI (by rw [IntKind.wrap_i64]; omega))) hN)))) (flk hF (flk (flap cc_f rfl) trivial))
theorem oi_c {F:List V} {q:List (Int × Int)} {x0 x1 y1 x y:Int} (hF:F.all V.isC=true) (b1:-64≤x) (b2:x≤64) (b3:-64≤y) (b4:y≤64) (h0:decide (x≤x1)=false):TSpecN Tryd.prog 1 (loopOf Tryd.f14 2) (ofR F (cc q) q.length x0 x1 y1 x y) (.exit 2) (ofR F (cc q) q.length x0 x1 y1 x y):=by
  exact tspecN_ren (mask 88 0 [4,5,8,10,11,12]) 1 [1] (sc:=[(14,2,.is (.c (.bool false)))]) (sb:=[]) (by kernel_rfl) (hP (isB h0) hN) (flk hF (flk cc_f trivial))
def ofS (F:List V) (q:List (Int × Int)) (x0 x1 y1 x y:Int):St:=if q=[] then ofN F x0 x1 y1 x y else ofR F (cc q) q.length x0 x1 y1 x y
theorem rowL_cons {y x:Int} {l:List Int} {q:List (Int × Int)}:q++rowL y (x::l)=(q++[(x,y)])++rowL y l:=by simp [rowL]
theorem of_in {F:List V} {x0 x1 y1 y:Int} (hF:F.all V.isC=true) (hx1:x1 < 64) (b3:-64≤y) (b4:y≤64):∀ (d:Nat) (q:List (Int × Int)) (x:Int),x+d=x1+1 → -64≤x→(0 < d∨q≠[])→q.length+d≤100000 →
    RoundsN Tryd.prog 1 (loopOf Tryd.f14 2) 2 (ofS F q x0 x1 y1 x y) .normal (ofR F (cc (q++rowL y (ival x (x1+1)))) (q++rowL y (ival x (x1+1))).length x0 x1 y1 (x1+1) y)
  | 0,q,x,hd,hx,hq,hn=>by
    obtain rfl:x=x1+1:=by omega
    have hq':q≠[]:=hq.resolve_left (by omega)
    rw [ival_nil (Int.le_refl _),show q++rowL y []=q by simp [rowL]]
    unfold ofS
    rw [if_neg hq']
    exact .stop (oi_c hF hx (by omega) b3 b4 (decide_eq_false (by omega)))
  | d+1,q,x,hd,hx,hq,hn=>by
    have hlt:decide (x≤x1)=true:=decide_eq_true (by omega)
    rw [ival_cons (by omega),rowL_cons]
    refine .step ?_ (of_in hF hx1 b3 b4 d (q++[(x,y)]) (x+1) (by omega) (by omega) (.inr (by simp)) (by rw [List.length_append,List.length_singleton]; omega))
    unfold ofS
    rw [if_neg (show ¬ (q++[(x,y)]=[]) by simp)]
    split
    · rename_i h0
      subst h0
      exact oi_a (q:=[]) hF hx (by omega) b3 b4 hlt
    have:=oi_b (q:=q) (x0:=x0) (y1:=y1) hF hx (by omega) b3 b4 (by omega) hlt
    rw [cc_snoc] at this
    rw [List.length_append]
    exact this
theorem og_a {F P:List V} {q:List (Int × Int)} {np:Nat} {x0 x1 y1 y:Int} (hF:F.all V.isC=true) (b3:-64≤y) (b4:y≤64) (hb:TSpecN Tryd.prog 1 (.block 2 (.loop (loopOf Tryd.f14 2))) (ofN F x0 x1 y1 x0 y) .normal (ofR F (cc q) q.length x0 x1 y1 (x1+1) y)) (h0:decide (y≤y1)=true):TSpecN Tryd.prog 1 (loopOf Tryd.f14 0) (ogN F x0 x1 y1 y) (.normal) (ogR F (cc q) q.length x0 x1 y1 (y+1)):=by
  exact tspecN_ren (mask 88 0 [4,5,8,10,11]) 1 [1] (sc:=[(11,2,.is (.c (.bool true))),(2,99999,.maskN (mask 88 0 [4,5,8,10,11,12])),(12,1,.is (.c (.int .i64 (y+(1:Int)))))]) (sb:=[(2,.normal,ofR F (cc q) q.length x0 x1 y1 (x1+1) y)]) (by kernel_rfl) (hP (isB h0) (hP (show Flat [some { own:=true,cells:=F }] from (flk hF trivial)) (hP (hb) (hP (show V.c (Value.int .i64 (IntKind.wrap .i64 (y+(1:Int)))) = .c (.int .i64 (y+(1:Int))) from (gI (by rw [IntKind.wrap_i64]; omega))) hN)))) (flk hF (flk cc_f trivial))
theorem og_b {F P:List V} {q:List (Int × Int)} {np:Nat} {x0 x1 y1 y:Int} (hF:F.all V.isC=true) (b3:-64≤y) (b4:y≤64) (hp:P.all V.isC=true) (hb:TSpecN Tryd.prog 1 (.block 2 (.loop (loopOf Tryd.f14 2))) (ofR F P np x0 x1 y1 x0 y) .normal (ofR F (cc q) q.length x0 x1 y1 (x1+1) y)) (h0:decide (y≤y1)=true):TSpecN Tryd.prog 1 (loopOf Tryd.f14 0) (ogR F P np x0 x1 y1 y) (.normal) (ogR F (cc q) q.length x0 x1 y1 (y+1)):=by
  exact tspecN_ren (mask 88 0 [4,5,8,10,11]) 1 [1] (sc:=[(11,2,.is (.c (.bool true))),(2,99999,.maskN (mask 88 0 [4,5,8,10,11,12])),(12,1,.is (.c (.int .i64 (y+(1:Int)))))]) (sb:=[(2,.normal,ofR F (cc q) q.length x0 x1 y1 (x1+1) y)]) (by kernel_rfl) (hP (isB h0) (hP (show Flat [some { own:=true,cells:=F },some { own:=true,cells:=P }] from (flk hF (flk hp trivial))) (hP (hb) (hP (show V.c (Value.int .i64 (IntKind.wrap .i64 (y+(1:Int)))) = .c (.int .i64 (y+(1:Int))) from (gI (by rw [IntKind.wrap_i64]; omega))) hN)))) (flk hF (flk cc_f trivial))
theorem og_c {F P:List V} {q:List (Int × Int)} {np:Nat} {x0 x1 y1 y:Int} (hF:F.all V.isC=true) (b3:-64≤y) (b4:y≤64)  (h0:decide (y≤y1)=false):TSpecN Tryd.prog 1 (loopOf Tryd.f14 0) (ogR F (cc q) q.length x0 x1 y1 y) (.exit 0) (ogR F (cc q) q.length x0 x1 y1 y):=by
  exact tspecN_ren (mask 88 0 [4,5,8,10,11]) 1 [1] (sc:=[(11,2,.is (.c (.bool false)))]) (sb:=[]) (by kernel_rfl) (hP (isB h0) hN) (flk hF (flk cc_f trivial))
def ogS (F:List V) (q:List (Int × Int)) (x0 x1 y1 y:Int):St:=if q=[] then ogN F x0 x1 y1 y else ogR F (cc q) q.length x0 x1 y1 y
theorem gridL_cons {y:Int} {l m:List Int} {q:List (Int × Int)}:q++gridL l (y::m)=(q++rowL y l)++gridL l m:=by simp [gridL]
theorem of_out {F:List V} {x0 x1 y1:Int} (hF:F.all V.isC=true) (hx0:-64≤x0) (hx:x0≤x1) (hx1:x1 < 64) (hy1:y1 < 64):∀ (d:Nat) (q:List (Int × Int)) (y:Int),y+d=y1+1 → -64≤y→(0 < d∨q≠[])→q.length+d*200≤50000 →
    RoundsN Tryd.prog 1 (loopOf Tryd.f14 0) 0 (ogS F q x0 x1 y1 y) .normal (ogR F (cc (q++gridL (ival x0 (x1+1)) (ival y (y1+1)))) (q++gridL (ival x0 (x1+1)) (ival y (y1+1))).length x0 x1 y1 (y1+1))
  | 0,q,y,hd,hy,hq,hn=>by
    obtain rfl:y=y1+1:=by omega
    have hq':q≠[]:=hq.resolve_left (by omega)
    rw [ival_nil (Int.le_refl _),show ∀ l,q++gridL l []=q by intro l; simp [gridL]]
    unfold ogS
    rw [if_neg hq']
    exact .stop (og_c (P:=[]) (np:=0) hF hy (by omega) (decide_eq_false (by omega)))
  | d+1,q,y,hd,hy,hq,hn=>by
    have hlt:decide (y≤y1)=true:=decide_eq_true (by omega)
    have hin:=RoundsN.spec (of_in (x0:=x0) (y1:=y1) hF hx1 hy (show y≤64 by omega) (x1+1 - x0).toNat q x0 (by omega) hx0 (.inl (by omega)) (by omega))
    have hne:q++rowL y (ival x0 (x1+1))≠[]:=by
      rw [ival_cons (by omega)]
      simp [rowL]
    have hlen:(q++rowL y (ival x0 (x1+1))).length≤q.length+200:=by
      have:=ival_len (a:=x0) (b:=x1+1) (by omega)
      rw [List.length_append,show (rowL y (ival x0 (x1+1))).length=(ival x0 (x1+1)).length by simp [rowL]]
      omega
    rw [ival_cons (show y < y1+1 by omega),gridL_cons]
    refine .step ?_ (of_out hF hx0 hx hx1 hy1 d (q++rowL y (ival x0 (x1+1))) (y+1) (by omega) (by omega) (.inr hne) (by omega))
    unfold ogS
    rw [if_neg hne]
    unfold ofS at hin
    split
    · rename_i h0
      rw [if_pos h0] at hin
      exact og_a (P:=[]) (np:=0) hF hy (by omega) hin hlt
    rename_i h0
    rw [if_neg h0] at hin
    exact og_b hF hy (by omega) cc_f hin hlt
theorem ofd {n1:Bool} {a1 b1:ByteArray} {x1:Rat}{n2:Bool} {a2 b2:ByteArray} {x2:Rat}{n3:Bool} {a3 b3:ByteArray} {x3:Rat}{n4:Bool} {a4 b4:ByteArray} {x4:Rat}{q:List (Int × Int)} (h1':IsR n1 a1 b1 x1 2000000) (h2':IsR n2 a2 b2 x2 2000000) (h3':IsR n3 a3 b3 x3 2000000) (h4':IsR n4 a4 b4 x4 2000000) (e1:-64≤sF x1) (e2:flv x3 < 64) (e3:sF x1≤flv x3) (e4:-64≤sF x2) (e5:flv x4 < 64) (e6:sF x2≤flv x4) (hb:TSpecN Tryd.prog 0 (.block 0 (.loop (loopOf Tryd.f14 0))) (ogN (nv [rr n1 a1 b1,rr n2 a2 b2,rr n3 a3 b3,rr n4 a4 b4]) (sF x1) (flv x3) (flv x4) (sF x2)) .normal (ogR (nv [rr n1 a1 b1,rr n2 a2 b2,rr n3 a3 b3,rr n4 a4 b4]) (cc q) q.length (sF x1) (flv x3) (flv x4) (flv x4+1))) (h0:decide ((0:Int) < cmpR x1 x3)=false) (h1:decide ((0:Int) < cmpR x2 x4)=false) (h2:sO x1 x3=true) (h3:sO x2 x4=true) (h4:decide ((400:Int) < nc x1 x3*nc x2 x4)=false):FSpec Tryd.prog 14 [.c (ag [rr n1 a1 b1,rr n2 a2 b2,rr n3 a3 b3,rr n4 a4 b4])] [] (.td 0 q.length 2 (.int .i64 0)) [some ⟨true,cc q⟩]:=by
  exact fspec_ok Tryd.func14 (sc:=[(1,6,.fix (.int .i64 (cmpR x1 x3))),(1,7,.is (.c (.bool false))),(1,15,.fix (.int .i64 (cmpR x2 x4))),(1,16,.is (.c (.bool false))),(3,6,.fix (.tuple #[.int .i64 (sF x1),.int .i64 (flv x3),.bool (sO x1 x3)])),(3,10,.is (.c (.bool true))),(4,6,.fix (.tuple #[.int .i64 (sF x2),.int .i64 (flv x4),.bool (sO x2 x4)])),(4,10,.is (.c (.bool true))),(7,2,.is (.c (.int .i64 (flv x3 - sF x1)))),(7,3,.is (.c (.int .i64 (nc x1 x3)))),(7,6,.is (.c (.int .i64 (flv x4 - sF x2)))),(7,7,.is (.c (.int .i64 (nc x2 x4)))),(7,8,.is (.c (.int .i64 (nc x1 x3*nc x2 x4)))),(7,9,.is (.c (.bool false))),(0,99999,.maskN (mask 88 0 [4,5,8,10,11]))]) (sb:=[(0,.normal,ogR (nv [rr n1 a1 b1,rr n2 a2 b2,rr n3 a3 b3,rr n4 a4 b4]) (cc q) q.length (sF x1) (flv x3) (flv x4) (flv x4+1))]) (keep:=[1]) (by kernel_rfl) (hP (show Flat [some ⟨true,cc q⟩] from flk cc_f trivial) (hC (cmp_k h1' h3' (by decide +kernel)) (hP (isB h0) (hC (cmp_k h2' h4' (by decide +kernel)) (hP (isB h1) (hC (sides_k h1' h3' (by decide +kernel)) (hP (isB h2) (hC (sides_k h2' h4' (by decide +kernel)) (hP (isB h3) (hP (show V.c (Value.int .i64 (IntKind.wrap .i64 (flv x3 - sF x1))) = .c (.int .i64 (flv x3 - sF x1)) from (gI (by rw [IntKind.wrap_i64]; omega))) (hP (show V.c (Value.int .i64 (IntKind.wrap .i64 (flv x3 - sF x1+(1:Int)))) = .c (.int .i64 (nc x1 x3)) from (gI (by rw [IntKind.wrap_i64]; unfold nc; omega))) (hP (show V.c (Value.int .i64 (IntKind.wrap .i64 (flv x4 - sF x2))) = .c (.int .i64 (flv x4 - sF x2)) from (gI (by rw [IntKind.wrap_i64]; omega))) (hP (show V.c (Value.int .i64 (IntKind.wrap .i64 (flv x4 - sF x2+(1:Int)))) = .c (.int .i64 (nc x2 x4)) from (gI (by rw [IntKind.wrap_i64]; unfold nc; omega))) (hP (show V.c (Value.int .i64 (IntKind.wrap .i64 (nc x1 x3*nc x2 x4))) = .c (.int .i64 (nc x1 x3*nc x2 x4)) from (gI (mulb (by unfold nc; omega) (by unfold nc; omega) (by unfold nc; omega) (by unfold nc; omega)))) (hP (isB h4) (hP (show Flat [some ⟨Bool.true,nv [[.bool n1],[.string a1],[.string b1],[.bool n2],[.string a2],[.string b2],[.bool n3],[.string a3],[.string b3],[.bool n4],[.string a4],[.string b4]]⟩] from (flk rfl trivial)) (hP (hb) hN)))))))))))))))))
section
variable {n1:Bool} {a1 b1:ByteArray} {x1:Rat}{n2:Bool} {a2 b2:ByteArray} {x2:Rat}{n3:Bool} {a3 b3:ByteArray} {x3:Rat}{n4:Bool} {a4 b4:ByteArray} {x4:Rat}
theorem cgt_t {x y:Rat} (h:¬ x≤y):decide (0 < cmpR x y)=true:=decide_eq_true (cmpR_gt.2 (Rat.not_le.1 h))
theorem cgt_f {x y:Rat} (h:x≤y):decide (0 < cmpR x y)=false:=decide_eq_false (fun g=>Rat.not_le.2 (cmpR_gt.1 g) h)
def gq (x1 x2 x3 x4:Rat):List (Int × Int):=gridL (ival (sF x1) (flv x3+1)) (ival (sF x2) (flv x4+1))
theorem ofA_k (h1':IsR n1 a1 b1 x1 2000000) (h2':IsR n2 a2 b2 x2 2000000) (h3':IsR n3 a3 b3 x3 2000000) (h4':IsR n4 a4 b4 x4 2000000) (hm:MustA x1 x2 x3 x4):CSpec Tryd.prog 14 #[ag [rr n1 a1 b1,rr n2 a2 b2,rr n3 a3 b3,rr n4 a4 b4]] (.tuple #[.slice none 0 0,.int .i64 1]):=by
  by_cases g:x1≤x3
  · exact ofa2 h1' h2' h3' h4' (cgt_f g) (cgt_t fun g2=>hm ⟨g,g2⟩)
  exact ofa1 h1' h2' h3' h4' (cgt_t g)
theorem ofB_k (h1':IsR n1 a1 b1 x1 2000000) (h2':IsR n2 a2 b2 x2 2000000) (h3':IsR n3 a3 b3 x3 2000000) (h4':IsR n4 a4 b4 x4 2000000) (hm:MustB x1 x2 x3 x4):CSpec Tryd.prog 14 #[ag [rr n1 a1 b1,rr n2 a2 b2,rr n3 a3 b3,rr n4 a4 b4]] (.tuple #[.slice none 0 0,.int .i64 17]):=by
  obtain ⟨⟨g1,g2⟩,hg⟩:=hm
  rw [← inG_sO g1,← inG_sO g2] at hg
  cases e:sO x1 x3 with
  | false=>exact ofb1 h1' h2' h3' h4' (cgt_f g1) (cgt_f g2) e
  | true =>
    rw [e,Bool.true_and] at hg
    exact ofb2 h1' h2' h3' h4' (cgt_f g1) (cgt_f g2) e hg
theorem ofC_k (h1':IsR n1 a1 b1 x1 2000000) (h2':IsR n2 a2 b2 x2 2000000) (h3':IsR n3 a3 b3 x3 2000000) (h4':IsR n4 a4 b4 x4 2000000) (hm:MustC x1 x2 x3 x4):CSpec Tryd.prog 14 #[ag [rr n1 a1 b1,rr n2 a2 b2,rr n3 a3 b3,rr n4 a4 b4]] (.tuple #[.slice none 0 0,.int .i64 2]):=by
  obtain ⟨⟨g1,g2,g3,g4⟩,hn⟩:=hm
  have a:=nc_b g1 g3
  have b:=nc_b g2 g4
  exact ofc h1' h2' h3' h4' a.1.1 a.1.2 a.2 b.1.1 b.1.2 b.2 (cgt_f g1) (cgt_f g2) ((inG_sO g1).trans g3) ((inG_sO g2).trans g4) (decide_eq_true hn)
theorem ofD_k (h1':IsR n1 a1 b1 x1 2000000) (h2':IsR n2 a2 b2 x2 2000000) (h3':IsR n3 a3 b3 x3 2000000) (h4':IsR n4 a4 b4 x4 2000000) (hm:MustD x1 x2 x3 x4):FSpec Tryd.prog 14 [.c (ag [rr n1 a1 b1,rr n2 a2 b2,rr n3 a3 b3,rr n4 a4 b4])] [] (.td 0 (gq x1 x2 x3 x4).length 2 (.int .i64 0)) [some ⟨true,cc (gq x1 x2 x3 x4)⟩]:=by
  obtain ⟨⟨g1,g2,g3,g4⟩,hn⟩:=hm
  have a:=nc_b g1 g3
  have b:=nc_b g2 g4
  have hb:=tsn_le (m:=0) (RoundsN.spec (of_out (F:=nv [rr n1 a1 b1,rr n2 a2 b2,rr n3 a3 b3,rr n4 a4 b4]) rfl a.1.1 a.2 a.1.2 b.1.2 (flv x4+1 - sF x2).toNat [] (sF x2) (by omega) b.1.1 (.inl (by omega)) (by simp only [List.length_nil]; omega))) (by omega)
  exact ofd h1' h2' h3' h4' a.1.1 a.1.2 a.2 b.1.1 b.1.2 b.2 hb (cgt_f g1) (cgt_f g2) ((inG_sO g1).trans g3) ((inG_sO g2).trans g4) (decide_eq_false (by omega))
end
end Go.Proofs.YtkpeembfagcpcaaDoor.G
