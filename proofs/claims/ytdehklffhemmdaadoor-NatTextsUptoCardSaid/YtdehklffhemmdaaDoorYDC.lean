import Derived.Test.YtdehklffhemmdaaDoorYNR
import Derived.Test.YtdehklffhemmdaaDoorYU6
import Derived.Test.YtdehklffhemmdaaDoorYXT
namespace Go.Proofs.YtdehklffhemmdaaDoor.G
open Go.Proofs.YtdehklffhemmdaaDoor.U Go.RowKit
set_option linter.unusedVariables false
set_option maxRecDepth 100000
def dcN (l:List Nat) (s:ByteArray) (r i:Nat):St:=⟨slots 52 0 [(3,.c (.string s)),(5,.c (.slice none 0 0)),(6,.c (.int .i64 (r:Int))),(15,.sd 0 l.length 1),(16,.c (.int .i64 (l.length:Int))),(17,.c (.int .i64 (i:Int)))],[some ⟨false,byc l⟩]⟩
def dcR (l:List Nat) (s:ByteArray) (cs:List V) (n r i:Nat):St:=⟨slots 52 0 [(3,.c (.string s)),(5,.sd 1 n 1),(6,.c (.int .i64 (r:Int))),(15,.sd 0 l.length 1),(16,.c (.int .i64 (l.length:Int))),(17,.c (.int .i64 (i:Int)))],[some ⟨false,byc l⟩,some ⟨true,cs⟩]⟩
abbrev dcQ (l:List Nat) (s:ByteArray) (q:List Nat) (r i:Nat):St:=dcR l s (byc q) q.length r i
theorem byc_at {l:List Nat} {i c:Nat} (h:l[i]? = some c):(byc l)[i*1]? = some (.c (.int .u8 (c:Int))):=by
  simp [byc,u8c,h]
theorem byc_f {l:List Nat}:(byc l).all V.isC=true:=by simp [byc,u8c,V.isC]
theorem dc_e1 {r c:Nat} (h1:r≤9) (h2:c < 256):V.c (.int .i64 (IntKind.wrap .i64 (IntKind.wrap .i64 (256*(r:Int))+IntKind.wrap .i64 (c:Int)))) = .c (.int .i64 ((256*r+c:Nat):Int)):=by
  congr 2
  simp only [IntKind.wrap_i64]
  omega
theorem dc_e2 {x:Nat} (h:x < 2560):V.c (.int .u8 (IntKind.wrap .u8 (IntKind.wrap .i64 (Int.tdiv (x:Int) 10)))) = .c (.int .u8 ((x/10:Nat):Int)):=by
  congr 2
  rw [M.tdiv_nn (Int.natCast_nonneg _)]
  rw [IntKind.wrap_u8,IntKind.wrap_i64]
  omega
theorem dc_e3 {x:Nat} (h:x < 2560):V.c (.int .i64 (Int.tmod (x:Int) 10)) = .c (.int .i64 ((x%10:Nat):Int)):=by
  congr 2
theorem inc1 {i n:Nat} (h:i < n) (hn:n < 4611686018427387904):V.c (.int .i64 (IntKind.wrap .i64 ((i:Int)+1))) = .c (.int .i64 ((i+1:Nat):Int)):=by
  congr 2
  rw [IntKind.wrap_i64]
  push_cast
  omega
theorem byc_ap {q:List Nat} {d:Nat}:appB (byc q) [.c (.int .u8 (d:Int))] q.length 1 1=true:=by
  simp [appB,byc,u8c,V.isC,one]
theorem byc_snoc {q:List Nat} {d:Nat}:byc q++[.c (.int .u8 (d:Int))]=byc (q++[d]):=by simp [byc,u8c]
theorem dc_a {l q:List Nat} {s:ByteArray} {r i c:Nat} (hx:l[i]? = some c) (hi:i < l.length) (hl:l.length < 4611686018427387904) (h1:r≤9) (h2:c < 256) (hd:decide (((256*r+c:Nat):Int) > 9)=false) (h0:decide ((↑i:Int) < (↑(List.length l):Int))=true):TSpecN Tryd.prog 1 (loopOf Tryd.f7 2) (dcN l s r i) (.normal) (dcN l s ((256*r+c)%10) (i+1)):=by
  exact tspecN_ren (mask 52 0 [3,5,6,15,16,17]) 1 [] (sc:=[(7,0,.is (.c (.bool true))),(8,1,.fix (.int .u8 (↑c:Int))),(9,4,.is (.c (.int .i64 ((↑((256:Nat)*r+c):Int))))),(10,5,.is (.c (.bool false))),(12,1,.is (.c (.int .i64 ((↑(((256:Nat)*r+c)%(10:Nat)):Int))))),(13,0,.is (.c (.int .i64 ((↑(i+(1:Nat)):Int)))))]) (sb:=[]) (by kernel_rfl) (hP (isB h0) (hP (show (0:Int)≤(↑i:Int)∧(↑i:Int) < (↑(List.length l):Int) by omega) (hP (byc_at hx) (hP (dc_e1 h1 h2) (hP (isB hd) (hP (dc_e3 (x:=256*r+c) (by omega)) (hP (inc1 hi hl) hN))))))) (flk byc_f trivial)
theorem dc_b {l q:List Nat} {s:ByteArray} {r i c:Nat} (hx:l[i]? = some c) (hi:i < l.length) (hl:l.length < 4611686018427387904) (h1:r≤9) (h2:c < 256) (hd:decide (((256*r+c:Nat):Int) > 9)=true) (h0:decide ((↑i:Int) < (↑(List.length l):Int))=true):TSpecN Tryd.prog 1 (loopOf Tryd.f7 2) (dcN l s r i) (.normal) (dcQ l s [(256*r+c)/10] ((256*r+c)%10) (i+1)):=by
  exact tspecN_ren (mask 52 0 [3,5,6,15,16,17]) 1 [2] (sc:=[(7,0,.is (.c (.bool true))),(8,1,.fix (.int .u8 (↑c:Int))),(9,4,.is (.c (.int .i64 ((↑((256:Nat)*r+c):Int))))),(10,5,.is (.c (.bool true))),(11,3,.is (.c (.int .u8 ((↑(((256:Nat)*r+c)/(10:Nat)):Int))))),(11,5,.app),(12,1,.is (.c (.int .i64 ((↑(((256:Nat)*r+c)%(10:Nat)):Int))))),(13,0,.is (.c (.int .i64 ((↑(i+(1:Nat)):Int)))))]) (sb:=[]) (by kernel_rfl) (hP (isB h0) (hP (show (0:Int)≤(↑i:Int)∧(↑i:Int) < (↑(List.length l):Int) by omega) (hP (byc_at hx) (hP (dc_e1 h1 h2) (hP (isB hd) (hP (dc_e2 (x:=256*r+c) (by omega)) (hP (Eq.refl true) (hP (show (1:Nat)≤(9223372036854775807:Nat)∧(1:Nat)≤(140737488355328:Nat) by decide) (hP (dc_e3 (x:=256*r+c) (by omega)) (hP (inc1 hi hl) hN)))))))))) (flk byc_f (flk byc_f trivial))
theorem dc_c {l q:List Nat} {s:ByteArray} {r i c:Nat} (hx:l[i]? = some c) (hi:i < l.length) (hl:l.length < 4611686018427387904) (h1:r≤9) (h2:c < 256) (hq:decide ((q.length:Int) > 0)=true) (hn:q.length < 140737488355328) (h0:decide ((↑i:Int) < (↑(List.length l):Int))=true):TSpecN Tryd.prog 1 (loopOf Tryd.f7 2) (dcQ l s q r i) (.normal) (dcR l s (byc q++[.c (.int .u8 (((256*r+c)/10:Nat):Int))]) (q.length+1) ((256*r+c)%10) (i+1)):=by
  exact tspecN_ren (mask 52 0 [3,5,6,15,16,17]) 1 [3] (sc:=[(7,0,.is (.c (.bool true))),(8,1,.fix (.int .u8 (↑c:Int))),(9,4,.is (.c (.int .i64 ((↑((256:Nat)*r+c):Int))))),(10,2,.is (.c (.bool true))),(11,3,.is (.c (.int .u8 ((↑(((256:Nat)*r+c)/(10:Nat)):Int))))),(11,5,.app),(12,1,.is (.c (.int .i64 ((↑(((256:Nat)*r+c)%(10:Nat)):Int))))),(13,0,.is (.c (.int .i64 ((↑(i+(1:Nat)):Int)))))]) (sb:=[]) (by kernel_rfl) (hP (isB h0) (hP (show (0:Int)≤(↑i:Int)∧(↑i:Int) < (↑(List.length l):Int) by omega) (hP (byc_at hx) (hP (dc_e1 h1 h2) (hP (isB hq) (hP (dc_e2 (x:=256*r+c) (by omega)) (hP (byc_ap (q:=q) (d:=(256*r+c)/10)) (hP (show List.length q+(1:Nat)≤(9223372036854775807:Nat)∧(List.length q+(1:Nat))*(1:Nat)≤(140737488355328:Nat) by omega) (hP (dc_e3 (x:=256*r+c) (by omega)) (hP (inc1 hi hl) hN)))))))))) (flk byc_f (flk (flap byc_f rfl) trivial))
theorem dc_d {l q:List Nat} {s:ByteArray} {r i:Nat}  (h0:decide ((↑i:Int) < (↑(List.length l):Int))=false):TSpecN Tryd.prog 1 (loopOf Tryd.f7 2) (dcN l s r i) (.exit 2) (dcN l s r i):=by
  exact tspecN_ren (mask 52 0 [3,5,6,15,16,17]) 1 [] (sc:=[(7,0,.is (.c (.bool false)))]) (sb:=[]) (by kernel_rfl) (hP (isB h0) hN) (flk byc_f trivial)
theorem dc_e {l q:List Nat} {s:ByteArray} {r i:Nat}  (h0:decide ((↑i:Int) < (↑(List.length l):Int))=false):TSpecN Tryd.prog 1 (loopOf Tryd.f7 2) (dcQ l s q r i) (.exit 2) (dcQ l s q r i):=by
  exact tspecN_ren (mask 52 0 [3,5,6,15,16,17]) 1 [1] (sc:=[(7,0,.is (.c (.bool false)))]) (sb:=[]) (by kernel_rfl) (hP (isB h0) hN) (flk byc_f (flk byc_f trivial))
theorem TSpecN.le {P:Program} {n m:Nat} {c:Code} {s s':St} {e:Ex} (h:TSpecN P n c s e s') (hm:m≤n):TSpecN P m c s e s':=fun C w0 β a w hn hok=>h C w0 β a w (Nat.le_trans hn hm) hok
def ds:List Nat→List Nat→Nat→List Nat × Nat
  | [],q,r=>(q,r)
  | c::t,q,r=>ds t (if q≠[]∨9 < 256*r+c then q++[(256*r+c)/10] else q) ((256*r+c)%10)
def dst (l:List Nat) (s:ByteArray) (q:List Nat) (r i:Nat):St:=if q=[] then dcN l s r i else dcQ l s q r i
theorem dc_in {l:List Nat} {s:ByteArray} (hl:l.length < 140737488355328) (hc:∀ c∈l,c < 256):∀ (t q:List Nat) (r i:Nat),l.drop i=t→i+t.length=l.length→r≤9→q.length≤i →
    RoundsN Tryd.prog 1 (loopOf Tryd.f7 2) 2 (dst l s q r i) .normal (dst l s (ds t q r).1 (ds t q r).2 l.length)
  | [],q,r,i,hd,ht,hr,hq=>by
    have hi:i=l.length:=by simpa using ht
    subst hi
    refine .stop ?_
    unfold ds dst
    have h0:decide ((l.length:Int) < (l.length:Int))=false:=decide_eq_false (by omega)
    split
    · exact dc_d (q:=[]) h0
    exact dc_e h0
  | c::t,q,r,i,hd,ht,hr,hq=>by
    have hi:i < l.length:=by simp only [List.length_cons] at ht; omega
    have hx:l[i]? = some c:=by
      have:=congrArg (fun q=>q[0]?) hd
      simpa using this
    have hcc:c < 256:=hc c (List.mem_of_getElem? hx)
    have hd2:l.drop (i+1)=t:=by
      have:=congrArg (List.drop 1) hd
      simpa [List.drop_drop] using this
    have h0:decide ((i:Int) < (l.length:Int))=true:=decide_eq_true (by omega)
    have hlen:i+1+t.length=l.length:=by simp only [List.length_cons] at ht; omega
    have ih:=dc_in (s:=s) hl hc t (if q≠[]∨9 < 256*r+c then q++[(256*r+c)/10] else q) ((256*r+c)%10) (i+1) hd2 hlen (by omega) (by
      split
      · rw [List.length_append,List.length_singleton]; omega
      omega)
    refine .step ?_ ih
    by_cases h:q=[]
    · subst h
      by_cases h9:9 < 256*r+c
      · simp only [dst,ne_eq,not_true_eq_false,false_or,if_pos h9,if_true,List.nil_append,List.cons_ne_nil,if_false]
        exact dc_b (q:=[]) hx hi (by omega) hr hcc (decide_eq_true (by omega)) h0
      simp only [dst,ne_eq,not_true_eq_false,false_or,if_neg h9,if_true]
      exact dc_a (q:=[]) hx hi (by omega) hr hcc (decide_eq_false (by omega)) h0
    have hne:q++[(256*r+c)/10]≠[]:=by simp
    have hlq:0 < q.length:=List.length_pos_iff.2 h
    simp only [dst,ne_eq,h,not_false_eq_true,true_or,if_true,if_false,hne]
    have:=dc_c (l:=l) (s:=s) (q:=q) hx hi (by omega) hr hcc (decide_eq_true (by omega)) (by omega) h0
    rw [byc_snoc] at this
    unfold dcQ
    rw [List.length_append]
    exact this
theorem enc_d {r:Nat} (h:r≤9):V.c (.string (Utf8.encode (IntKind.wrap .i32 (IntKind.wrap .i64 (48+(r:Int)))))) = .c (.string (strOfNums [48+(r:Int)])):=by
  congr 2
  have:r=0∨r=1∨r=2∨r=3∨r=4∨r=5∨r=6∨r=7∨r=8∨r=9:=by omega
  rcases this with rfl | rfl | rfl | rfl | rfl | rfl | rfl | rfl | rfl | rfl<;>decide +kernel
theorem cat_v {P:Program} {a b:ByteArray} (h:a.size+b.size≤9223372036854775807):sval P (do let v ← Op.stringOp .add a b; pure (Next.value v))=some (.value (.string (a++b))):=by
  have:¬ (((a.size+b.size:Nat):Int) > IntKind.i64.max):=by
    have:IntKind.i64.max=9223372036854775807:=by decide
    omega
  simp only [Op.stringOp,if_neg this]
  rfl
def dcO (l:List Nat) (s:ByteArray):St:=⟨slots 52 0 [(3,.c (.string s)),(4,.sd 0 l.length 1)],[some ⟨false,byc l⟩]⟩
def dcP (q:List Nat) (s:ByteArray):St:=⟨slots 52 0 [(3,.c (.string s)),(4,.sd 0 q.length 1)],[some ⟨true,byc q⟩]⟩
def dcE (s:ByteArray):St:=⟨slots 52 0 [(3,.c (.string s)),(4,.c (.slice none 0 0))],[]⟩
def dcF (s:ByteArray):St:=⟨slots 52 0 [(3,.c (.string s))],[]⟩
theorem dc_f {l q:List Nat} {s:ByteArray} {r:Nat} (h1:r≤9) (hs:(strOfNums [48+(r:Int)]).size+s.size≤9223372036854775807) (hb:TSpecN Tryd.prog 0 (.block 2 (.loop (loopOf Tryd.f7 2))) (dcN l s 0 0) .normal (dcN l s r l.length)) (h0:decide ((0:Int) < (↑(List.length l):Int))=true):TSpecN Tryd.prog 0 (loopOf Tryd.f7 0) (dcO l s) (.normal) (dcE (strOfNums [48+(r:Int)]++s)):=by
  exact tspecN_ren (mask 52 0 [3,4]) 0 [] (sc:=[(3,2,.is (.c (.bool true))),(2,99999,.maskN (mask 52 0 [3,5,6,15,16,17])),(14,4,.is (.c (.string (strOfNums [(48:Int)+(↑r:Int)])))),(14,6,.fix (.string (strOfNums [(48:Int)+(↑r:Int)]++s)))]) (sb:=[(2,.normal,dcN l s r l.length)]) (by kernel_rfl) (hP (isB h0) (hP (show Flat [some { own:=false,cells:=List.map u8c l }] from (flk byc_f trivial)) (hP (hb) (hP (enc_d h1) (hV (cat_v (a:=strOfNums [48+(r:Int)]) (b:=s) hs) hN))))) trivial
theorem dc_g {l q:List Nat} {s:ByteArray} {r:Nat} (h1:r≤9) (hs:(strOfNums [48+(r:Int)]).size+s.size≤9223372036854775807) (hb:TSpecN Tryd.prog 0 (.block 2 (.loop (loopOf Tryd.f7 2))) (dcN l s 0 0) .normal (dcR l s (byc q) q.length r l.length)) (h0:decide ((0:Int) < (↑(List.length l):Int))=true):TSpecN Tryd.prog 0 (loopOf Tryd.f7 0) (dcO l s) (.normal) (dcP q (strOfNums [48+(r:Int)]++s)):=by
  exact tspecN_ren (mask 52 0 [3,4]) 0 [1] (sc:=[(3,2,.is (.c (.bool true))),(2,99999,.maskN (mask 52 0 [3,5,6,15,16,17])),(14,4,.is (.c (.string (strOfNums [(48:Int)+(↑r:Int)])))),(14,6,.fix (.string (strOfNums [(48:Int)+(↑r:Int)]++s)))]) (sb:=[(2,.normal,dcR l s (byc q) q.length r l.length)]) (by kernel_rfl) (hP (isB h0) (hP (show Flat [some { own:=false,cells:=List.map u8c l }] from (flk byc_f trivial)) (hP (hb) (hP (enc_d h1) (hV (cat_v (a:=strOfNums [48+(r:Int)]) (b:=s) hs) hN))))) (flk byc_f trivial)
theorem dc_h {l:List Nat} {s:ByteArray}  (h0:decide ((0:Int) < (↑(List.length l):Int))=false):TSpecN Tryd.prog 0 (loopOf Tryd.f7 0) (dcO l s) (.exit 0) (dcF s):=by
  exact tspecN_ren (mask 52 0 [3]) 0 [] (sc:=[(3,2,.is (.c (.bool false)))]) (sb:=[]) (by kernel_rfl) (hP (isB h0) hN) trivial
theorem dc_i {s:ByteArray}   : TSpecN Tryd.prog 0 (loopOf Tryd.f7 0) (dcE s) (.exit 0) (dcF s):=by
  exact tspecN_ren (mask 52 0 [3]) 0 [] (sc:=[]) (sb:=[]) (by kernel_rfl) hN trivial
def ben (n:Nat) (l:List Nat):Nat:=l.foldl (fun n c=>n*256+c) n
theorem ben_snoc (n:Nat) (l:List Nat) (c:Nat):ben n (l++[c])=ben n l*256+c:=by simp [ben]
theorem ds_spec:∀ (t q:List Nat) (r:Nat),r≤9→(∀ c∈t,c < 256)→(∀ c∈q,c < 256)→(q≠[]→0 < ben 0 q) →
    (ds t q r).2≤9∧(∀ c∈(ds t q r).1,c < 256)∧((ds t q r).1≠[]→0 < ben 0 (ds t q r).1)∧10*ben 0 (ds t q r).1+(ds t q r).2=ben (10*ben 0 q+r) t∧(ds t q r).1.length≤q.length+t.length
  | [],q,r,hr,ht,hq,hl=>⟨hr,hq,hl,rfl,Nat.le_refl _⟩
  | c::t,q,r,hr,ht,hq,hl=>by
    have hc:=ht c List.mem_cons_self
    have ht':∀ c∈t,c < 256:=fun x hx=>ht x (List.mem_cons_of_mem _ hx)
    unfold ds
    show _∧_∧_∧_=ben ((10*ben 0 q+r)*256+c) t∧_
    by_cases h:q≠[]∨9 < 256*r+c
    · rw [if_pos h]
      have ih:=ds_spec t (q++[(256*r+c)/10]) ((256*r+c)%10) (by omega) ht' (fun x hx=>by
        rcases List.mem_append.1 hx with hx | hx
        · exact hq x hx
        · rw [List.mem_singleton.1 hx]; omega) (fun _=>by
        rw [ben_snoc]
        rcases h with h | h
        · have:=hl h; omega
        omega)
      rw [ben_snoc,show 10*(ben 0 q*256+(256*r+c)/10)+(256*r+c)%10=(10*ben 0 q+r)*256+c by omega,List.length_append,List.length_singleton] at ih
      exact ⟨ih.1,ih.2.1,ih.2.2.1,ih.2.2.2.1,by have:=ih.2.2.2.2; simp only [List.length_cons]; omega⟩
    rw [if_neg h]
    have h0:q=[]:=Decidable.byContradiction fun hh=>h (Or.inl hh)
    have h9:256*r+c≤9:=by omega
    subst h0
    have ih:=ds_spec t [] ((256*r+c)%10) (by omega) ht' hq hl
    have e:10*ben 0 []+(256*r+c)%10=(10*ben 0 []+r)*256+c:=by show 10*0+_=(10*0+r)*256+c; omega
    rw [e] at ih
    exact ⟨ih.1,ih.2.1,ih.2.2.1,ih.2.2.2.1,by have:=ih.2.2.2.2; simp only [List.length_cons,List.length_nil] at *; omega⟩
theorem son_cons (x:Int) (l:List Int):strOfNums [x]++strOfNums l=strOfNums (x::l):=by
  apply ByteArray.ext
  simp [strOfNums,ByteArray.data_append]
theorem dc_out:∀ (n m:Nat) (l:List Nat) (o:List Int),n < 10^m→ben 0 l=n→(l≠[]→0 < n)→(∀ c∈l,c < 256)→l.length < 140737488355328→o.length+m≤9000000000000000000 →
    RoundsN Tryd.prog 0 (loopOf Tryd.f7 0) 0 (dcO l (strOfNums o.reverse)) .normal (dcF (strOfNums (o++SB.lo n).reverse)):=by
  intro n
  induction n using Nat.strongRecOn with
  | _ n ih =>
    intro m l o hm hn hp hc hl hs
    by_cases h:l=[]
    · subst h
      have:n=0:=hn.symm
      subst this
      rw [SB.lo_0,List.append_nil]
      exact .stop (dc_h (decide_eq_false (by simp)))
    have hn0:=hp h
    obtain ⟨m,rfl⟩:∃ m',m=m' + 1:=by
      cases m with
      | zero=>simp at hm; omega
      | succ m=>exact ⟨m,rfl⟩
    have hm':n/10 < 10^m:=by rw [Nat.pow_succ] at hm; omega
    clear hm
    have hlp:0 < l.length:=List.length_pos_iff.2 h
    have hin:=TSpecN.le (m:=0) (RoundsN.spec (dc_in (s:=strOfNums o.reverse) hl hc l [] 0 0 rfl (by omega) (by omega) (by simp))) (by omega)
    obtain ⟨d1,d2,d3,d4,d5⟩:=ds_spec l [] 0 (by omega) hc (by simp) (by simp)
    have d4':10*ben 0 (ds l [] 0).1+(ds l [] 0).2=n:=by rw [d4,← hn]; rfl
    clear d4
    obtain ⟨q,r,hqr⟩:∃ q r,ds l [] 0=(q,r):=⟨_,_,rfl⟩
    rw [hqr] at hin d1 d2 d3 d4' d5
    simp only at hin d1 d2 d3 d4' d5
    have e1:n/10=ben 0 q:=by omega
    have e2:((n%10:Nat):Int)=(r:Int):=by omega
    have e3:strOfNums [48+(r:Int)]++strOfNums o.reverse=strOfNums (o++[48+(r:Int)]).reverse:=by
      rw [son_cons,List.reverse_append]
      rfl
    have hz:(strOfNums [48+(r:Int)]).size+(strOfNums o.reverse).size≤9223372036854775807:=by
      rw [strOfNums_size,strOfNums_size,List.length_reverse]
      simp only [List.length_cons,List.length_nil]
      omega
    have e4:o++SB.lo n=(o++[48+(r:Int)])++SB.lo (n/10):=by
      rw [SB.lo_s (by omega),e2,List.append_assoc]
      rfl
    have ht:decide ((0:Int) < (l.length:Int))=true:=decide_eq_true (by omega)
    rw [e4,e1]
    by_cases hq:q=[]
    · subst hq
      have:=dc_f (q:=[]) d1 hz hin ht
      rw [e3] at this
      refine .step this ?_
      rw [show ben 0 []=0 from rfl,SB.lo_0,List.append_nil]
      exact .stop dc_i
    simp only [dst,if_true,if_neg hq] at hin
    have:=dc_g d1 hz hin ht
    rw [e3] at this
    have hpq:=d3 hq
    refine .step (TSpecN.soft this (soft1 _)) (ih (ben 0 q) (by omega) m q _ (by rw [← e1]; exact hm') rfl d3 d2 ?_ ?_)
    · simp only [List.length_nil] at d5; omega
    rw [List.length_append,List.length_singleton]
    omega
def dcOn (n:Nat) (l:List Nat) (s:ByteArray):St:=⟨slots 52 0 [(3,.c (.string s)),(4,.sd 0 n 1)],[some ⟨false,byc l⟩]⟩
def dc0 (a:ByteArray):St:=⟨(([V.c (.string a)]++List.replicate 51 (V.c undef)).set 2 (.c (.string ⟨#[]⟩))).set 3 (.c (.string ⟨#[]⟩)),[]⟩
def dc1 (a b:ByteArray):St:=⟨((dc0 a).t.set 9 (.c (.string a))).set 10 (.c (.string b)),[]⟩
def dc2 (a b:ByteArray):St:=⟨((dc1 a b).t.set 11 (.sd 0 b.size 1)).set 4 (.sd 0 b.size 1),[some ⟨false,byc (bl b)⟩]⟩
theorem dc_reg {a b:ByteArray} (hb:CSpec Tryd.prog 14 #[.string a] (.string b)):TSpec Tryd.prog (.region 2 (regOf Tryd.f7 2) false) (dc0 a) .normal (dc2 a b) :=
  region_bytes (sc:=[(2,1,.fix (.string b))]) (n:=2) (o:=opOf Tryd.f7 2 2) (s1:=dc1 a b) (t:=9) (u:=29) (el:=5) (x:=.tmp 10) (str:=b)
    (by kernel_rfl) (by kernel_rfl) (by kernel_rfl) (by kernel_rfl) (by kernel_rfl) (by kernel_rfl) (by kernel_rfl) (by kernel_rfl) (by kernel_rfl) (hC hb hN) hN
theorem bl_len (b:ByteArray):(bl b).length=b.size:=by
  unfold bl
  rw [List.length_map,Array.length_toList]
  rfl
theorem ben_map (n:Nat) (l:List UInt8):ben n (l.map UInt8.toNat)=l.foldl (fun n c=>n*256+c.toNat) n:=by
  unfold ben
  rw [List.foldl_map]
theorem dc_loop {a:ByteArray} (ha:a.size≤1099511627776):TSpecN Tryd.prog 0 (.block 0 (.loop (loopOf Tryd.f7 0))) (dcOn (M.B (M.V a)).size (bl (M.B (M.V a))) ⟨#[]⟩) .normal (dcF (strOfNums (SB.lo (M.V a)).reverse)):=by
  have hsz:(M.B (M.V a)).size≤a.size:=M.size_B_le (M.V_lt a)
  have hb:M.V a < 10^(3*a.size):=by
    have h1:=M.V_lt a
    have h2:(256:Nat)^a.size≤(10^3)^a.size:=Nat.pow_le_pow_left (by decide) _
    rw [← Nat.pow_mul] at h2
    omega
  have hv:ben 0 (bl (M.B (M.V a)))=M.V a:=by
    have:M.V (M.B (M.V a))=M.V a:=M.V_B _
    unfold bl
    rw [ben_map]
    exact this
  have hc:∀ c∈bl (M.B (M.V a)),c < 256:=by
    intro c hc
    obtain ⟨u,_,rfl⟩:=List.mem_map.1 hc
    exact u.toNat_lt
  have h:=RoundsN.spec (dc_out (M.V a) (3*a.size) (bl (M.B (M.V a))) [] hb hv (fun h=>by
    rcases Nat.eq_zero_or_pos (M.V a) with h0 | h0
    · exfalso
      apply h
      unfold bl
      rw [M.B_toList,M.bytesOf_eq_nil.2 h0]
      rfl
    exact h0) hc (by rw [bl_len]; omega) (by simp only [List.length_nil]; omega))
  rw [List.nil_append] at h
  have e:dcO (bl (M.B (M.V a))) (strOfNums ([]:List Int).reverse)=dcOn (M.B (M.V a)).size (bl (M.B (M.V a))) ⟨#[]⟩:=by
    unfold dcO dcOn
    rw [bl_len]
    rfl
  rw [e] at h
  exact h
theorem dc_str (a b:ByteArray):(a.toList==b.toList)=decide (a=b):=by
  have:=str_neq a b
  by_cases h:a=b
  · subst h; simp
  rw [decide_eq_true h] at this
  rw [decide_eq_false h]
  simpa using this
theorem son_nil {l:List Int}:strOfNums l=⟨#[]⟩↔l=[]:=by
  constructor
  · intro h
    have:=congrArg ByteArray.size h
    rw [strOfNums_size] at this
    exact List.length_eq_zero_iff.1 this
  rintro rfl; rfl
theorem decimal_k {a:ByteArray} (ha:a.size≤1099511627776):CSpec Tryd.prog 7 #[.string a] (.string (SB.decB (SB.lo (M.V a)))):=by
  have hreg:=dc_reg (rbarer_k (a:=a))
  have hout:=dc_loop ha
  unfold SB.decB
  by_cases h:SB.lo (M.V a)=[]
  · rw [if_pos h]
    have e:(strOfNums (SB.lo (M.V a)).reverse)=⟨#[]⟩:=son_nil.2 (by rw [h]; rfl)
    have hb:((strOfNums (SB.lo (M.V a)).reverse).toList==ByteArray.toList ⟨#[]⟩)=true:=by rw [e]; exact beq_self_eq_true _
    exact fn_ok Tryd.func7 (sc:=[(0,99999,.maskN (mask 52 0 [3,4])),(15,1,.is (.c (.bool true)))]) (sb:=[(900000002,.normal,dc2 a (M.B (M.V a))),(0,.normal,dcF (strOfNums (SB.lo (M.V a)).reverse))]) (by kernel_rfl) (hP hreg (hP (show Flat [some ⟨false,byc (bl (M.B (M.V a)))⟩] from flk byc_f trivial) (hP hout (hP (isB hb) hN))))
  rw [if_neg h]
  have hb:((strOfNums (SB.lo (M.V a)).reverse).toList==ByteArray.toList ⟨#[]⟩)=false:=by
    rw [dc_str]
    exact decide_eq_false fun e=>h (List.reverse_eq_nil_iff.1 (son_nil.1 e))
  exact fn_ok Tryd.func7 (sc:=[(0,99999,.maskN (mask 52 0 [3,4])),(15,1,.is (.c (.bool false)))]) (sb:=[(900000002,.normal,dc2 a (M.B (M.V a))),(0,.normal,dcF (strOfNums (SB.lo (M.V a)).reverse))]) (by kernel_rfl) (hP hreg (hP (show Flat [some ⟨false,byc (bl (M.B (M.V a)))⟩] from flk byc_f trivial) (hP hout (hP (isB hb) hN))))
end Go.Proofs.YtdehklffhemmdaaDoor.G
