import Derived.Test.YtkpeembfagcpcaaDoorYRQ
import Derived.Test.YtkpeembfagcpcaaDoorYU6
import Derived.Test.YtkpeembfagcpcaaDoorYXR
import Derived.Test.YtkpeembfagcpcaaDoorYBA
import Derived.Test.YtkpeembfagcpcaaDoorYHY
import Derived.Lib.IndexLaws
set_option maxRecDepth 100000
set_option linter.unusedVariables false
section
namespace Go.Proofs.YtkpeembfagcpcaaDoor.G
open Go.Proofs.YtkpeembfagcpcaaDoor.U Go.RowKit
def dcN (l:List Nat) (s:ByteArray) (r i:Nat):St:=⟨slots 52 0 [(3,.c (.string s)),(5,.c (.slice none 0 0)),(6,.c (.int .i64 (r:Int))),(15,.sd 0 l.length 1),(16,.c (.int .i64 (l.length:Int))),(17,.c (.int .i64 (i:Int)))],[some ⟨false,byc l⟩]⟩
def dcR (l:List Nat) (s:ByteArray) (cs:List V) (n r i:Nat):St:=⟨slots 52 0 [(3,.c (.string s)),(5,.sd 1 n 1),(6,.c (.int .i64 (r:Int))),(15,.sd 0 l.length 1),(16,.c (.int .i64 (l.length:Int))),(17,.c (.int .i64 (i:Int)))],[some ⟨false,byc l⟩,some ⟨true,cs⟩]⟩
abbrev dcQ (l:List Nat) (s:ByteArray) (q:List Nat) (r i:Nat):St:=dcR l s (byc q) q.length r i
theorem byc_at {l:List Nat} {i c:Nat} (h:l[i]? = some c):(byc l)[i*1]? = some (.c (.int .u8 (c:Int))):=by
 simp [byc,u8c,h]
theorem byc_f {l:List Nat}:(byc l).all V.isC=true:=by simp [byc,u8c,V.isC]
theorem dc_e1 {r c:Nat} (h1:r≤9) (h2:c < 256):V.c (.int .i64 (IntKind.wrap .i64 (IntKind.wrap .i64 (256*(r:Int))+IntKind.wrap .i64 (c:Int)))) = .c (.int .i64 ((256*r+c:Nat):Int)):=by
 congr 2
 simp only [IntKind.wrap_i64]
 omega
theorem dc_e2 {x:Nat} (h:x < 2560):V.c (.int .u8 (IntKind.wrap .u8 (IntKind.wrap .i64 (Int.tdiv (x:Int) 10)))) = .c (.int .u8 ((x/10:Nat):Int)):=by
 congr 2
 rw [M.tdiv_nn (Int.natCast_nonneg _)]
 rw [IntKind.wrap_u8,IntKind.wrap_i64]
 omega
theorem dc_e3 {x:Nat} (h:x < 2560):V.c (.int .i64 (Int.tmod (x:Int) 10)) = .c (.int .i64 ((x%10:Nat):Int)):=by
 congr 2
theorem inc1 {i n:Nat} (h:i < n) (hn:n < 4611686018427387904):V.c (.int .i64 (IntKind.wrap .i64 ((i:Int)+1))) = .c (.int .i64 ((i+1:Nat):Int)):=by
 congr 2
 rw [IntKind.wrap_i64]
 push_cast
 omega
theorem byc_ap {q:List Nat} {d:Nat}:appB (byc q) [.c (.int .u8 (d:Int))] q.length 1 1=true:=by
 simp [appB,byc,u8c,V.isC,one]
theorem byc_snoc {q:List Nat} {d:Nat}:byc q++[.c (.int .u8 (d:Int))]=byc (q++[d]):=by simp [byc,u8c]
theorem dc_a {l q:List Nat} {s:ByteArray} {r i c:Nat} (hx:l[i]? = some c) (hi:i < l.length) (hl:l.length < 4611686018427387904) (h1:r≤9) (h2:c < 256) (hd:decide (((256*r+c:Nat):Int) > 9)=false) (h0:decide ((↑i:Int) < (↑(List.length l):Int))=true):TSpecN Tryd.prog 1 (loopOf Tryd.f12 2) (dcN l s r i) (.normal) (dcN l s ((256*r+c)%10) (i+1)):=by
 exact tspecN_ren (mask 52 0 [3,5,6,15,16,17]) 1 [] (sc:=[(7,0,.is (.c (.bool true))),(8,1,.fix (.int .u8 (↑c:Int))),(9,4,.is (.c (.int .i64 ((↑((256:Nat)*r+c):Int))))),(10,5,.is (.c (.bool false))),(12,1,.is (.c (.int .i64 ((↑(((256:Nat)*r+c)%(10:Nat)):Int))))),(13,0,.is (.c (.int .i64 ((↑(i+(1:Nat)):Int)))))]) (sb:=[]) (by kernel_rfl) (hP (isB h0) (hP (show (0:Int)≤(↑i:Int)∧(↑i:Int) < (↑(List.length l):Int) by omega) (hP (byc_at hx) (hP (dc_e1 h1 h2) (hP (isB hd) (hP (dc_e3 (x:=256*r+c) (by omega)) (hP (inc1 hi hl) hN))))))) (flk byc_f trivial)
theorem dc_b {l q:List Nat} {s:ByteArray} {r i c:Nat} (hx:l[i]? = some c) (hi:i < l.length) (hl:l.length < 4611686018427387904) (h1:r≤9) (h2:c < 256) (hd:decide (((256*r+c:Nat):Int) > 9)=true) (h0:decide ((↑i:Int) < (↑(List.length l):Int))=true):TSpecN Tryd.prog 1 (loopOf Tryd.f12 2) (dcN l s r i) (.normal) (dcQ l s [(256*r+c)/10] ((256*r+c)%10) (i+1)):=by
 exact tspecN_ren (mask 52 0 [3,5,6,15,16,17]) 1 [2] (sc:=[(7,0,.is (.c (.bool true))),(8,1,.fix (.int .u8 (↑c:Int))),(9,4,.is (.c (.int .i64 ((↑((256:Nat)*r+c):Int))))),(10,5,.is (.c (.bool true))),(11,3,.is (.c (.int .u8 ((↑(((256:Nat)*r+c)/(10:Nat)):Int))))),(11,5,.app),(12,1,.is (.c (.int .i64 ((↑(((256:Nat)*r+c)%(10:Nat)):Int))))),(13,0,.is (.c (.int .i64 ((↑(i+(1:Nat)):Int)))))]) (sb:=[]) (by kernel_rfl) (hP (isB h0) (hP (show (0:Int)≤(↑i:Int)∧(↑i:Int) < (↑(List.length l):Int) by omega) (hP (byc_at hx) (hP (dc_e1 h1 h2) (hP (isB hd) (hP (dc_e2 (x:=256*r+c) (by omega)) (hP (Eq.refl true) (hP (show (1:Nat)≤(9223372036854775807:Nat)∧(1:Nat)≤(140737488355328:Nat) by decide) (hP (dc_e3 (x:=256*r+c) (by omega)) (hP (inc1 hi hl) hN)))))))))) (flk byc_f (flk byc_f trivial))
theorem dc_c {l q:List Nat} {s:ByteArray} {r i c:Nat} (hx:l[i]? = some c) (hi:i < l.length) (hl:l.length < 4611686018427387904) (h1:r≤9) (h2:c < 256) (hq:decide ((q.length:Int) > 0)=true) (hn:q.length < 140737488355328) (h0:decide ((↑i:Int) < (↑(List.length l):Int))=true):TSpecN Tryd.prog 1 (loopOf Tryd.f12 2) (dcQ l s q r i) (.normal) (dcR l s (byc q++[.c (.int .u8 (((256*r+c)/10:Nat):Int))]) (q.length+1) ((256*r+c)%10) (i+1)):=by
 exact tspecN_ren (mask 52 0 [3,5,6,15,16,17]) 1 [3] (sc:=[(7,0,.is (.c (.bool true))),(8,1,.fix (.int .u8 (↑c:Int))),(9,4,.is (.c (.int .i64 ((↑((256:Nat)*r+c):Int))))),(10,2,.is (.c (.bool true))),(11,3,.is (.c (.int .u8 ((↑(((256:Nat)*r+c)/(10:Nat)):Int))))),(11,5,.app),(12,1,.is (.c (.int .i64 ((↑(((256:Nat)*r+c)%(10:Nat)):Int))))),(13,0,.is (.c (.int .i64 ((↑(i+(1:Nat)):Int)))))]) (sb:=[]) (by kernel_rfl) (hP (isB h0) (hP (show (0:Int)≤(↑i:Int)∧(↑i:Int) < (↑(List.length l):Int) by omega) (hP (byc_at hx) (hP (dc_e1 h1 h2) (hP (isB hq) (hP (dc_e2 (x:=256*r+c) (by omega)) (hP (byc_ap (q:=q) (d:=(256*r+c)/10)) (hP (show List.length q+(1:Nat)≤(9223372036854775807:Nat)∧(List.length q+(1:Nat))*(1:Nat)≤(140737488355328:Nat) by omega) (hP (dc_e3 (x:=256*r+c) (by omega)) (hP (inc1 hi hl) hN)))))))))) (flk byc_f (flk (flap byc_f rfl) trivial))
theorem dc_d {l q:List Nat} {s:ByteArray} {r i:Nat}  (h0:decide ((↑i:Int) < (↑(List.length l):Int))=false):TSpecN Tryd.prog 1 (loopOf Tryd.f12 2) (dcN l s r i) (.exit 2) (dcN l s r i):=by
 exact tspecN_ren (mask 52 0 [3,5,6,15,16,17]) 1 [] (sc:=[(7,0,.is (.c (.bool false)))]) (sb:=[]) (by kernel_rfl) (hP (isB h0) hN) (flk byc_f trivial)
theorem dc_e {l q:List Nat} {s:ByteArray} {r i:Nat}  (h0:decide ((↑i:Int) < (↑(List.length l):Int))=false):TSpecN Tryd.prog 1 (loopOf Tryd.f12 2) (dcQ l s q r i) (.exit 2) (dcQ l s q r i):=by
 exact tspecN_ren (mask 52 0 [3,5,6,15,16,17]) 1 [1] (sc:=[(7,0,.is (.c (.bool false)))]) (sb:=[]) (by kernel_rfl) (hP (isB h0) hN) (flk byc_f (flk byc_f trivial))
theorem TSpecN.le {P:Program} {n m:Nat} {c:Code} {s s':St} {e:Ex} (h:TSpecN P n c s e s') (hm:m≤n):TSpecN P m c s e s':=fun C w0 β a w hn hok=>h C w0 β a w (Nat.le_trans hn hm) hok
def ds:List Nat→List Nat→Nat→List Nat × Nat
 | [],q,r=>(q,r)
 | c::t,q,r=>ds t (if q≠[]∨9 < 256*r+c then q++[(256*r+c)/10] else q) ((256*r+c)%10)
def dst (l:List Nat) (s:ByteArray) (q:List Nat) (r i:Nat):St:=if q=[] then dcN l s r i else dcQ l s q r i
theorem dc_in {l:List Nat} {s:ByteArray} (hl:l.length < 140737488355328) (hc:∀ c∈l,c < 256):∀ (t q:List Nat) (r i:Nat),l.drop i=t→i+t.length=l.length→r≤9→q.length≤i →
 RoundsN Tryd.prog 1 (loopOf Tryd.f12 2) 2 (dst l s q r i) .normal (dst l s (ds t q r).1 (ds t q r).2 l.length)
 | [],q,r,i,hd,ht,hr,hq=>by
   have hi:i=l.length:=by simpa using ht
   subst hi
   refine .stop ?_
   unfold ds dst
   have h0:decide ((l.length:Int) < (l.length:Int))=false:=decide_eq_false (by omega)
   split
   ·exact dc_d (q:=[]) h0
   exact dc_e h0
 | c::t,q,r,i,hd,ht,hr,hq=>by
   have hi:i < l.length:=by simp only [List.length_cons] at ht; omega
   have hx:l[i]? = some c:=by
    have:=congrArg (fun q=>q[0]?) hd
    simpa using this
   have hcc:c < 256:=hc c (List.mem_of_getElem? hx)
   have hd2:l.drop (i+1)=t:=by
    have:=congrArg (List.drop 1) hd
    simpa [List.drop_drop] using this
   have h0:decide ((i:Int) < (l.length:Int))=true:=decide_eq_true (by omega)
   have hlen:i+1+t.length=l.length:=by simp only [List.length_cons] at ht; omega
   have ih:=dc_in (s:=s) hl hc t (if q≠[]∨9 < 256*r+c then q++[(256*r+c)/10] else q) ((256*r+c)%10) (i+1) hd2 hlen (by omega) (by
    split
    ·rw [List.length_append,List.length_singleton]; omega
    omega)
   refine .step ?_ ih
   by_cases h:q=[]
   ·subst h
    by_cases h9:9 < 256*r+c
    ·simp only [dst,ne_eq,not_true_eq_false,false_or,if_pos h9,if_true,List.nil_append,List.cons_ne_nil,if_false]
     exact dc_b (q:=[]) hx hi (by omega) hr hcc (decide_eq_true (by omega)) h0
    simp only [dst,ne_eq,not_true_eq_false,false_or,if_neg h9,if_true]
    exact dc_a (q:=[]) hx hi (by omega) hr hcc (decide_eq_false (by omega)) h0
   have hne:q++[(256*r+c)/10]≠[]:=by simp
   have hlq:0 < q.length:=List.length_pos_iff.2 h
   simp only [dst,ne_eq,h,not_false_eq_true,true_or,if_true,if_false,hne]
   have:=dc_c (l:=l) (s:=s) (q:=q) hx hi (by omega) hr hcc (decide_eq_true (by omega)) (by omega) h0
   rw [byc_snoc] at this
   unfold dcQ
   rw [List.length_append]
   exact this
theorem enc_d {r:Nat} (h:r≤9):V.c (.string (Utf8.encode (IntKind.wrap .i32 (IntKind.wrap .i64 (48+(r:Int)))))) = .c (.string (strOfNums [48+(r:Int)])):=by
 congr 2
 have:r=0∨r=1∨r=2∨r=3∨r=4∨r=5∨r=6∨r=7∨r=8∨r=9:=by omega
 rcases this with rfl | rfl | rfl | rfl | rfl | rfl | rfl | rfl | rfl | rfl<;>decide +kernel
theorem cat_v {P:Program} {a b:ByteArray} (h:a.size+b.size≤9223372036854775807):sval P (do let v ← Op.stringOp .add a b; pure (Next.value v))=some (.value (.string (a++b))):=by
 have:¬ (((a.size+b.size:Nat):Int) > IntKind.i64.max):=by
  have:IntKind.i64.max=9223372036854775807:=by decide
  omega
 simp only [Op.stringOp,if_neg this]
 rfl
def dcO (l:List Nat) (s:ByteArray):St:=⟨slots 52 0 [(3,.c (.string s)),(4,.sd 0 l.length 1)],[some ⟨false,byc l⟩]⟩
def dcP (q:List Nat) (s:ByteArray):St:=⟨slots 52 0 [(3,.c (.string s)),(4,.sd 0 q.length 1)],[some ⟨true,byc q⟩]⟩
def dcE (s:ByteArray):St:=⟨slots 52 0 [(3,.c (.string s)),(4,.c (.slice none 0 0))],[]⟩
def dcF (s:ByteArray):St:=⟨slots 52 0 [(3,.c (.string s))],[]⟩
theorem dc_f {l q:List Nat} {s:ByteArray} {r:Nat} (h1:r≤9) (hs:(strOfNums [48+(r:Int)]).size+s.size≤9223372036854775807) (hb:TSpecN Tryd.prog 0 (.block 2 (.loop (loopOf Tryd.f12 2))) (dcN l s 0 0) .normal (dcN l s r l.length)) (h0:decide ((0:Int) < (↑(List.length l):Int))=true):TSpecN Tryd.prog 0 (loopOf Tryd.f12 0) (dcO l s) (.normal) (dcE (strOfNums [48+(r:Int)]++s)):=by
 exact tspecN_ren (mask 52 0 [3,4]) 0 [] (sc:=[(3,2,.is (.c (.bool true))),(2,99999,.maskN (mask 52 0 [3,5,6,15,16,17])),(14,4,.is (.c (.string (strOfNums [(48:Int)+(↑r:Int)])))),(14,6,.fix (.string (strOfNums [(48:Int)+(↑r:Int)]++s)))]) (sb:=[(2,.normal,dcN l s r l.length)]) (by kernel_rfl) (hP (isB h0) (hP (show Flat [some { own:=false,cells:=List.map u8c l }] from (flk byc_f trivial)) (hP (hb) (hP (enc_d h1) (hV (cat_v (a:=strOfNums [48+(r:Int)]) (b:=s) hs) hN))))) trivial
theorem dc_g {l q:List Nat} {s:ByteArray} {r:Nat} (h1:r≤9) (hs:(strOfNums [48+(r:Int)]).size+s.size≤9223372036854775807) (hb:TSpecN Tryd.prog 0 (.block 2 (.loop (loopOf Tryd.f12 2))) (dcN l s 0 0) .normal (dcR l s (byc q) q.length r l.length)) (h0:decide ((0:Int) < (↑(List.length l):Int))=true):TSpecN Tryd.prog 0 (loopOf Tryd.f12 0) (dcO l s) (.normal) (dcP q (strOfNums [48+(r:Int)]++s)):=by
 exact tspecN_ren (mask 52 0 [3,4]) 0 [1] (sc:=[(3,2,.is (.c (.bool true))),(2,99999,.maskN (mask 52 0 [3,5,6,15,16,17])),(14,4,.is (.c (.string (strOfNums [(48:Int)+(↑r:Int)])))),(14,6,.fix (.string (strOfNums [(48:Int)+(↑r:Int)]++s)))]) (sb:=[(2,.normal,dcR l s (byc q) q.length r l.length)]) (by kernel_rfl) (hP (isB h0) (hP (show Flat [some { own:=false,cells:=List.map u8c l }] from (flk byc_f trivial)) (hP (hb) (hP (enc_d h1) (hV (cat_v (a:=strOfNums [48+(r:Int)]) (b:=s) hs) hN))))) (flk byc_f trivial)
theorem dc_h {l:List Nat} {s:ByteArray}  (h0:decide ((0:Int) < (↑(List.length l):Int))=false):TSpecN Tryd.prog 0 (loopOf Tryd.f12 0) (dcO l s) (.exit 0) (dcF s):=by
 exact tspecN_ren (mask 52 0 [3]) 0 [] (sc:=[(3,2,.is (.c (.bool false)))]) (sb:=[]) (by kernel_rfl) (hP (isB h0) hN) trivial
theorem dc_i {s:ByteArray}   : TSpecN Tryd.prog 0 (loopOf Tryd.f12 0) (dcE s) (.exit 0) (dcF s):=by
 exact tspecN_ren (mask 52 0 [3]) 0 [] (sc:=[]) (sb:=[]) (by kernel_rfl) hN trivial
def ben (n:Nat) (l:List Nat):Nat:=l.foldl (fun n c=>n*256+c) n
theorem ben_snoc (n:Nat) (l:List Nat) (c:Nat):ben n (l++[c])=ben n l*256+c:=by simp [ben]
theorem ds_spec:∀ (t q:List Nat) (r:Nat),r≤9→(∀ c∈t,c < 256)→(∀ c∈q,c < 256)→(q≠[]→0 < ben 0 q) →
 (ds t q r).2≤9∧(∀ c∈(ds t q r).1,c < 256)∧((ds t q r).1≠[]→0 < ben 0 (ds t q r).1)∧10*ben 0 (ds t q r).1+(ds t q r).2=ben (10*ben 0 q+r) t∧(ds t q r).1.length≤q.length+t.length
 | [],q,r,hr,ht,hq,hl=>⟨hr,hq,hl,rfl,Nat.le_refl _⟩
 | c::t,q,r,hr,ht,hq,hl=>by
   have hc:=ht c List.mem_cons_self
   have ht':∀ c∈t,c < 256:=fun x hx=>ht x (List.mem_cons_of_mem _ hx)
   unfold ds
   show _∧_∧_∧_=ben ((10*ben 0 q+r)*256+c) t∧_
   by_cases h:q≠[]∨9 < 256*r+c
   ·rw [if_pos h]
    have ih:=ds_spec t (q++[(256*r+c)/10]) ((256*r+c)%10) (by omega) ht' (fun x hx=>by
     rcases List.mem_append.1 hx with hx | hx
     ·exact hq x hx
     ·rw [List.mem_singleton.1 hx]; omega) (fun _=>by
     rw [ben_snoc]
     rcases h with h | h
     ·have:=hl h; omega
     omega)
    rw [ben_snoc,show 10*(ben 0 q*256+(256*r+c)/10)+(256*r+c)%10=(10*ben 0 q+r)*256+c by omega,List.length_append,List.length_singleton] at ih
    exact ⟨ih.1,ih.2.1,ih.2.2.1,ih.2.2.2.1,by have:=ih.2.2.2.2; simp only [List.length_cons]; omega⟩
   rw [if_neg h]
   have h0:q=[]:=Decidable.byContradiction fun hh=>h (Or.inl hh)
   have h9:256*r+c≤9:=by omega
   subst h0
   have ih:=ds_spec t [] ((256*r+c)%10) (by omega) ht' hq hl
   have e:10*ben 0 []+(256*r+c)%10=(10*ben 0 []+r)*256+c:=by show 10*0+_=(10*0+r)*256+c; omega
   rw [e] at ih
   exact ⟨ih.1,ih.2.1,ih.2.2.1,ih.2.2.2.1,by have:=ih.2.2.2.2; simp only [List.length_cons,List.length_nil] at *; omega⟩
theorem son_cons (x:Int) (l:List Int):strOfNums [x]++strOfNums l=strOfNums (x::l):=by
 apply ByteArray.ext
 simp [strOfNums,ByteArray.data_append]
theorem dc_out:∀ (n m:Nat) (l:List Nat) (o:List Int),n < 10^m→ben 0 l=n→(l≠[]→0 < n)→(∀ c∈l,c < 256)→l.length < 140737488355328→o.length+m≤9000000000000000000 →
 RoundsN Tryd.prog 0 (loopOf Tryd.f12 0) 0 (dcO l (strOfNums o.reverse)) .normal (dcF (strOfNums (o++SB.lo n).reverse)):=by
 intro n
 induction n using Nat.strongRecOn with
 | _ n ih =>
   intro m l o hm hn hp hc hl hs
   by_cases h:l=[]
   ·subst h
    have:n=0:=hn.symm
    subst this
    rw [SB.lo_0,List.append_nil]
    exact .stop (dc_h (decide_eq_false (by simp)))
   have hn0:=hp h
   obtain ⟨m,rfl⟩:∃ m',m=m' + 1:=by
    cases m with
    | zero=>simp at hm; omega
    | succ m=>exact ⟨m,rfl⟩
   have hm':n/10 < 10^m:=by rw [Nat.pow_succ] at hm; omega
   clear hm
   have hlp:0 < l.length:=List.length_pos_iff.2 h
   have hin:=TSpecN.le (m:=0) (RoundsN.spec (dc_in (s:=strOfNums o.reverse) hl hc l [] 0 0 rfl (by omega) (by omega) (by simp))) (by omega)
   obtain ⟨d1,d2,d3,d4,d5⟩:=ds_spec l [] 0 (by omega) hc (by simp) (by simp)
   have d4':10*ben 0 (ds l [] 0).1+(ds l [] 0).2=n:=by rw [d4,← hn]; rfl
   clear d4
   obtain ⟨q,r,hqr⟩:∃ q r,ds l [] 0=(q,r):=⟨_,_,rfl⟩
   rw [hqr] at hin d1 d2 d3 d4' d5
   simp only at hin d1 d2 d3 d4' d5
   have e1:n/10=ben 0 q:=by omega
   have e2:((n%10:Nat):Int)=(r:Int):=by omega
   have e3:strOfNums [48+(r:Int)]++strOfNums o.reverse=strOfNums (o++[48+(r:Int)]).reverse:=by
    rw [son_cons,List.reverse_append]
    rfl
   have hz:(strOfNums [48+(r:Int)]).size+(strOfNums o.reverse).size≤9223372036854775807:=by
    rw [strOfNums_size,strOfNums_size,List.length_reverse]
    simp only [List.length_cons,List.length_nil]
    omega
   have e4:o++SB.lo n=(o++[48+(r:Int)])++SB.lo (n/10):=by
    rw [SB.lo_s (by omega),e2,List.append_assoc]
    rfl
   have ht:decide ((0:Int) < (l.length:Int))=true:=decide_eq_true (by omega)
   rw [e4,e1]
   by_cases hq:q=[]
   ·subst hq
    have:=dc_f (q:=[]) d1 hz hin ht
    rw [e3] at this
    refine .step this ?_
    rw [show ben 0 []=0 from rfl,SB.lo_0,List.append_nil]
    exact .stop dc_i
   simp only [dst,if_true,if_neg hq] at hin
   have:=dc_g d1 hz hin ht
   rw [e3] at this
   have hpq:=d3 hq
   refine .step (TSpecN.soft this (soft1 _)) (ih (ben 0 q) (by omega) m q _ (by rw [← e1]; exact hm') rfl d3 d2 ?_ ?_)
   ·simp only [List.length_nil] at d5; omega
   rw [List.length_append,List.length_singleton]
   omega
def dcOn (n:Nat) (l:List Nat) (s:ByteArray):St:=⟨slots 52 0 [(3,.c (.string s)),(4,.sd 0 n 1)],[some ⟨false,byc l⟩]⟩
def dc0 (a:ByteArray):St:=⟨(([V.c (.string a)]++List.replicate 51 (V.c undef)).set 2 (.c (.string ⟨#[]⟩))).set 3 (.c (.string ⟨#[]⟩)),[]⟩
def dc1 (a b:ByteArray):St:=⟨((dc0 a).t.set 9 (.c (.string a))).set 10 (.c (.string b)),[]⟩
def dc2 (a b:ByteArray):St:=⟨((dc1 a b).t.set 11 (.sd 0 b.size 1)).set 4 (.sd 0 b.size 1),[some ⟨false,byc (bl b)⟩]⟩
theorem dc_reg {a b:ByteArray} (hb:CSpec Tryd.prog 52 #[.string a] (.string b)):TSpec Tryd.prog (.region 2 (regOf Tryd.f12 2) false) (dc0 a) .normal (dc2 a b) :=
 region_bytes (sc:=[(2,1,.fix (.string b))]) (n:=2) (o:=opOf Tryd.f12 2 2) (s1:=dc1 a b) (t:=9) (u:=78) (el:=5) (x:=.tmp 10) (str:=b)
  (by kernel_rfl) (by kernel_rfl) (by kernel_rfl) (by kernel_rfl) (by kernel_rfl) (by kernel_rfl) (by kernel_rfl) (by kernel_rfl) (by kernel_rfl) (hC hb hN) hN
theorem bl_len (b:ByteArray):(bl b).length=b.size:=by
 unfold bl
 rw [List.length_map,Array.length_toList]
 rfl
theorem ben_map (n:Nat) (l:List UInt8):ben n (l.map UInt8.toNat)=l.foldl (fun n c=>n*256+c.toNat) n:=by
 unfold ben
 rw [List.foldl_map]
theorem dc_loop {a:ByteArray} (ha:a.size≤1099511627776):TSpecN Tryd.prog 0 (.block 0 (.loop (loopOf Tryd.f12 0))) (dcOn (M.B (M.V a)).size (bl (M.B (M.V a))) ⟨#[]⟩) .normal (dcF (strOfNums (SB.lo (M.V a)).reverse)):=by
 have hsz:(M.B (M.V a)).size≤a.size:=M.size_B_le (M.V_lt a)
 have hb:M.V a < 10^(3*a.size):=by
  have h1:=M.V_lt a
  have h2:(256:Nat)^a.size≤(10^3)^a.size:=Nat.pow_le_pow_left (by decide) _
  rw [← Nat.pow_mul] at h2
  omega
 have hv:ben 0 (bl (M.B (M.V a)))=M.V a:=by
  have:M.V (M.B (M.V a))=M.V a:=M.V_B _
  unfold bl
  rw [ben_map]
  exact this
 have hc:∀ c∈bl (M.B (M.V a)),c < 256:=by
  intro c hc
  obtain ⟨u,_,rfl⟩:=List.mem_map.1 hc
  exact u.toNat_lt
 have h:=RoundsN.spec (dc_out (M.V a) (3*a.size) (bl (M.B (M.V a))) [] hb hv (fun h=>by
  rcases Nat.eq_zero_or_pos (M.V a) with h0 | h0
  ·exfalso
   apply h
   unfold bl
   rw [M.B_toList,M.bytesOf_eq_nil.2 h0]
   rfl
  exact h0) hc (by rw [bl_len]; omega) (by simp only [List.length_nil]; omega))
 rw [List.nil_append] at h
 have e:dcO (bl (M.B (M.V a))) (strOfNums ([]:List Int).reverse)=dcOn (M.B (M.V a)).size (bl (M.B (M.V a))) ⟨#[]⟩:=by
  unfold dcO dcOn
  rw [bl_len]
  rfl
 rw [e] at h
 exact h
theorem dc_str (a b:ByteArray):(a.toList==b.toList)=decide (a=b):=by
 have:=str_neq a b
 by_cases h:a=b
 ·subst h; simp
 rw [decide_eq_true h] at this
 rw [decide_eq_false h]
 simpa using this
theorem son_nil {l:List Int}:strOfNums l=⟨#[]⟩↔l=[]:=by
 constructor
 ·intro h
  have:=congrArg ByteArray.size h
  rw [strOfNums_size] at this
  exact List.length_eq_zero_iff.1 this
 rintro rfl; rfl
theorem decimal_k {a:ByteArray} (ha:a.size≤1099511627776):CSpec Tryd.prog 12 #[.string a] (.string (SB.decB (SB.lo (M.V a)))):=by
 have hreg:=dc_reg (rbarer_k (a:=a))
 have hout:=dc_loop ha
 unfold SB.decB
 by_cases h:SB.lo (M.V a)=[]
 ·rw [if_pos h]
  have e:(strOfNums (SB.lo (M.V a)).reverse)=⟨#[]⟩:=son_nil.2 (by rw [h]; rfl)
  have hb:((strOfNums (SB.lo (M.V a)).reverse).toList==ByteArray.toList ⟨#[]⟩)=true:=by rw [e]; exact beq_self_eq_true _
  exact fn_ok Tryd.func12 (sc:=[(0,99999,.maskN (mask 52 0 [3,4])),(15,1,.is (.c (.bool true)))]) (sb:=[(900000002,.normal,dc2 a (M.B (M.V a))),(0,.normal,dcF (strOfNums (SB.lo (M.V a)).reverse))]) (by kernel_rfl) (hP hreg (hP (show Flat [some ⟨false,byc (bl (M.B (M.V a)))⟩] from flk byc_f trivial) (hP hout (hP (isB hb) hN))))
 rw [if_neg h]
 have hb:((strOfNums (SB.lo (M.V a)).reverse).toList==ByteArray.toList ⟨#[]⟩)=false:=by
  rw [dc_str]
  exact decide_eq_false fun e=>h (List.reverse_eq_nil_iff.1 (son_nil.1 e))
 exact fn_ok Tryd.func12 (sc:=[(0,99999,.maskN (mask 52 0 [3,4])),(15,1,.is (.c (.bool false)))]) (sb:=[(900000002,.normal,dc2 a (M.B (M.V a))),(0,.normal,dcF (strOfNums (SB.lo (M.V a)).reverse))]) (by kernel_rfl) (hP hreg (hP (show Flat [some ⟨false,byc (bl (M.B (M.V a)))⟩] from flk byc_f trivial) (hP hout (hP (isB hb) hN))))
end Go.Proofs.YtkpeembfagcpcaaDoor.G
end
section
namespace Go.Proofs.YtkpeembfagcpcaaDoor.G
open Go.Proofs.YtkpeembfagcpcaaDoor.U Go.RowKit Go.Proofs.YtkpeembfagcpcaaDoor.D Go.Proofs.YtkpeembfagcpcaaDoor.X
theorem svb {α γ:Type} {P:Program} {f:α→Sem γ}:∀ {s:Sem α},sval P (s.bind f)=(sval P s).bind fun a=>sval P (f a):=by
 intro s
 induction s with
 | pure b=>rfl
 | program k ih=>exact ih P
 | mark m k ih=>exact ih
 | _=>rfl
theorem sl_from {P:Program} {t:TypeId} {s:ByteArray} {i:Nat} (ht:P.underlying t=some .string) (h:i≤s.size):sval P (do let v ← Instr.sliceAt t (.string s) (some (.int .i64 (i:Int))) none none; pure (Next.value v))=some (.value (.string (s.extract i s.size))):=by
 have hu:sval P (underlying t)=some .string:=by simp [underlying,svb,sval,program,ht,bind,pure]
 have hc:0≤(i:Int)∧(i:Int)≤(s.size:Int):=by omega
 simp [Instr.sliceAt,Instr.slice,Instr.sliceBounds,Instr.sliceBound,asIntOf,svb,sval,hu,hc,bind,pure]
 rw [if_pos h]
 rfl
theorem sl_to {P:Program} {t:TypeId} {s:ByteArray} {i:Nat} (ht:P.underlying t=some .string) (h:i≤s.size):sval P (do let v ← Instr.sliceAt t (.string s) none (some (.int .i64 (i:Int))) none; pure (Next.value v))=some (.value (.string (s.extract 0 i))):=by
 have hu:sval P (underlying t)=some .string:=by simp [underlying,svb,sval,program,ht,bind,pure]
 have hc:0≤(i:Int)∧(i:Int)≤(s.size:Int):=by omega
 simp [Instr.sliceAt,Instr.slice,Instr.sliceBounds,Instr.sliceBound,asIntOf,svb,sval,hu,hc,bind,pure]
 rw [if_pos h]
 rfl
theorem rt_some {α:Type} {g:Nat→Option α} {r:α} (h:Go.Proofs.YtkpeembfagcpcaaDoorW.PrintWords.Ev g r):∃ k,g k=some r:=ev_some h
theorem textN_k {k K:Nat} (h:SzN k K) (hK:K≤1000000000):CSpec Tryd.prog 9 #[.string (M.B k)] (.string (SB.decB (SB.lo k))):=fun w _=>by
 have hs:=M.size_B_le h
 obtain ⟨i,hi⟩:=rt_some (SB.text_spec (M.B k) (by omega))
 rw [M.V_B] at hi
 exact (nat_Text.calls i _ _ w hi).mono fun e w' h=>⟨h.1,h.2⟩
theorem decN_k {k K:Nat} (h:SzN k K) (hK:K≤1000000000):CSpec Tryd.prog 12 #[.string (M.B k)] (.string (SB.decB (SB.lo k))):=by
 have hs:=M.size_B_le h
 have:=decimal_k (a:=M.B k) (by omega)
 rwa [M.V_B] at this
def mxT:Nat:=2000
noncomputable def rvN (s:ByteArray):Nat:=if (SB.readN s).2=0 then SB.dv s s.size else 0
noncomputable def reN (s:ByteArray):Int:=(SB.readN s).2
theorem readN_eq (s:ByteArray):(SB.readN s).1=M.B (rvN s)∧rvN s < 10^mxT:=by
 unfold rvN SB.readN
 split
 ·exact ⟨by rw [if_neg (by decide)]; rw [M.B_zero],by rw [if_neg (by decide)]; exact Nat.pow_pos (by decide)⟩
 rename_i h0
 split
 ·exact ⟨by rw [if_neg (by decide)]; rw [M.B_zero],by rw [if_neg (by decide)]; exact Nat.pow_pos (by decide)⟩
 rename_i h1
 rw [if_pos rfl]
 refine ⟨rfl,?_⟩
 have hA:SB.AllD s 0:=Classical.byContradiction fun hn=>h1 (.inr (.inr hn))
 exact Nat.lt_of_lt_of_le (SB.dv_lt hA s.size (Nat.le_refl _)) (Nat.pow_le_pow_right (by decide) (show s.size≤2000 by omega))
theorem rvN_s {s:ByteArray}:SzN (rvN s) mxT:=Nat.lt_of_lt_of_le (readN_eq s).2 (Nat.pow_le_pow_left (by decide) _)
theorem nread_k {s:ByteArray}:CSpec Tryd.prog 10 #[.string s] (.tuple #[.string (M.B (rvN s)),.int .i64 (reN s)]):=fun w _=>by
 obtain ⟨k,hk⟩:=rt_some (SB.read_spec s)
 rw [← (readN_eq s).1]
 exact (nat_Read.calls k s _ _ w hk).mono fun e w' h=>⟨h.1,h.2⟩
theorem rnum_k {s:ByteArray}:CSpec Tryd.prog 11 #[.string s] (.tuple #[.string (M.B (rvN s)),.int .i64 (reN s)]):=fun w _=>by
 obtain ⟨k,hk⟩:=rt_some (SB.numeral_spec s)
 rw [← (readN_eq s).1]
 exact (gantref1_Numeral.calls k s _ _ w hk).mono fun e w' h=>⟨h.1,h.2⟩
def negS (s:ByteArray):Bool:=decide (1≤s.size)&&((s.extract 0 1).toList==ByteArray.toList ⟨#[45]⟩)
def tailS (s:ByteArray):ByteArray:=if negS s=true then s.extract 1 s.size else s
def atS (s:ByteArray):Int:=Lib.indexByte s.data.toList 47
theorem atS_lt {s:ByteArray} {i:Nat} (h:atS s=(i:Int)):i < s.size:=by
 have:=(Lib.indexByte_some h).1
 have h2:=(List.getElem?_eq_some_iff.1 this).1
 rwa [show s.data.toList.length=s.size from rfl] at h2
theorem negS_le {s:ByteArray} (h:negS s=true):1≤s.size:=by
 unfold negS at h
 rw [Bool.and_eq_true] at h
 exact of_decide_eq_true h.1
theorem tailS_t {s:ByteArray} (h:negS s=true):tailS s=s.extract 1 s.size:=if_pos h
theorem tailS_f {s:ByteArray} (h:negS s=false):tailS s=s:=if_neg (by rw [h]; decide)
theorem atS_ge {s:ByteArray}:-1≤atS s:=Lib.indexByte_ge _ _
theorem hp1 {s:ByteArray} (h:1≤s.size) (h0:decide ((1:Int)≤(↑(ByteArray.size s):Int))=true):CSpec Tryd.prog 132 #[(.string s),(.string ⟨#[45]⟩)] (.bool (ByteArray.toList (ByteArray.extract s (0:Nat) (1:Nat))==ByteArray.toList { data:=#[(45:UInt8)] })):=by
 exact fn_ok Tryd.func132 (sc:=[(1,4,.is (.c (.bool true))),(1,9,.fix (.string (ByteArray.extract s (0:Nat) (1:Nat))))]) (sb:=[]) (by kernel_rfl) (hP (isB h0) (hV (sl_to (P:=Tryd.prog) (t:=9) (s:=s) (i:=1) Tryd.underlying9 h) hN))
theorem hp2 {s:ByteArray}  (h0:decide ((1:Int)≤(↑(ByteArray.size s):Int))=false):CSpec Tryd.prog 132 #[(.string s),(.string ⟨#[45]⟩)] (.bool false):=by
 exact fn_ok Tryd.func132 (sc:=[(1,4,.is (.c (.bool false)))]) (sb:=[]) (by kernel_rfl) (hP (isB h0) hN)
theorem hp_k {s:ByteArray}:CSpec Tryd.prog 132 #[.string s,.string ⟨#[45]⟩] (.bool (negS s)):=by
 unfold negS
 by_cases h:1≤s.size
 ·rw [decide_eq_true h,Bool.true_and]
  exact hp1 h (decide_eq_true (by omega))
 rw [decide_eq_false h,Bool.false_and]
 exact hp2 (decide_eq_false (by omega))
theorem ibs_k {s:ByteArray}:CSpec Tryd.prog 133 #[.string s,.int .u8 47] (.int .i64 (atS s)):=ib_k
theorem hps_k {s:ByteArray}   : CSpec Tryd.prog 82 #[(.string s),(.string ⟨#[45]⟩)] (.bool (negS s)):=by
 exact fn_ok Tryd.func82 (sc:=[(1,2,.fix (.bool (negS s)))]) (sb:=[]) (by kernel_rfl) (hC (hp_k (s:=s)) hN)
theorem cp1 {s:ByteArray} (h:1≤s.size) (h0:negS s=true):CSpec Tryd.prog 129 #[(.string s),(.string ⟨#[45]⟩)] (.tuple #[.string (ByteArray.extract s (1:Nat) (ByteArray.size s)),.bool true]):=by
 exact fn_ok Tryd.func129 (sc:=[(1,2,.fix (.bool true)),(3,3,.fix (.string (ByteArray.extract s (1:Nat) (ByteArray.size s))))]) (sb:=[]) (by kernel_rfl) (hC (cbool (hp_k (s:=s)) h0) (hV (sl_from (P:=Tryd.prog) (t:=9) (s:=s) (i:=1) Tryd.underlying9 h) hN))
theorem cp2 {s:ByteArray}  (h0:negS s=false):CSpec Tryd.prog 129 #[(.string s),(.string ⟨#[45]⟩)] (.tuple #[.string s,.bool false]):=by
 exact fn_ok Tryd.func129 (sc:=[(1,2,.fix (.bool false))]) (sb:=[]) (by kernel_rfl) (hC (cbool (hp_k (s:=s)) h0) hN)
theorem cp_k {s:ByteArray}:CSpec Tryd.prog 129 #[.string s,.string ⟨#[45]⟩] (.tuple #[.string (tailS s),.bool (negS s)]):=by
 cases h:negS s with
 | true =>
   rw [tailS_t h]
   exact cp1 (negS_le h) h
 | false =>
   rw [tailS_f h]
   exact cp2 h
theorem cps_k {s:ByteArray}   : CSpec Tryd.prog 79 #[(.string s),(.string ⟨#[45]⟩)] (.tuple #[.string (tailS s),.bool (negS s)]):=by
 exact fn_ok Tryd.func79 (sc:=[(1,2,.fix (.tuple #[.string (tailS s),.bool (negS s)]))]) (sb:=[]) (by kernel_rfl) (hC (cp_k (s:=s)) hN)
theorem ixs_k {s:ByteArray}   : CSpec Tryd.prog 83 #[(.string s),(.int .u8 47)] (.int .i64 (atS s)):=by
 exact fn_ok Tryd.func83 (sc:=[(1,2,.fix (.int .i64 (atS s)))]) (sb:=[]) (by kernel_rfl) (hC (ibs_k (s:=s)) hN)
theorem ix1 {s:ByteArray}  (h0:(ByteArray.toList { data:=#[(47:UInt8)] }==ByteArray.toList s)=true):CSpec Tryd.prog 165 #[(.string s),(.string ⟨#[47]⟩)] (.int .i64 (0:Int)):=by
 exact fn_ok Tryd.func165 (sc:=[(2,5,.is (.c (.bool true)))]) (sb:=[]) (by kernel_rfl) (hP (isB h0) hN)
theorem ix2 {s:ByteArray}  (h0:(ByteArray.toList { data:=#[(47:UInt8)] }==ByteArray.toList s)=false):CSpec Tryd.prog 165 #[(.string s),(.string ⟨#[47]⟩)] (.int .i64 (atS s)):=by
 exact fn_ok Tryd.func165 (sc:=[(2,5,.is (.c (.bool false))),(5,3,.fix (.int .i64 (atS s)))]) (sb:=[]) (by kernel_rfl) (hP (isB h0) (hC (ibs_k (s:=s)) hN))
theorem atS_one {s:ByteArray} (h:(ByteArray.toList ⟨#[47]⟩==s.toList)=true):atS s=0:=by
 have h2:s.data.toList=[47]:=by
  have:=eq_of_beq h
  rw [ByteArray.toList_eq,ByteArray.toList_eq] at this
  exact this.symm
 unfold atS
 rw [h2]
 decide
theorem ix_k {s:ByteArray}:CSpec Tryd.prog 165 #[.string s,.string ⟨#[47]⟩] (.int .i64 (atS s)):=by
 cases h:(ByteArray.toList ⟨#[47]⟩==s.toList) with
 | true =>
   rw [atS_one h]
   exact ix1 h
 | false=>exact ix2 h
def MustAt (s:ByteArray) (i:Nat):Prop:=atS s=(i:Int)
def MustNo (s:ByteArray):Prop:=atS s = -1
theorem atI {s:ByteArray} {i:Nat} (h:MustAt s i):V.c (.int .i64 (atS s)) = .c (.int .i64 ((i:Nat):Int)):=by rw [show atS s=(i:Int) from h]
theorem atN {s:ByteArray} (h:MustNo s):V.c (.int .i64 (atS s)) = .c (.int .i64 (-1)):=by rw [show atS s = -1 from h]
theorem at1 {s:ByteArray} {i:Nat} (h:MustAt s i) (hs:s.size≤3000):V.c (.int .i64 (IntKind.wrap .i64 ((i:Int)+1))) = .c (.int .i64 ((i+1:Nat):Int)):=by
 have:=atS_lt h
 congr 2
 rw [IntKind.wrap_i64]
 push_cast
 omega
theorem at_le {s:ByteArray} {i:Nat} (h:MustAt s i):i≤s.size:=Nat.le_of_lt (atS_lt h)
theorem at_lt {s:ByteArray} {i:Nat} (h:MustAt s i):i+1≤s.size:=atS_lt h
theorem tailS_le {s:ByteArray} (h:s.size≤2000):(tailS s).size≤3000:=by
 unfold tailS
 split
 ·rw [ByteArray.size_extract]; omega
 omega
theorem sl_tail {P:Program} {t:TypeId} {s:ByteArray} (ht:P.underlying t=some .string) (hn:negS s=true):sval P (do let v ← Instr.sliceAt t (.string s) (some (.int .i64 ((1:Nat):Int))) none none; pure (Next.value v))=some (.value (.string (tailS s))):=by
 rw [tailS_t hn]
 exact sl_from ht (negS_le hn)
theorem tl_f {s:ByteArray} (hn:negS s=false):V.c (.string s) = .c (.string (tailS s)):=by rw [tailS_f hn]
theorem B_one':M.B 1=⟨#[1]⟩:=by decide +kernel
theorem readN_1:SB.readN ⟨#[49]⟩=(⟨#[1]⟩,0):=by
 have hA:SB.AllD ⟨#[49]⟩ 0:=fun j h1 h2=>by
  have:j=0:=by have:(⟨#[49]⟩:ByteArray).size=1:=rfl; omega
  subst this
  decide
 unfold SB.readN
 have hn:¬ ((⟨#[49]⟩:ByteArray).size=0∨(1 < (⟨#[49]⟩:ByteArray).size∧Go.Proofs.YtkpeembfagcpcaaDoorW.PrintWords.bt ⟨#[49]⟩ 0=48) ∨ ¬ SB.AllD ⟨#[49]⟩ 0):=by
  rintro (h | h | h)
  ·exact absurd h (by decide)
  ·exact absurd h.1 (by decide)
  exact h hA
 rw [if_neg (by decide),if_neg hn]
 have:SB.dv ⟨#[49]⟩ (⟨#[49]⟩:ByteArray).size=1:=by decide
 rw [this,B_one']
theorem nread1_k:CSpec Tryd.prog 10 #[.string ⟨#[49]⟩] (.tuple #[.string ⟨#[1]⟩,.int .i64 0]):=by
 have h:=nread_k (s:=⟨#[49]⟩)
 rw [← (readN_eq _).1] at h
 unfold reN at h
 rw [readN_1] at h
 exact h
theorem rnum1_k:CSpec Tryd.prog 11 #[.string ⟨#[49]⟩] (.tuple #[.string ⟨#[1]⟩,.int .i64 0]):=by
 have h:=rnum_k (s:=⟨#[49]⟩)
 rw [← (readN_eq _).1] at h
 unfold reN at h
 rw [readN_1] at h
 exact h
def NZp (d:Nat):Prop:=d≠0
theorem mades_k {n:Bool} {k d:Nat} (h1:SzN k mxT) (h2:SzN d mxT) (hd:NZp d):CSpec Tryd.prog 81 #[.bool n,.string (M.B k),.string (M.B d)] (Rv (mkRat (sgn n k) d)) :=
 made_c n k d hd (Nat.le_trans (M.size_B_le h1) (by decide)) (Nat.le_trans (M.size_B_le h2) (by decide))
theorem maden_k {n:Bool} {k:Nat} (h1:SzN k mxT):CSpec Tryd.prog 81 #[.bool n,.string (M.B k),.string ⟨#[1]⟩] (Rv ((sgn n k:Int):Rat)):=made1_k h1 (by decide)
theorem ratm_k {n:Bool} {k d:Nat} (h1:SzN k mxT) (h2:SzN d mxT) (hd:NZp d):CSpec Tryd.prog 84 #[rv n (M.B k) (M.B d)] (Rv (mkRat (sgn n k) d)):=rat_k h1 h2 (by decide) hd
theorem ratn_k {n:Bool} {k:Nat} (h1:SzN k mxT):CSpec Tryd.prog 84 #[rv n (M.B k) ⟨#[1]⟩] (Rv ((sgn n k:Int):Rat)):=by
 have:=rat_k (s:=n) (k:=k) (d:=1) (K:=mxT) (D:=1) h1 (by unfold SzN; decide) (by decide) (by decide)
 rw [B_one',Rat.mkRat_one] at this
 exact this
theorem cut1 {s:ByteArray} {i:Nat} (h:MustAt s i) (hs:s.size≤3000) (h0:decide ((0:Int)≤(↑i:Int))=true):CSpec Tryd.prog 130 #[(.string s),(.string ⟨#[47]⟩)] (.tuple #[.string (ByteArray.extract s (0:Nat) i),.string (ByteArray.extract s (i+(1:Nat)) (ByteArray.size s)),.bool true]):=by
 exact fn_ok Tryd.func130 (sc:=[(1,2,.fix (.int .i64 (atS s))),(1,3,.is (.c (.int .i64 (↑i:Int)))),(2,1,.is (.c (.bool true))),(3,2,.fix (.string (ByteArray.extract s (0:Nat) i))),(3,7,.is (.c (.int .i64 ((↑(i+(1:Nat)):Int))))),(3,8,.fix (.string (ByteArray.extract s (i+(1:Nat)) (ByteArray.size s))))]) (sb:=[]) (by kernel_rfl) (hC (ix_k (s:=s)) (hP (atI h) (hP (isB h0) (hV (sl_to (P:=Tryd.prog) (t:=9) (s:=s) (i:=i) Tryd.underlying9 (at_le h)) (hP (at1 h hs) (hV (sl_from (P:=Tryd.prog) (t:=9) (s:=s) (i:=i+1) Tryd.underlying9 (at_lt h)) hN))))))
theorem cutF_k {s:ByteArray} (h:MustNo s)  : CSpec Tryd.prog 130 #[(.string s),(.string ⟨#[47]⟩)] (.tuple #[.string s,.string ({ data:=#[] }),.bool false]):=by
 exact fn_ok Tryd.func130 (sc:=[(1,2,.fix (.int .i64 (atS s))),(1,3,.is (.c (.int .i64 (-1:Int))))]) (sb:=[]) (by kernel_rfl) (hC (ix_k (s:=s)) (hP (atN h) hN))
theorem cutT_k {s:ByteArray} {i:Nat} (h:MustAt s i) (hs:s.size≤3000):CSpec Tryd.prog 130 #[.string s,.string ⟨#[47]⟩] (.tuple #[.string (s.extract 0 i),.string (s.extract (i+1) s.size),.bool true]):=cut1 h hs (decide_eq_true (by omega))
theorem scT_k {s:ByteArray} {i:Nat} (h:MustAt s i) (hs:s.size≤3000)  : CSpec Tryd.prog 80 #[(.string s),(.string ⟨#[47]⟩)] (.tuple #[.string (ByteArray.extract s (0:Nat) i),.string (ByteArray.extract s (i+(1:Nat)) (ByteArray.size s)),.bool true]):=by
 exact fn_ok Tryd.func80 (sc:=[(1,2,.fix (.tuple #[.string (ByteArray.extract s (0:Nat) i),.string (ByteArray.extract s (i+(1:Nat)) (ByteArray.size s)),.bool true]))]) (sb:=[]) (by kernel_rfl) (hC (cutT_k h hs) hN)
theorem scF_k {s:ByteArray} (h:MustNo s)  : CSpec Tryd.prog 80 #[(.string s),(.string ⟨#[47]⟩)] (.tuple #[.string s,.string ({ data:=#[] }),.bool false]):=by
 exact fn_ok Tryd.func80 (sc:=[(1,2,.fix (.tuple #[.string s,.string ({ data:=#[] }),.bool false]))]) (sb:=[]) (by kernel_rfl) (hC (cutF_k h) hN)
theorem rd_a {s:ByteArray}  (h0:decide ((2000:Int) < (↑(ByteArray.size s):Int))=true):CSpec Tryd.prog 33 #[(.string s)] (.tuple #[ag [[.bool false],[.string ({ data:=#[] })],[.string ({ data:=#[] })]],.int .i64 (2:Int)]):=by
 exact fn_ok Tryd.func33 (sc:=[(1,2,.is (.c (.bool true)))]) (sb:=[]) (by kernel_rfl) (hP (isB h0) hN)
theorem rd_b {s:ByteArray} (h:MustNo (tailS s))  (h0:decide ((2000:Int) < (↑(ByteArray.size s):Int))=false) (h1:(!decide (reN (tailS s)=(0:Int)))=true):CSpec Tryd.prog 33 #[(.string s)] (.tuple #[ag [[.bool false],[.string ({ data:=#[] })],[.string ({ data:=#[] })]],.int .i64 (reN (tailS s))]):=by
 exact fn_ok Tryd.func33 (sc:=[(1,2,.is (.c (.bool false))),(3,1,.fix (.tuple #[.string (tailS s),.bool (negS s)])),(4,1,.fix (.tuple #[.string (tailS s),.string ({ data:=#[] }),.bool false])),(7,1,.fix (.tuple #[.string (M.B (rvN (tailS s))),.int .i64 (reN (tailS s))])),(8,1,.is (.c (.bool true)))]) (sb:=[]) (by kernel_rfl) (hP (isB h0) (hC (cps_k (s:=s)) (hC (scF_k h) (hC (nread_k (s:=tailS s)) (hP (isB h1) hN)))))
theorem rd_c {s:ByteArray} (h:MustNo (tailS s))  (h0:decide ((2000:Int) < (↑(ByteArray.size s):Int))=false) (h1:(!decide (reN (tailS s)=(0:Int)))=false):CSpec Tryd.prog 33 #[(.string s)] (.tuple #[Rv ((↑(sgn (negS s) (rvN (tailS s))):Rat)),.int .i64 (0:Int)]):=by
 have s2:=(rvN_s (s:=tailS s))
 exact fn_ok Tryd.func33 (sc:=[(1,2,.is (.c (.bool false))),(3,1,.fix (.tuple #[.string (tailS s),.bool (negS s)])),(4,1,.fix (.tuple #[.string (tailS s),.string ({ data:=#[] }),.bool false])),(7,1,.fix (.tuple #[.string (M.B (rvN (tailS s))),.int .i64 (reN (tailS s))])),(8,1,.is (.c (.bool false))),(10,1,.fix (.tuple #[.string ({ data:=#[(1:UInt8)] }),.int .i64 (0:Int)])),(15,3,.fix (Rv ((↑(sgn (negS s) (rvN (tailS s))):Rat))))]) (sb:=[]) (by kernel_rfl) (hP (isB h0) (hC (cps_k (s:=s)) (hC (scF_k h) (hC (nread_k (s:=tailS s)) (hP (isB h1) (hC nread1_k (hC (made1_k (n:=negS s) s2 (by decide +kernel)) hN)))))))
theorem rd_d {s:ByteArray} {i:Nat} (h:MustAt (tailS s) i) (hs:(tailS s).size≤3000)  (h0:decide ((2000:Int) < (↑(ByteArray.size s):Int))=false) (h1:(!decide (reN (ByteArray.extract (tailS s) (0:Nat) i)=(0:Int)))=true):CSpec Tryd.prog 33 #[(.string s)] (.tuple #[ag [[.bool false],[.string ({ data:=#[] })],[.string ({ data:=#[] })]],.int .i64 (reN (ByteArray.extract (tailS s) (0:Nat) i))]):=by
 exact fn_ok Tryd.func33 (sc:=[(1,2,.is (.c (.bool false))),(3,1,.fix (.tuple #[.string (tailS s),.bool (negS s)])),(4,1,.fix (.tuple #[.string (ByteArray.extract (tailS s) (0:Nat) i),.string (ByteArray.extract (tailS s) (i+(1:Nat)) (ByteArray.size (tailS s))),.bool true])),(7,1,.fix (.tuple #[.string (M.B (rvN (ByteArray.extract (tailS s) (0:Nat) i))),.int .i64 (reN (ByteArray.extract (tailS s) (0:Nat) i))])),(8,1,.is (.c (.bool true)))]) (sb:=[]) (by kernel_rfl) (hP (isB h0) (hC (cps_k (s:=s)) (hC (scT_k h hs) (hC (nread_k (s:=ByteArray.extract (tailS s) (0:Nat) i)) (hP (isB h1) hN)))))
theorem rd_e {s:ByteArray} {i:Nat} (h:MustAt (tailS s) i) (hs:(tailS s).size≤3000)  (h0:decide ((2000:Int) < (↑(ByteArray.size s):Int))=false) (h1:(!decide (reN (ByteArray.extract (tailS s) (0:Nat) i)=(0:Int)))=false) (h2:(!decide (reN (ByteArray.extract (tailS s) (i+(1:Nat)) (ByteArray.size (tailS s)))=(0:Int)))=true):CSpec Tryd.prog 33 #[(.string s)] (.tuple #[ag [[.bool false],[.string ({ data:=#[] })],[.string ({ data:=#[] })]],.int .i64 (reN (ByteArray.extract (tailS s) (i+(1:Nat)) (ByteArray.size (tailS s))))]):=by
 exact fn_ok Tryd.func33 (sc:=[(1,2,.is (.c (.bool false))),(3,1,.fix (.tuple #[.string (tailS s),.bool (negS s)])),(4,1,.fix (.tuple #[.string (ByteArray.extract (tailS s) (0:Nat) i),.string (ByteArray.extract (tailS s) (i+(1:Nat)) (ByteArray.size (tailS s))),.bool true])),(7,1,.fix (.tuple #[.string (M.B (rvN (ByteArray.extract (tailS s) (0:Nat) i))),.int .i64 (reN (ByteArray.extract (tailS s) (0:Nat) i))])),(8,1,.is (.c (.bool false))),(10,1,.fix (.tuple #[.string (M.B (rvN (ByteArray.extract (tailS s) (i+(1:Nat)) (ByteArray.size (tailS s))))),.int .i64 (reN (ByteArray.extract (tailS s) (i+(1:Nat)) (ByteArray.size (tailS s))))])),(11,1,.is (.c (.bool true)))]) (sb:=[]) (by kernel_rfl) (hP (isB h0) (hC (cps_k (s:=s)) (hC (scT_k h hs) (hC (nread_k (s:=ByteArray.extract (tailS s) (0:Nat) i)) (hP (isB h1) (hC (nread_k (s:=ByteArray.extract (tailS s) (i+(1:Nat)) (ByteArray.size (tailS s)))) (hP (isB h2) hN)))))))
theorem rd_f {s:ByteArray} {i:Nat} (h:MustAt (tailS s) i) (hs:(tailS s).size≤3000)  (h0:decide ((2000:Int) < (↑(ByteArray.size s):Int))=false) (h1:(!decide (reN (ByteArray.extract (tailS s) (0:Nat) i)=(0:Int)))=false) (h2:(!decide (reN (ByteArray.extract (tailS s) (i+(1:Nat)) (ByteArray.size (tailS s)))=(0:Int)))=false) (h3:(ByteArray.toList (M.B (rvN (ByteArray.extract (tailS s) (i+(1:Nat)) (ByteArray.size (tailS s)))))==ByteArray.toList { data:=#[] })=true):CSpec Tryd.prog 33 #[(.string s)] (.tuple #[ag [[.bool false],[.string ({ data:=#[] })],[.string ({ data:=#[] })]],.int .i64 (12:Int)]):=by
 exact fn_ok Tryd.func33 (sc:=[(1,2,.is (.c (.bool false))),(3,1,.fix (.tuple #[.string (tailS s),.bool (negS s)])),(4,1,.fix (.tuple #[.string (ByteArray.extract (tailS s) (0:Nat) i),.string (ByteArray.extract (tailS s) (i+(1:Nat)) (ByteArray.size (tailS s))),.bool true])),(7,1,.fix (.tuple #[.string (M.B (rvN (ByteArray.extract (tailS s) (0:Nat) i))),.int .i64 (reN (ByteArray.extract (tailS s) (0:Nat) i))])),(8,1,.is (.c (.bool false))),(10,1,.fix (.tuple #[.string (M.B (rvN (ByteArray.extract (tailS s) (i+(1:Nat)) (ByteArray.size (tailS s))))),.int .i64 (reN (ByteArray.extract (tailS s) (i+(1:Nat)) (ByteArray.size (tailS s))))])),(11,1,.is (.c (.bool false))),(13,1,.is (.c (.bool true)))]) (sb:=[]) (by kernel_rfl) (hP (isB h0) (hC (cps_k (s:=s)) (hC (scT_k h hs) (hC (nread_k (s:=ByteArray.extract (tailS s) (0:Nat) i)) (hP (isB h1) (hC (nread_k (s:=ByteArray.extract (tailS s) (i+(1:Nat)) (ByteArray.size (tailS s)))) (hP (isB h2) (hP (isB h3) hN))))))))
theorem rd_g {s:ByteArray} {i:Nat} (h:MustAt (tailS s) i) (hs:(tailS s).size≤3000) (hd:NZp (rvN ((tailS s).extract (i+1) (tailS s).size)))  (h0:decide ((2000:Int) < (↑(ByteArray.size s):Int))=false) (h1:(!decide (reN (ByteArray.extract (tailS s) (0:Nat) i)=(0:Int)))=false) (h2:(!decide (reN (ByteArray.extract (tailS s) (i+(1:Nat)) (ByteArray.size (tailS s)))=(0:Int)))=false) (h3:(ByteArray.toList (M.B (rvN (ByteArray.extract (tailS s) (i+(1:Nat)) (ByteArray.size (tailS s)))))==ByteArray.toList { data:=#[] })=false):CSpec Tryd.prog 33 #[(.string s)] (.tuple #[Rv (mkRat (sgn (negS s) (rvN (ByteArray.extract (tailS s) (0:Nat) i))) (rvN (ByteArray.extract (tailS s) (i+(1:Nat)) (ByteArray.size (tailS s))))),.int .i64 (0:Int)]):=by
 have s4:=(rvN_s (s:=ByteArray.extract (tailS s) (0:Nat) i))
 have s5:=(rvN_s (s:=ByteArray.extract (tailS s) (i+(1:Nat)) (ByteArray.size (tailS s))))
 exact fn_ok Tryd.func33 (sc:=[(1,2,.is (.c (.bool false))),(3,1,.fix (.tuple #[.string (tailS s),.bool (negS s)])),(4,1,.fix (.tuple #[.string (ByteArray.extract (tailS s) (0:Nat) i),.string (ByteArray.extract (tailS s) (i+(1:Nat)) (ByteArray.size (tailS s))),.bool true])),(7,1,.fix (.tuple #[.string (M.B (rvN (ByteArray.extract (tailS s) (0:Nat) i))),.int .i64 (reN (ByteArray.extract (tailS s) (0:Nat) i))])),(8,1,.is (.c (.bool false))),(10,1,.fix (.tuple #[.string (M.B (rvN (ByteArray.extract (tailS s) (i+(1:Nat)) (ByteArray.size (tailS s))))),.int .i64 (reN (ByteArray.extract (tailS s) (i+(1:Nat)) (ByteArray.size (tailS s))))])),(11,1,.is (.c (.bool false))),(13,1,.is (.c (.bool false))),(15,3,.fix (Rv (mkRat (sgn (negS s) (rvN (ByteArray.extract (tailS s) (0:Nat) i))) (rvN (ByteArray.extract (tailS s) (i+(1:Nat)) (ByteArray.size (tailS s)))))))]) (sb:=[]) (by kernel_rfl) (hP (isB h0) (hC (cps_k (s:=s)) (hC (scT_k h hs) (hC (nread_k (s:=ByteArray.extract (tailS s) (0:Nat) i)) (hP (isB h1) (hC (nread_k (s:=ByteArray.extract (tailS s) (i+(1:Nat)) (ByteArray.size (tailS s)))) (hP (isB h2) (hP (isB h3) (hC (mades_k (n:=negS s) s4 s5 hd) hN)))))))))
theorem fr_a {s:ByteArray}  (h0:decide ((2000:Int) < (↑(ByteArray.size s):Int))=true):CSpec Tryd.prog 34 #[(.string s)] (.tuple #[ag [[.bool false],[.string ({ data:=#[] })],[.string ({ data:=#[] })]],.int .i64 (2:Int)]):=by
 exact fn_ok Tryd.func34 (sc:=[(1,2,.is (.c (.bool true)))]) (sb:=[]) (by kernel_rfl) (hP (isB h0) hN)
theorem fr_bt {s:ByteArray} (hn:negS s=true) (h:MustNo (tailS s))  (h0:decide ((2000:Int) < (↑(ByteArray.size s):Int))=false) (h1:(!decide (reN (tailS s)=(0:Int)))=true):CSpec Tryd.prog 34 #[(.string s)] (.tuple #[ag [[.bool false],[.string ({ data:=#[] })],[.string ({ data:=#[] })]],.int .i64 (reN (tailS s))]):=by
 exact fn_ok Tryd.func34 (sc:=[(1,2,.is (.c (.bool false))),(3,1,.fix (.bool true)),(5,1,.fix (.string (tailS s))),(6,1,.fix (.int .i64 (atS (tailS s)))),(6,2,.is (.c (.int .i64 (-1:Int)))),(10,1,.fix (.tuple #[.string (M.B (rvN (tailS s))),.int .i64 (reN (tailS s))])),(11,1,.is (.c (.bool true)))]) (sb:=[]) (by kernel_rfl) (hP (isB h0) (hC (cbool (hps_k (s:=s)) hn) (hV (sl_tail (P:=Tryd.prog) (t:=9) (s:=s) Tryd.underlying9 hn) (hC (ixs_k (s:=tailS s)) (hP (atN h) (hC (rnum_k (s:=tailS s)) (hP (isB h1) hN)))))))
theorem fr_ct {s:ByteArray} (hn:negS s=true) (h:MustNo (tailS s))  (h0:decide ((2000:Int) < (↑(ByteArray.size s):Int))=false) (h1:(!decide (reN (tailS s)=(0:Int)))=false):CSpec Tryd.prog 34 #[(.string s)] (.tuple #[Rv ((↑(sgn true (rvN (tailS s))):Rat)),.int .i64 (0:Int)]):=by
 have s2:=(rvN_s (s:=tailS s))
 exact fn_ok Tryd.func34 (sc:=[(1,2,.is (.c (.bool false))),(3,1,.fix (.bool true)),(5,1,.fix (.string (tailS s))),(6,1,.fix (.int .i64 (atS (tailS s)))),(6,2,.is (.c (.int .i64 (-1:Int)))),(10,1,.fix (.tuple #[.string (M.B (rvN (tailS s))),.int .i64 (reN (tailS s))])),(11,1,.is (.c (.bool false))),(13,1,.fix (.tuple #[.string ({ data:=#[(1:UInt8)] }),.int .i64 (0:Int)])),(18,4,.fix (Rv ((↑(sgn true (rvN (tailS s))):Rat))))]) (sb:=[]) (by kernel_rfl) (hP (isB h0) (hC (cbool (hps_k (s:=s)) hn) (hV (sl_tail (P:=Tryd.prog) (t:=9) (s:=s) Tryd.underlying9 hn) (hC (ixs_k (s:=tailS s)) (hP (atN h) (hC (rnum_k (s:=tailS s)) (hP (isB h1) (hC rnum1_k (hC (ratn_k (n:=true) s2) hN)))))))))
theorem fr_dt {s:ByteArray} {i:Nat} (hn:negS s=true) (h:MustAt (tailS s) i) (hs:(tailS s).size≤3000)  (h0:decide ((2000:Int) < (↑(ByteArray.size s):Int))=false) (h1:decide ((0:Int)≤(↑i:Int))=true) (h2:(!decide (reN (ByteArray.extract (tailS s) (0:Nat) i)=(0:Int)))=true):CSpec Tryd.prog 34 #[(.string s)] (.tuple #[ag [[.bool false],[.string ({ data:=#[] })],[.string ({ data:=#[] })]],.int .i64 (reN (ByteArray.extract (tailS s) (0:Nat) i))]):=by
 exact fn_ok Tryd.func34 (sc:=[(1,2,.is (.c (.bool false))),(3,1,.fix (.bool true)),(5,1,.fix (.string (tailS s))),(6,1,.fix (.int .i64 (atS (tailS s)))),(6,2,.is (.c (.int .i64 (↑i:Int)))),(8,1,.is (.c (.bool true))),(9,2,.fix (.string (ByteArray.extract (tailS s) (0:Nat) i))),(9,5,.is (.c (.int .i64 ((↑(i+(1:Nat)):Int))))),(9,6,.fix (.string (ByteArray.extract (tailS s) (i+(1:Nat)) (ByteArray.size (tailS s))))),(10,1,.fix (.tuple #[.string (M.B (rvN (ByteArray.extract (tailS s) (0:Nat) i))),.int .i64 (reN (ByteArray.extract (tailS s) (0:Nat) i))])),(11,1,.is (.c (.bool true)))]) (sb:=[]) (by kernel_rfl) (hP (isB h0) (hC (cbool (hps_k (s:=s)) hn) (hV (sl_tail (P:=Tryd.prog) (t:=9) (s:=s) Tryd.underlying9 hn) (hC (ixs_k (s:=tailS s)) (hP (atI h) (hP (isB h1) (hV (sl_to (P:=Tryd.prog) (t:=9) (s:=tailS s) (i:=i) Tryd.underlying9 (at_le h)) (hP (at1 h hs) (hV (sl_from (P:=Tryd.prog) (t:=9) (s:=tailS s) (i:=i+1) Tryd.underlying9 (at_lt h)) (hC (rnum_k (s:=ByteArray.extract (tailS s) (0:Nat) i)) (hP (isB h2) hN)))))))))))
theorem fr_et {s:ByteArray} {i:Nat} (hn:negS s=true) (h:MustAt (tailS s) i) (hs:(tailS s).size≤3000)  (h0:decide ((2000:Int) < (↑(ByteArray.size s):Int))=false) (h1:decide ((0:Int)≤(↑i:Int))=true) (h2:(!decide (reN (ByteArray.extract (tailS s) (0:Nat) i)=(0:Int)))=false) (h3:(!decide (reN (ByteArray.extract (tailS s) (i+(1:Nat)) (ByteArray.size (tailS s)))=(0:Int)))=true):CSpec Tryd.prog 34 #[(.string s)] (.tuple #[ag [[.bool false],[.string ({ data:=#[] })],[.string ({ data:=#[] })]],.int .i64 (reN (ByteArray.extract (tailS s) (i+(1:Nat)) (ByteArray.size (tailS s))))]):=by
 exact fn_ok Tryd.func34 (sc:=[(1,2,.is (.c (.bool false))),(3,1,.fix (.bool true)),(5,1,.fix (.string (tailS s))),(6,1,.fix (.int .i64 (atS (tailS s)))),(6,2,.is (.c (.int .i64 (↑i:Int)))),(8,1,.is (.c (.bool true))),(9,2,.fix (.string (ByteArray.extract (tailS s) (0:Nat) i))),(9,5,.is (.c (.int .i64 ((↑(i+(1:Nat)):Int))))),(9,6,.fix (.string (ByteArray.extract (tailS s) (i+(1:Nat)) (ByteArray.size (tailS s))))),(10,1,.fix (.tuple #[.string (M.B (rvN (ByteArray.extract (tailS s) (0:Nat) i))),.int .i64 (reN (ByteArray.extract (tailS s) (0:Nat) i))])),(11,1,.is (.c (.bool false))),(13,1,.fix (.tuple #[.string (M.B (rvN (ByteArray.extract (tailS s) (i+(1:Nat)) (ByteArray.size (tailS s))))),.int .i64 (reN (ByteArray.extract (tailS s) (i+(1:Nat)) (ByteArray.size (tailS s))))])),(14,1,.is (.c (.bool true)))]) (sb:=[]) (by kernel_rfl) (hP (isB h0) (hC (cbool (hps_k (s:=s)) hn) (hV (sl_tail (P:=Tryd.prog) (t:=9) (s:=s) Tryd.underlying9 hn) (hC (ixs_k (s:=tailS s)) (hP (atI h) (hP (isB h1) (hV (sl_to (P:=Tryd.prog) (t:=9) (s:=tailS s) (i:=i) Tryd.underlying9 (at_le h)) (hP (at1 h hs) (hV (sl_from (P:=Tryd.prog) (t:=9) (s:=tailS s) (i:=i+1) Tryd.underlying9 (at_lt h)) (hC (rnum_k (s:=ByteArray.extract (tailS s) (0:Nat) i)) (hP (isB h2) (hC (rnum_k (s:=ByteArray.extract (tailS s) (i+(1:Nat)) (ByteArray.size (tailS s)))) (hP (isB h3) hN)))))))))))))
theorem fr_ft {s:ByteArray} {i:Nat} (hn:negS s=true) (h:MustAt (tailS s) i) (hs:(tailS s).size≤3000)  (h0:decide ((2000:Int) < (↑(ByteArray.size s):Int))=false) (h1:decide ((0:Int)≤(↑i:Int))=true) (h2:(!decide (reN (ByteArray.extract (tailS s) (0:Nat) i)=(0:Int)))=false) (h3:(!decide (reN (ByteArray.extract (tailS s) (i+(1:Nat)) (ByteArray.size (tailS s)))=(0:Int)))=false) (h4:(ByteArray.toList (M.B (rvN (ByteArray.extract (tailS s) (i+(1:Nat)) (ByteArray.size (tailS s)))))==ByteArray.toList { data:=#[] })=true):CSpec Tryd.prog 34 #[(.string s)] (.tuple #[ag [[.bool false],[.string ({ data:=#[] })],[.string ({ data:=#[] })]],.int .i64 (12:Int)]):=by
 exact fn_ok Tryd.func34 (sc:=[(1,2,.is (.c (.bool false))),(3,1,.fix (.bool true)),(5,1,.fix (.string (tailS s))),(6,1,.fix (.int .i64 (atS (tailS s)))),(6,2,.is (.c (.int .i64 (↑i:Int)))),(8,1,.is (.c (.bool true))),(9,2,.fix (.string (ByteArray.extract (tailS s) (0:Nat) i))),(9,5,.is (.c (.int .i64 ((↑(i+(1:Nat)):Int))))),(9,6,.fix (.string (ByteArray.extract (tailS s) (i+(1:Nat)) (ByteArray.size (tailS s))))),(10,1,.fix (.tuple #[.string (M.B (rvN (ByteArray.extract (tailS s) (0:Nat) i))),.int .i64 (reN (ByteArray.extract (tailS s) (0:Nat) i))])),(11,1,.is (.c (.bool false))),(13,1,.fix (.tuple #[.string (M.B (rvN (ByteArray.extract (tailS s) (i+(1:Nat)) (ByteArray.size (tailS s))))),.int .i64 (reN (ByteArray.extract (tailS s) (i+(1:Nat)) (ByteArray.size (tailS s))))])),(14,1,.is (.c (.bool false))),(16,1,.is (.c (.bool true)))]) (sb:=[]) (by kernel_rfl) (hP (isB h0) (hC (cbool (hps_k (s:=s)) hn) (hV (sl_tail (P:=Tryd.prog) (t:=9) (s:=s) Tryd.underlying9 hn) (hC (ixs_k (s:=tailS s)) (hP (atI h) (hP (isB h1) (hV (sl_to (P:=Tryd.prog) (t:=9) (s:=tailS s) (i:=i) Tryd.underlying9 (at_le h)) (hP (at1 h hs) (hV (sl_from (P:=Tryd.prog) (t:=9) (s:=tailS s) (i:=i+1) Tryd.underlying9 (at_lt h)) (hC (rnum_k (s:=ByteArray.extract (tailS s) (0:Nat) i)) (hP (isB h2) (hC (rnum_k (s:=ByteArray.extract (tailS s) (i+(1:Nat)) (ByteArray.size (tailS s)))) (hP (isB h3) (hP (isB h4) hN))))))))))))))
theorem fr_gt {s:ByteArray} {i:Nat} (hn:negS s=true) (h:MustAt (tailS s) i) (hs:(tailS s).size≤3000) (hd:NZp (rvN ((tailS s).extract (i+1) (tailS s).size)))  (h0:decide ((2000:Int) < (↑(ByteArray.size s):Int))=false) (h1:decide ((0:Int)≤(↑i:Int))=true) (h2:(!decide (reN (ByteArray.extract (tailS s) (0:Nat) i)=(0:Int)))=false) (h3:(!decide (reN (ByteArray.extract (tailS s) (i+(1:Nat)) (ByteArray.size (tailS s)))=(0:Int)))=false) (h4:(ByteArray.toList (M.B (rvN (ByteArray.extract (tailS s) (i+(1:Nat)) (ByteArray.size (tailS s)))))==ByteArray.toList { data:=#[] })=false) (h7:rvN (ByteArray.extract (tailS s) (i+(1:Nat)) (ByteArray.size (tailS s)))≠(0:Nat)):CSpec Tryd.prog 34 #[(.string s)] (.tuple #[Rv (mkRat (sgn true (rvN (ByteArray.extract (tailS s) (0:Nat) i))) (rvN (ByteArray.extract (tailS s) (i+(1:Nat)) (ByteArray.size (tailS s))))),.int .i64 (0:Int)]):=by
 have s5:=(rvN_s (s:=ByteArray.extract (tailS s) (0:Nat) i))
 have s6:=(rvN_s (s:=ByteArray.extract (tailS s) (i+(1:Nat)) (ByteArray.size (tailS s))))
 exact fn_ok Tryd.func34 (sc:=[(1,2,.is (.c (.bool false))),(3,1,.fix (.bool true)),(5,1,.fix (.string (tailS s))),(6,1,.fix (.int .i64 (atS (tailS s)))),(6,2,.is (.c (.int .i64 (↑i:Int)))),(8,1,.is (.c (.bool true))),(9,2,.fix (.string (ByteArray.extract (tailS s) (0:Nat) i))),(9,5,.is (.c (.int .i64 ((↑(i+(1:Nat)):Int))))),(9,6,.fix (.string (ByteArray.extract (tailS s) (i+(1:Nat)) (ByteArray.size (tailS s))))),(10,1,.fix (.tuple #[.string (M.B (rvN (ByteArray.extract (tailS s) (0:Nat) i))),.int .i64 (reN (ByteArray.extract (tailS s) (0:Nat) i))])),(11,1,.is (.c (.bool false))),(13,1,.fix (.tuple #[.string (M.B (rvN (ByteArray.extract (tailS s) (i+(1:Nat)) (ByteArray.size (tailS s))))),.int .i64 (reN (ByteArray.extract (tailS s) (i+(1:Nat)) (ByteArray.size (tailS s))))])),(14,1,.is (.c (.bool false))),(16,1,.is (.c (.bool false))),(18,4,.fix (Rv (mkRat (sgn true (rvN (ByteArray.extract (tailS s) (0:Nat) i))) (rvN (ByteArray.extract (tailS s) (i+(1:Nat)) (ByteArray.size (tailS s)))))))]) (sb:=[]) (by kernel_rfl) (hP (isB h0) (hC (cbool (hps_k (s:=s)) hn) (hV (sl_tail (P:=Tryd.prog) (t:=9) (s:=s) Tryd.underlying9 hn) (hC (ixs_k (s:=tailS s)) (hP (atI h) (hP (isB h1) (hV (sl_to (P:=Tryd.prog) (t:=9) (s:=tailS s) (i:=i) Tryd.underlying9 (at_le h)) (hP (at1 h hs) (hV (sl_from (P:=Tryd.prog) (t:=9) (s:=tailS s) (i:=i+1) Tryd.underlying9 (at_lt h)) (hC (rnum_k (s:=ByteArray.extract (tailS s) (0:Nat) i)) (hP (isB h2) (hC (rnum_k (s:=ByteArray.extract (tailS s) (i+(1:Nat)) (ByteArray.size (tailS s)))) (hP (isB h3) (hP (isB h4) (hC (rat_k (s:=true) s5 s6 (by decide +kernel) h7) hN)))))))))))))))
theorem fr_bf {s:ByteArray} (hn:negS s=false) (h:MustNo (tailS s))  (h0:decide ((2000:Int) < (↑(ByteArray.size s):Int))=false) (h1:(!decide (reN (tailS s)=(0:Int)))=true):CSpec Tryd.prog 34 #[(.string s)] (.tuple #[ag [[.bool false],[.string ({ data:=#[] })],[.string ({ data:=#[] })]],.int .i64 (reN (tailS s))]):=by
 exact fn_ok Tryd.func34 (sc:=[(1,2,.is (.c (.bool false))),(3,1,.fix (.bool false)),(6,0,.is (.c (.string (tailS s)))),(6,1,.fix (.int .i64 (atS (tailS s)))),(6,2,.is (.c (.int .i64 (-1:Int)))),(10,0,.is (.c (.string (tailS s)))),(10,1,.fix (.tuple #[.string (M.B (rvN (tailS s))),.int .i64 (reN (tailS s))])),(11,1,.is (.c (.bool true)))]) (sb:=[]) (by kernel_rfl) (hP (isB h0) (hC (cbool (hps_k (s:=s)) hn) (hP (tl_f hn) (hC (ixs_k (s:=tailS s)) (hP (atN h) (hP (tl_f hn) (hC (rnum_k (s:=tailS s)) (hP (isB h1) hN))))))))
theorem fr_cf {s:ByteArray} (hn:negS s=false) (h:MustNo (tailS s))  (h0:decide ((2000:Int) < (↑(ByteArray.size s):Int))=false) (h1:(!decide (reN (tailS s)=(0:Int)))=false):CSpec Tryd.prog 34 #[(.string s)] (.tuple #[Rv ((↑(sgn false (rvN (tailS s))):Rat)),.int .i64 (0:Int)]):=by
 have s2:=(rvN_s (s:=tailS s))
 exact fn_ok Tryd.func34 (sc:=[(1,2,.is (.c (.bool false))),(3,1,.fix (.bool false)),(6,0,.is (.c (.string (tailS s)))),(6,1,.fix (.int .i64 (atS (tailS s)))),(6,2,.is (.c (.int .i64 (-1:Int)))),(10,0,.is (.c (.string (tailS s)))),(10,1,.fix (.tuple #[.string (M.B (rvN (tailS s))),.int .i64 (reN (tailS s))])),(11,1,.is (.c (.bool false))),(13,1,.fix (.tuple #[.string ({ data:=#[(1:UInt8)] }),.int .i64 (0:Int)])),(18,4,.fix (Rv ((↑(sgn false (rvN (tailS s))):Rat))))]) (sb:=[]) (by kernel_rfl) (hP (isB h0) (hC (cbool (hps_k (s:=s)) hn) (hP (tl_f hn) (hC (ixs_k (s:=tailS s)) (hP (atN h) (hP (tl_f hn) (hC (rnum_k (s:=tailS s)) (hP (isB h1) (hC rnum1_k (hC (ratn_k (n:=false) s2) hN))))))))))
theorem fr_df {s:ByteArray} {i:Nat} (hn:negS s=false) (h:MustAt (tailS s) i) (hs:(tailS s).size≤3000)  (h0:decide ((2000:Int) < (↑(ByteArray.size s):Int))=false) (h1:decide ((0:Int)≤(↑i:Int))=true) (h2:(!decide (reN (ByteArray.extract (tailS s) (0:Nat) i)=(0:Int)))=true):CSpec Tryd.prog 34 #[(.string s)] (.tuple #[ag [[.bool false],[.string ({ data:=#[] })],[.string ({ data:=#[] })]],.int .i64 (reN (ByteArray.extract (tailS s) (0:Nat) i))]):=by
 exact fn_ok Tryd.func34 (sc:=[(1,2,.is (.c (.bool false))),(3,1,.fix (.bool false)),(6,0,.is (.c (.string (tailS s)))),(6,1,.fix (.int .i64 (atS (tailS s)))),(6,2,.is (.c (.int .i64 (↑i:Int)))),(8,1,.is (.c (.bool true))),(9,0,.is (.c (.string (tailS s)))),(9,2,.fix (.string (ByteArray.extract (tailS s) (0:Nat) i))),(9,3,.is (.c (.string (tailS s)))),(9,5,.is (.c (.int .i64 ((↑(i+(1:Nat)):Int))))),(9,6,.fix (.string (ByteArray.extract (tailS s) (i+(1:Nat)) (ByteArray.size (tailS s))))),(10,1,.fix (.tuple #[.string (M.B (rvN (ByteArray.extract (tailS s) (0:Nat) i))),.int .i64 (reN (ByteArray.extract (tailS s) (0:Nat) i))])),(11,1,.is (.c (.bool true)))]) (sb:=[]) (by kernel_rfl) (hP (isB h0) (hC (cbool (hps_k (s:=s)) hn) (hP (tl_f hn) (hC (ixs_k (s:=tailS s)) (hP (atI h) (hP (isB h1) (hP (tl_f hn) (hV (sl_to (P:=Tryd.prog) (t:=9) (s:=tailS s) (i:=i) Tryd.underlying9 (at_le h)) (hP (tl_f hn) (hP (at1 h hs) (hV (sl_from (P:=Tryd.prog) (t:=9) (s:=tailS s) (i:=i+1) Tryd.underlying9 (at_lt h)) (hC (rnum_k (s:=ByteArray.extract (tailS s) (0:Nat) i)) (hP (isB h2) hN)))))))))))))
theorem fr_ef {s:ByteArray} {i:Nat} (hn:negS s=false) (h:MustAt (tailS s) i) (hs:(tailS s).size≤3000)  (h0:decide ((2000:Int) < (↑(ByteArray.size s):Int))=false) (h1:decide ((0:Int)≤(↑i:Int))=true) (h2:(!decide (reN (ByteArray.extract (tailS s) (0:Nat) i)=(0:Int)))=false) (h3:(!decide (reN (ByteArray.extract (tailS s) (i+(1:Nat)) (ByteArray.size (tailS s)))=(0:Int)))=true):CSpec Tryd.prog 34 #[(.string s)] (.tuple #[ag [[.bool false],[.string ({ data:=#[] })],[.string ({ data:=#[] })]],.int .i64 (reN (ByteArray.extract (tailS s) (i+(1:Nat)) (ByteArray.size (tailS s))))]):=by
 exact fn_ok Tryd.func34 (sc:=[(1,2,.is (.c (.bool false))),(3,1,.fix (.bool false)),(6,0,.is (.c (.string (tailS s)))),(6,1,.fix (.int .i64 (atS (tailS s)))),(6,2,.is (.c (.int .i64 (↑i:Int)))),(8,1,.is (.c (.bool true))),(9,0,.is (.c (.string (tailS s)))),(9,2,.fix (.string (ByteArray.extract (tailS s) (0:Nat) i))),(9,3,.is (.c (.string (tailS s)))),(9,5,.is (.c (.int .i64 ((↑(i+(1:Nat)):Int))))),(9,6,.fix (.string (ByteArray.extract (tailS s) (i+(1:Nat)) (ByteArray.size (tailS s))))),(10,1,.fix (.tuple #[.string (M.B (rvN (ByteArray.extract (tailS s) (0:Nat) i))),.int .i64 (reN (ByteArray.extract (tailS s) (0:Nat) i))])),(11,1,.is (.c (.bool false))),(13,1,.fix (.tuple #[.string (M.B (rvN (ByteArray.extract (tailS s) (i+(1:Nat)) (ByteArray.size (tailS s))))),.int .i64 (reN (ByteArray.extract (tailS s) (i+(1:Nat)) (ByteArray.size (tailS s))))])),(14,1,.is (.c (.bool true)))]) (sb:=[]) (by kernel_rfl) (hP (isB h0) (hC (cbool (hps_k (s:=s)) hn) (hP (tl_f hn) (hC (ixs_k (s:=tailS s)) (hP (atI h) (hP (isB h1) (hP (tl_f hn) (hV (sl_to (P:=Tryd.prog) (t:=9) (s:=tailS s) (i:=i) Tryd.underlying9 (at_le h)) (hP (tl_f hn) (hP (at1 h hs) (hV (sl_from (P:=Tryd.prog) (t:=9) (s:=tailS s) (i:=i+1) Tryd.underlying9 (at_lt h)) (hC (rnum_k (s:=ByteArray.extract (tailS s) (0:Nat) i)) (hP (isB h2) (hC (rnum_k (s:=ByteArray.extract (tailS s) (i+(1:Nat)) (ByteArray.size (tailS s)))) (hP (isB h3) hN)))))))))))))))
theorem fr_ff {s:ByteArray} {i:Nat} (hn:negS s=false) (h:MustAt (tailS s) i) (hs:(tailS s).size≤3000)  (h0:decide ((2000:Int) < (↑(ByteArray.size s):Int))=false) (h1:decide ((0:Int)≤(↑i:Int))=true) (h2:(!decide (reN (ByteArray.extract (tailS s) (0:Nat) i)=(0:Int)))=false) (h3:(!decide (reN (ByteArray.extract (tailS s) (i+(1:Nat)) (ByteArray.size (tailS s)))=(0:Int)))=false) (h4:(ByteArray.toList (M.B (rvN (ByteArray.extract (tailS s) (i+(1:Nat)) (ByteArray.size (tailS s)))))==ByteArray.toList { data:=#[] })=true):CSpec Tryd.prog 34 #[(.string s)] (.tuple #[ag [[.bool false],[.string ({ data:=#[] })],[.string ({ data:=#[] })]],.int .i64 (12:Int)]):=by
 exact fn_ok Tryd.func34 (sc:=[(1,2,.is (.c (.bool false))),(3,1,.fix (.bool false)),(6,0,.is (.c (.string (tailS s)))),(6,1,.fix (.int .i64 (atS (tailS s)))),(6,2,.is (.c (.int .i64 (↑i:Int)))),(8,1,.is (.c (.bool true))),(9,0,.is (.c (.string (tailS s)))),(9,2,.fix (.string (ByteArray.extract (tailS s) (0:Nat) i))),(9,3,.is (.c (.string (tailS s)))),(9,5,.is (.c (.int .i64 ((↑(i+(1:Nat)):Int))))),(9,6,.fix (.string (ByteArray.extract (tailS s) (i+(1:Nat)) (ByteArray.size (tailS s))))),(10,1,.fix (.tuple #[.string (M.B (rvN (ByteArray.extract (tailS s) (0:Nat) i))),.int .i64 (reN (ByteArray.extract (tailS s) (0:Nat) i))])),(11,1,.is (.c (.bool false))),(13,1,.fix (.tuple #[.string (M.B (rvN (ByteArray.extract (tailS s) (i+(1:Nat)) (ByteArray.size (tailS s))))),.int .i64 (reN (ByteArray.extract (tailS s) (i+(1:Nat)) (ByteArray.size (tailS s))))])),(14,1,.is (.c (.bool false))),(16,1,.is (.c (.bool true)))]) (sb:=[]) (by kernel_rfl) (hP (isB h0) (hC (cbool (hps_k (s:=s)) hn) (hP (tl_f hn) (hC (ixs_k (s:=tailS s)) (hP (atI h) (hP (isB h1) (hP (tl_f hn) (hV (sl_to (P:=Tryd.prog) (t:=9) (s:=tailS s) (i:=i) Tryd.underlying9 (at_le h)) (hP (tl_f hn) (hP (at1 h hs) (hV (sl_from (P:=Tryd.prog) (t:=9) (s:=tailS s) (i:=i+1) Tryd.underlying9 (at_lt h)) (hC (rnum_k (s:=ByteArray.extract (tailS s) (0:Nat) i)) (hP (isB h2) (hC (rnum_k (s:=ByteArray.extract (tailS s) (i+(1:Nat)) (ByteArray.size (tailS s)))) (hP (isB h3) (hP (isB h4) hN))))))))))))))))
theorem fr_gf {s:ByteArray} {i:Nat} (hn:negS s=false) (h:MustAt (tailS s) i) (hs:(tailS s).size≤3000) (hd:NZp (rvN ((tailS s).extract (i+1) (tailS s).size)))  (h0:decide ((2000:Int) < (↑(ByteArray.size s):Int))=false) (h1:decide ((0:Int)≤(↑i:Int))=true) (h2:(!decide (reN (ByteArray.extract (tailS s) (0:Nat) i)=(0:Int)))=false) (h3:(!decide (reN (ByteArray.extract (tailS s) (i+(1:Nat)) (ByteArray.size (tailS s)))=(0:Int)))=false) (h4:(ByteArray.toList (M.B (rvN (ByteArray.extract (tailS s) (i+(1:Nat)) (ByteArray.size (tailS s)))))==ByteArray.toList { data:=#[] })=false) (h7:rvN (ByteArray.extract (tailS s) (i+(1:Nat)) (ByteArray.size (tailS s)))≠(0:Nat)):CSpec Tryd.prog 34 #[(.string s)] (.tuple #[Rv (mkRat (sgn false (rvN (ByteArray.extract (tailS s) (0:Nat) i))) (rvN (ByteArray.extract (tailS s) (i+(1:Nat)) (ByteArray.size (tailS s))))),.int .i64 (0:Int)]):=by
 have s5:=(rvN_s (s:=ByteArray.extract (tailS s) (0:Nat) i))
 have s6:=(rvN_s (s:=ByteArray.extract (tailS s) (i+(1:Nat)) (ByteArray.size (tailS s))))
 exact fn_ok Tryd.func34 (sc:=[(1,2,.is (.c (.bool false))),(3,1,.fix (.bool false)),(6,0,.is (.c (.string (tailS s)))),(6,1,.fix (.int .i64 (atS (tailS s)))),(6,2,.is (.c (.int .i64 (↑i:Int)))),(8,1,.is (.c (.bool true))),(9,0,.is (.c (.string (tailS s)))),(9,2,.fix (.string (ByteArray.extract (tailS s) (0:Nat) i))),(9,3,.is (.c (.string (tailS s)))),(9,5,.is (.c (.int .i64 ((↑(i+(1:Nat)):Int))))),(9,6,.fix (.string (ByteArray.extract (tailS s) (i+(1:Nat)) (ByteArray.size (tailS s))))),(10,1,.fix (.tuple #[.string (M.B (rvN (ByteArray.extract (tailS s) (0:Nat) i))),.int .i64 (reN (ByteArray.extract (tailS s) (0:Nat) i))])),(11,1,.is (.c (.bool false))),(13,1,.fix (.tuple #[.string (M.B (rvN (ByteArray.extract (tailS s) (i+(1:Nat)) (ByteArray.size (tailS s))))),.int .i64 (reN (ByteArray.extract (tailS s) (i+(1:Nat)) (ByteArray.size (tailS s))))])),(14,1,.is (.c (.bool false))),(16,1,.is (.c (.bool false))),(18,4,.fix (Rv (mkRat (sgn false (rvN (ByteArray.extract (tailS s) (0:Nat) i))) (rvN (ByteArray.extract (tailS s) (i+(1:Nat)) (ByteArray.size (tailS s)))))))]) (sb:=[]) (by kernel_rfl) (hP (isB h0) (hC (cbool (hps_k (s:=s)) hn) (hP (tl_f hn) (hC (ixs_k (s:=tailS s)) (hP (atI h) (hP (isB h1) (hP (tl_f hn) (hV (sl_to (P:=Tryd.prog) (t:=9) (s:=tailS s) (i:=i) Tryd.underlying9 (at_le h)) (hP (tl_f hn) (hP (at1 h hs) (hV (sl_from (P:=Tryd.prog) (t:=9) (s:=tailS s) (i:=i+1) Tryd.underlying9 (at_lt h)) (hC (rnum_k (s:=ByteArray.extract (tailS s) (0:Nat) i)) (hP (isB h2) (hC (rnum_k (s:=ByteArray.extract (tailS s) (i+(1:Nat)) (ByteArray.size (tailS s)))) (hP (isB h3) (hP (isB h4) (hC (rat_k (s:=false) s5 s6 (by decide +kernel) h7) hN)))))))))))))))))
theorem lo_len:∀ (m n:Nat),n < 10^m→(SB.lo n).length≤m
 | 0,n,h=>by
   have:n=0:=by simpa using h
   subst this
   rw [SB.lo_0]
   exact Nat.le_refl _
 | m+1,n,h=>by
   by_cases hz:n=0
   ·subst hz
    rw [SB.lo_0]
    exact Nat.zero_le _
   rw [SB.lo_s hz,List.length_cons]
   have:=lo_len m (n/10) (by rw [Nat.pow_succ] at h; omega)
   omega
theorem dec_sz {k K:Nat} (h:SzN k K):(SB.decB (SB.lo k)).size≤3*K+1:=by
 have h1:k < 10^(3*K):=by
  have h2:(256:Nat)^K≤(10^3)^K:=Nat.pow_le_pow_left (by decide) _
  rw [← Nat.pow_mul] at h2
  exact Nat.lt_of_lt_of_le h h2
 have h3:=lo_len _ _ h1
 unfold SB.decB
 split
 ·show 1≤_
  omega
 rw [strOfNums_size,List.length_reverse]
 omega
theorem rvfit_k {n:Bool} {a b:ByteArray} {x:Rat} (h:IsR n a b x 1048576):CSpec Tryd.prog 71 #[rv n a b] (Rv x):=h.fit (by decide)
def tN (x:Rat):ByteArray:=SB.decB (SB.lo x.num.natAbs)
def tD (x:Rat):ByteArray:=SB.decB (SB.lo x.den)
def txA (x:Rat):ByteArray:=if x.num < 0 then ⟨#[45]⟩++tN x else tN x
def txt (x:Rat):ByteArray:=if x.den=1 then txA x else txA x++(⟨#[47]⟩++tD x)
theorem tN_sz {x:Rat} {K:Nat} (h:Sz x K):(tN x).size≤3*K+1:=dec_sz h.1
theorem tD_sz {x:Rat} {K:Nat} (h:Sz x K):(tD x).size≤3*K+1:=dec_sz h.2
theorem one_sz {c:UInt8}:(⟨#[c]⟩:ByteArray).size=1:=rfl
theorem numS_s {x:Rat} {K:Nat} (h:Sz x K):SzN x.num.natAbs K:=h.1
theorem denS_s {x:Rat} {K:Nat} (h:Sz x K):SzN x.den K:=h.2
theorem den_b {x:Rat}:((M.B x.den).toList==ByteArray.toList ⟨#[1]⟩)=decide (x.den=1):=by
 have e:=dc_str (M.B x.den) ⟨#[1]⟩
 rw [e]
 refine decide_eq_decide.2 ⟨fun h=>?_,fun h=>by rw [h,B_one']⟩
 have:=congrArg M.V h
 rw [M.V_B,← B_one',M.V_B] at this
 exact this
theorem cat1 {P:Program} {c:UInt8} {b:ByteArray} (h:b.size≤9000000000):sval P (do let v ← Op.stringOp .add ⟨#[c]⟩ b; pure (Next.value v))=some (.value (.string (⟨#[c]⟩++b))):=cat_v (by rw [one_sz]; omega)
theorem cat2 {P:Program} {a b:ByteArray} (ha:a.size≤9000000000) (hb:b.size≤9000000000):sval P (do let v ← Op.stringOp .add a b; pure (Next.value v))=some (.value (.string (a++b))):=cat_v (by omega)
theorem tx_a {n:Bool} {a b:ByteArray} {x:Rat} (h:IsR n a b x 1048576) (zN:(tN x).size≤9000000000) (zA:(⟨#[45]⟩++tN x).size≤9000000000) (zD:(tD x).size≤9000000000) (zE:(⟨#[47]⟩++tD x).size≤9000000000) (h1:decide (Rat.num x < (0:Int))=true) (h2:(!ByteArray.toList (M.B (Rat.den x))==ByteArray.toList { data:=#[(1:UInt8)] })=false):CSpec Tryd.prog 35 #[(rv n a b)] (.string ({ data:=#[(45:UInt8)] }++tN x)):=by
 have s0:=(num_s (szr h))
 exact fn_ok Tryd.func35 (sc:=[(1,1,.fix (Rv x)),(2,2,.fix (.string (SB.decB (SB.lo (Int.natAbs (Rat.num x)))))),(2,3,.is (.c (.string (tN x)))),(3,1,.is (.c (.bool true))),(4,1,.fix (.string ({ data:=#[(45:UInt8)] }++tN x))),(5,2,.is (.c (.bool false)))]) (sb:=[]) (by kernel_rfl) (hC (rvfit_k h) (hC (textN_k s0 (by decide +kernel)) (hP (show V.c (Value.string (SB.decB (SB.lo (Int.natAbs (Rat.num x))))) = .c (.string (tN x)) from (rfl)) (hP (isB h1) (hV (cat1 (c:=45) zN) (hP (isB h2) hN))))))
theorem tx_b {n:Bool} {a b:ByteArray} {x:Rat} (h:IsR n a b x 1048576) (zN:(tN x).size≤9000000000) (zA:(⟨#[45]⟩++tN x).size≤9000000000) (zD:(tD x).size≤9000000000) (zE:(⟨#[47]⟩++tD x).size≤9000000000) (h1:decide (Rat.num x < (0:Int))=true) (h2:(!ByteArray.toList (M.B (Rat.den x))==ByteArray.toList { data:=#[(1:UInt8)] })=true):CSpec Tryd.prog 35 #[(rv n a b)] (.string ({ data:=#[(45:UInt8)] }++tN x++({ data:=#[(47:UInt8)] }++tD x))):=by
 have s0:=(num_s (szr h))
 have s3:=(den_s (szr h))
 exact fn_ok Tryd.func35 (sc:=[(1,1,.fix (Rv x)),(2,2,.fix (.string (SB.decB (SB.lo (Int.natAbs (Rat.num x)))))),(2,3,.is (.c (.string (tN x)))),(3,1,.is (.c (.bool true))),(4,1,.fix (.string ({ data:=#[(45:UInt8)] }++tN x))),(5,2,.is (.c (.bool true))),(6,3,.fix (.string (SB.decB (SB.lo (Rat.den x))))),(6,4,.fix (.string ({ data:=#[(47:UInt8)] }++tD x))),(6,5,.fix (.string ({ data:=#[(45:UInt8)] }++tN x++({ data:=#[(47:UInt8)] }++tD x))))]) (sb:=[]) (by kernel_rfl) (hC (rvfit_k h) (hC (textN_k s0 (by decide +kernel)) (hP (show V.c (Value.string (SB.decB (SB.lo (Int.natAbs (Rat.num x))))) = .c (.string (tN x)) from (rfl)) (hP (isB h1) (hV (cat1 (c:=45) zN) (hP (isB h2) (hC (textN_k s3 (by decide +kernel)) (hV (cat1 (c:=47) zD) (hV (cat2 zA zE) hN)))))))))
theorem tx_c {n:Bool} {a b:ByteArray} {x:Rat} (h:IsR n a b x 1048576) (zN:(tN x).size≤9000000000) (zA:(⟨#[45]⟩++tN x).size≤9000000000) (zD:(tD x).size≤9000000000) (zE:(⟨#[47]⟩++tD x).size≤9000000000) (h1:decide (Rat.num x < (0:Int))=false) (h2:(!ByteArray.toList (M.B (Rat.den x))==ByteArray.toList { data:=#[(1:UInt8)] })=false):CSpec Tryd.prog 35 #[(rv n a b)] (.string (tN x)):=by
 have s0:=(num_s (szr h))
 exact fn_ok Tryd.func35 (sc:=[(1,1,.fix (Rv x)),(2,2,.fix (.string (SB.decB (SB.lo (Int.natAbs (Rat.num x)))))),(2,3,.is (.c (.string (tN x)))),(3,1,.is (.c (.bool false))),(5,2,.is (.c (.bool false)))]) (sb:=[]) (by kernel_rfl) (hC (rvfit_k h) (hC (textN_k s0 (by decide +kernel)) (hP (show V.c (Value.string (SB.decB (SB.lo (Int.natAbs (Rat.num x))))) = .c (.string (tN x)) from (rfl)) (hP (isB h1) (hP (isB h2) hN)))))
theorem tx_d {n:Bool} {a b:ByteArray} {x:Rat} (h:IsR n a b x 1048576) (zN:(tN x).size≤9000000000) (zA:(⟨#[45]⟩++tN x).size≤9000000000) (zD:(tD x).size≤9000000000) (zE:(⟨#[47]⟩++tD x).size≤9000000000) (h1:decide (Rat.num x < (0:Int))=false) (h2:(!ByteArray.toList (M.B (Rat.den x))==ByteArray.toList { data:=#[(1:UInt8)] })=true):CSpec Tryd.prog 35 #[(rv n a b)] (.string (tN x++({ data:=#[(47:UInt8)] }++tD x))):=by
 have s0:=(num_s (szr h))
 have s3:=(den_s (szr h))
 exact fn_ok Tryd.func35 (sc:=[(1,1,.fix (Rv x)),(2,2,.fix (.string (SB.decB (SB.lo (Int.natAbs (Rat.num x)))))),(2,3,.is (.c (.string (tN x)))),(3,1,.is (.c (.bool false))),(5,2,.is (.c (.bool true))),(6,3,.fix (.string (SB.decB (SB.lo (Rat.den x))))),(6,4,.fix (.string ({ data:=#[(47:UInt8)] }++tD x))),(6,5,.fix (.string (tN x++({ data:=#[(47:UInt8)] }++tD x))))]) (sb:=[]) (by kernel_rfl) (hC (rvfit_k h) (hC (textN_k s0 (by decide +kernel)) (hP (show V.c (Value.string (SB.decB (SB.lo (Int.natAbs (Rat.num x))))) = .c (.string (tN x)) from (rfl)) (hP (isB h1) (hP (isB h2) (hC (textN_k s3 (by decide +kernel)) (hV (cat1 (c:=47) zD) (hV (cat2 zN zE) hN))))))))
theorem rtextx_k {n:Bool} {a b:ByteArray} {x:Rat} (h:IsR n a b x 1048576):CSpec Tryd.prog 35 #[rv n a b] (.string (txt x)):=by
 have z1:=tN_sz h.sz
 have z2:=tD_sz h.sz
 have zN:(tN x).size≤9000000000:=by omega
 have zD:(tD x).size≤9000000000:=by omega
 have zA:(⟨#[45]⟩++tN x).size≤9000000000:=by rw [ByteArray.size_append,one_sz]; omega
 have zE:(⟨#[47]⟩++tD x).size≤9000000000:=by rw [ByteArray.size_append,one_sz]; omega
 have hd:=den_b (x:=x)
 unfold txt txA
 by_cases c1:x.num < 0<;>by_cases c2:x.den=1
 ·rw [if_pos c1,if_pos c2]
  exact tx_a h zN zA zD zE (decide_eq_true c1) (by rw [hd,decide_eq_true c2]; rfl)
 ·rw [if_pos c1,if_neg c2]
  exact tx_b h zN zA zD zE (decide_eq_true c1) (by rw [hd,decide_eq_false c2]; rfl)
 ·rw [if_neg c1,if_pos c2]
  exact tx_c h zN zA zD zE (decide_eq_false c1) (by rw [hd,decide_eq_true c2]; rfl)
 rw [if_neg c1,if_neg c2]
 exact tx_d h zN zA zD zE (decide_eq_false c1) (by rw [hd,decide_eq_false c2]; rfl)
open Classical in
noncomputable def fres (s:ByteArray):Option Rat × Int :=
 if 2000 < s.size then (none,2) else if atS (tailS s) = -1 then (if reN (tailS s)=0 then (some ((sgn (negS s) (rvN (tailS s)):Int):Rat),0) else (none,reN (tailS s))) else
  if reN ((tailS s).extract 0 (atS (tailS s)).toNat)=0 then (if reN ((tailS s).extract ((atS (tailS s)).toNat+1) (tailS s).size)=0 then (if rvN ((tailS s).extract ((atS (tailS s)).toNat+1) (tailS s).size)=0 then (none,12) else
   (some (mkRat (sgn (negS s) (rvN ((tailS s).extract 0 (atS (tailS s)).toNat))) (rvN ((tailS s).extract ((atS (tailS s)).toNat+1) (tailS s).size))),0)) else (none,reN ((tailS s).extract ((atS (tailS s)).toNat+1) (tailS s).size))) else (none,reN ((tailS s).extract 0 (atS (tailS s)).toNat))
def oN (o:Option Rat):Bool:=match o with | some x=>decide (x.num < 0) | none=>false
def oA (o:Option Rat):ByteArray:=match o with | some x=>M.B x.num.natAbs | none=>⟨#[]⟩
def oB (o:Option Rat):ByteArray:=match o with | some x=>M.B x.den | none=>⟨#[]⟩
def oV (o:Option Rat × Int):Value:=.tuple #[rv (oN o.1) (oA o.1) (oB o.1),.int .i64 o.2]
theorem B_z {k:Nat}:(ByteArray.toList (M.B k)==ByteArray.toList ⟨#[]⟩)=decide (k=0):=by
 rw [dc_str]
 refine decide_eq_decide.2 ⟨fun h=>?_,fun h=>by rw [h,M.B_zero]⟩
 have:=congrArg M.V h
 rw [M.V_B] at this
 exact this
section
variable {s:ByteArray}
theorem sz_f (h:¬ 2000 < s.size):decide ((2000:Int) < (s.size:Int))=false:=decide_eq_false (by omega)
theorem ne_t {z:Int} (h:¬ z=0):(!decide (z=0))=true:=by rw [decide_eq_false h]; rfl
theorem ne_f {z:Int} (h:z=0):(!decide (z=0))=false:=by rw [decide_eq_true h]; rfl
theorem rread_k:CSpec Tryd.prog 33 #[.string s] (.tuple #[rv (oN (fres s).1) (oA (fres s).1) (oB (fres s).1),.int .i64 (fres s).2]):=by
 show CSpec _ _ _ (oV (fres s))
 unfold fres
 by_cases h0:2000 < s.size
 ·rw [if_pos h0]
  exact rd_a (decide_eq_true (by omega))
 rw [if_neg h0]
 have hs:=tailS_le (s:=s) (by omega)
 by_cases h1:atS (tailS s) = -1
 ·rw [if_pos h1]
  by_cases h2:reN (tailS s)=0
  ·rw [if_pos h2]
   exact rd_c h1 (sz_f h0) (ne_f h2)
  rw [if_neg h2]
  exact rd_b h1 (sz_f h0) (ne_t h2)
 rw [if_neg h1]
 have hg:=atS_ge (s:=tailS s)
 obtain ⟨i,hi⟩:∃ i:Nat,atS (tailS s)=(i:Int):=⟨(atS (tailS s)).toNat,by omega⟩
 rw [hi,Int.toNat_natCast]
 have ha:MustAt (tailS s) i:=hi
 by_cases h2:reN ((tailS s).extract 0 i)=0
 ·rw [if_pos h2]
  by_cases h3:reN ((tailS s).extract (i+1) (tailS s).size)=0
  ·rw [if_pos h3]
   by_cases h4:rvN ((tailS s).extract (i+1) (tailS s).size)=0
   ·rw [if_pos h4]
    exact rd_f ha hs (sz_f h0) (ne_f h2) (ne_f h3) (by rw [B_z]; exact decide_eq_true h4)
   rw [if_neg h4]
   exact rd_g ha hs h4 (sz_f h0) (ne_f h2) (ne_f h3) (by rw [B_z]; exact decide_eq_false h4)
  rw [if_neg h3]
  exact rd_e ha hs (sz_f h0) (ne_f h2) (ne_t h3)
 rw [if_neg h2]
 exact rd_d ha hs (sz_f h0) (ne_t h2)
theorem rfrac_k:CSpec Tryd.prog 34 #[.string s] (.tuple #[rv (oN (fres s).1) (oA (fres s).1) (oB (fres s).1),.int .i64 (fres s).2]):=by
 show CSpec _ _ _ (oV (fres s))
 unfold fres
 by_cases h0:2000 < s.size
 ·rw [if_pos h0]
  exact fr_a (decide_eq_true (by omega))
 rw [if_neg h0]
 have hs:=tailS_le (s:=s) (by omega)
 by_cases h1:atS (tailS s) = -1
 ·rw [if_pos h1]
  by_cases h2:reN (tailS s)=0
  ·rw [if_pos h2]
   cases hn:negS s with
   | true=>exact fr_ct hn h1 (sz_f h0) (ne_f h2)
   | false=>exact fr_cf hn h1 (sz_f h0) (ne_f h2)
  rw [if_neg h2]
  cases hn:negS s with
  | true=>exact fr_bt hn h1 (sz_f h0) (ne_t h2)
  | false=>exact fr_bf hn h1 (sz_f h0) (ne_t h2)
 rw [if_neg h1]
 have hg:=atS_ge (s:=tailS s)
 obtain ⟨i,hi⟩:∃ i:Nat,atS (tailS s)=(i:Int):=⟨(atS (tailS s)).toNat,by omega⟩
 rw [hi,Int.toNat_natCast]
 have ha:MustAt (tailS s) i:=hi
 have h9:decide (0≤((i:Nat):Int))=true:=decide_eq_true (by omega)
 by_cases h2:reN ((tailS s).extract 0 i)=0
 ·rw [if_pos h2]
  by_cases h3:reN ((tailS s).extract (i+1) (tailS s).size)=0
  ·rw [if_pos h3]
   by_cases h4:rvN ((tailS s).extract (i+1) (tailS s).size)=0
   ·rw [if_pos h4]
    cases hn:negS s with
    | true=>exact fr_ft hn ha hs (sz_f h0) h9 (ne_f h2) (ne_f h3) (by rw [B_z]; exact decide_eq_true h4)
    | false=>exact fr_ff hn ha hs (sz_f h0) h9 (ne_f h2) (ne_f h3) (by rw [B_z]; exact decide_eq_true h4)
   rw [if_neg h4]
   cases hn:negS s with
   | true=>exact fr_gt hn ha hs h4 (sz_f h0) h9 (ne_f h2) (ne_f h3) (by rw [B_z]; exact decide_eq_false h4) h4
   | false=>exact fr_gf hn ha hs h4 (sz_f h0) h9 (ne_f h2) (ne_f h3) (by rw [B_z]; exact decide_eq_false h4) h4
  rw [if_neg h3]
  cases hn:negS s with
  | true=>exact fr_et hn ha hs (sz_f h0) h9 (ne_f h2) (ne_t h3)
  | false=>exact fr_ef hn ha hs (sz_f h0) h9 (ne_f h2) (ne_t h3)
 rw [if_neg h2]
 cases hn:negS s with
 | true=>exact fr_dt hn ha hs (sz_f h0) h9 (ne_t h2)
 | false=>exact fr_df hn ha hs (sz_f h0) h9 (ne_t h2)
end
theorem lw_a {n:Bool} {a b:ByteArray} {x:Rat} {s:ByteArray} (h:IsR n a b x 1048576) (zN:(tN x).size≤9000000000) (zA:(⟨#[45]⟩++tN x).size≤9000000000) (zD:(tD x).size≤9000000000) (zE:(⟨#[47]⟩++tD x).size≤9000000000) (h1:decide (Rat.num x < (0:Int))=true) (h2:(!ByteArray.toList (M.B (Rat.den x))==ByteArray.toList { data:=#[(1:UInt8)] })=false) (h3:(ByteArray.toList (txt x)==ByteArray.toList ({ data:=#[(45:UInt8)] }++tN x))=true) (h4:decide (Prod.snd (fres s)=Prod.snd (fres s))=true):CSpec Tryd.prog 6 #[(rv n a b),(.string s)] (.bool true):=by
 have s0:=(num_s (szr h))
 exact fn_ok Tryd.func6 (sc:=[(1,0,.fix (.bool true)),(3,1,.fix (Rv x)),(4,2,.fix (.string (SB.decB (SB.lo (Int.natAbs (Rat.num x)))))),(4,3,.is (.c (.string (tN x)))),(5,1,.is (.c (.bool true))),(6,1,.fix (.string ({ data:=#[(45:UInt8)] }++tN x))),(7,2,.is (.c (.bool false))),(9,1,.fix (.tuple #[ag [[.bool (oN (Prod.fst (fres s)))],[.string (oA (Prod.fst (fres s)))],[.string (oB (Prod.fst (fres s)))]],.int .i64 (Prod.snd (fres s))])),(10,1,.fix (.tuple #[ag [[.bool (oN (Prod.fst (fres s)))],[.string (oA (Prod.fst (fres s)))],[.string (oB (Prod.fst (fres s)))]],.int .i64 (Prod.snd (fres s))])),(11,1,.fix (.string (txt x))),(11,3,.is (.c (.bool true))),(11,7,.eqs),(11,12,.is (.c (.bool true)))]) (sb:=[]) (by kernel_rfl) (hC ratBegun_k (hC (qof_k h (by decide +kernel)) (hC (decN_k s0 (by decide +kernel)) (hP (show V.c (Value.string (SB.decB (SB.lo (Int.natAbs (Rat.num x))))) = .c (.string (tN x)) from (rfl)) (hP (isB h1) (hV (cat1 (c:=45) zN) (hP (isB h2) (hC (rread_k (s:=s)) (hC (rfrac_k (s:=s)) (hC (rtextx_k h) (hP (isB h3) (hP (Eq.refl (ag [[.bool (oN (Prod.fst (fres s)))],[.string (oA (Prod.fst (fres s)))],[.string (oB (Prod.fst (fres s)))]])) (hP (isB h4) hN)))))))))))))
theorem lw_b {n:Bool} {a b:ByteArray} {x:Rat} {s:ByteArray} (h:IsR n a b x 1048576) (zN:(tN x).size≤9000000000) (zA:(⟨#[45]⟩++tN x).size≤9000000000) (zD:(tD x).size≤9000000000) (zE:(⟨#[47]⟩++tD x).size≤9000000000) (h1:decide (Rat.num x < (0:Int))=true) (h2:(!ByteArray.toList (M.B (Rat.den x))==ByteArray.toList { data:=#[(1:UInt8)] })=true) (h4:(ByteArray.toList (txt x)==ByteArray.toList ({ data:=#[(45:UInt8)] }++tN x++({ data:=#[(47:UInt8)] }++tD x)))=true) (h5:decide (Prod.snd (fres s)=Prod.snd (fres s))=true):CSpec Tryd.prog 6 #[(rv n a b),(.string s)] (.bool true):=by
 have s0:=(num_s (szr h))
 have s3:=(den_s (szr h))
 exact fn_ok Tryd.func6 (sc:=[(1,0,.fix (.bool true)),(3,1,.fix (Rv x)),(4,2,.fix (.string (SB.decB (SB.lo (Int.natAbs (Rat.num x)))))),(4,3,.is (.c (.string (tN x)))),(5,1,.is (.c (.bool true))),(6,1,.fix (.string ({ data:=#[(45:UInt8)] }++tN x))),(7,2,.is (.c (.bool true))),(8,3,.fix (.string (SB.decB (SB.lo (Rat.den x))))),(8,4,.fix (.string ({ data:=#[(47:UInt8)] }++tD x))),(8,5,.fix (.string ({ data:=#[(45:UInt8)] }++tN x++({ data:=#[(47:UInt8)] }++tD x)))),(9,1,.fix (.tuple #[ag [[.bool (oN (Prod.fst (fres s)))],[.string (oA (Prod.fst (fres s)))],[.string (oB (Prod.fst (fres s)))]],.int .i64 (Prod.snd (fres s))])),(10,1,.fix (.tuple #[ag [[.bool (oN (Prod.fst (fres s)))],[.string (oA (Prod.fst (fres s)))],[.string (oB (Prod.fst (fres s)))]],.int .i64 (Prod.snd (fres s))])),(11,1,.fix (.string (txt x))),(11,3,.is (.c (.bool true))),(11,7,.eqs),(11,12,.is (.c (.bool true)))]) (sb:=[]) (by kernel_rfl) (hC ratBegun_k (hC (qof_k h (by decide +kernel)) (hC (decN_k s0 (by decide +kernel)) (hP (show V.c (Value.string (SB.decB (SB.lo (Int.natAbs (Rat.num x))))) = .c (.string (tN x)) from (rfl)) (hP (isB h1) (hV (cat1 (c:=45) zN) (hP (isB h2) (hC (decN_k s3 (by decide +kernel)) (hV (cat1 (c:=47) zD) (hV (cat2 zA zE) (hC (rread_k (s:=s)) (hC (rfrac_k (s:=s)) (hC (rtextx_k h) (hP (isB h4) (hP (Eq.refl (ag [[.bool (oN (Prod.fst (fres s)))],[.string (oA (Prod.fst (fres s)))],[.string (oB (Prod.fst (fres s)))]])) (hP (isB h5) hN))))))))))))))))
theorem lw_c {n:Bool} {a b:ByteArray} {x:Rat} {s:ByteArray} (h:IsR n a b x 1048576) (zN:(tN x).size≤9000000000) (zA:(⟨#[45]⟩++tN x).size≤9000000000) (zD:(tD x).size≤9000000000) (zE:(⟨#[47]⟩++tD x).size≤9000000000) (h1:decide (Rat.num x < (0:Int))=false) (h2:(!ByteArray.toList (M.B (Rat.den x))==ByteArray.toList { data:=#[(1:UInt8)] })=false) (h3:(ByteArray.toList (txt x)==ByteArray.toList (tN x))=true) (h4:decide (Prod.snd (fres s)=Prod.snd (fres s))=true):CSpec Tryd.prog 6 #[(rv n a b),(.string s)] (.bool true):=by
 have s0:=(num_s (szr h))
 exact fn_ok Tryd.func6 (sc:=[(1,0,.fix (.bool true)),(3,1,.fix (Rv x)),(4,2,.fix (.string (SB.decB (SB.lo (Int.natAbs (Rat.num x)))))),(4,3,.is (.c (.string (tN x)))),(5,1,.is (.c (.bool false))),(7,2,.is (.c (.bool false))),(9,1,.fix (.tuple #[ag [[.bool (oN (Prod.fst (fres s)))],[.string (oA (Prod.fst (fres s)))],[.string (oB (Prod.fst (fres s)))]],.int .i64 (Prod.snd (fres s))])),(10,1,.fix (.tuple #[ag [[.bool (oN (Prod.fst (fres s)))],[.string (oA (Prod.fst (fres s)))],[.string (oB (Prod.fst (fres s)))]],.int .i64 (Prod.snd (fres s))])),(11,1,.fix (.string (txt x))),(11,3,.is (.c (.bool true))),(11,7,.eqs),(11,12,.is (.c (.bool true)))]) (sb:=[]) (by kernel_rfl) (hC ratBegun_k (hC (qof_k h (by decide +kernel)) (hC (decN_k s0 (by decide +kernel)) (hP (show V.c (Value.string (SB.decB (SB.lo (Int.natAbs (Rat.num x))))) = .c (.string (tN x)) from (rfl)) (hP (isB h1) (hP (isB h2) (hC (rread_k (s:=s)) (hC (rfrac_k (s:=s)) (hC (rtextx_k h) (hP (isB h3) (hP (Eq.refl (ag [[.bool (oN (Prod.fst (fres s)))],[.string (oA (Prod.fst (fres s)))],[.string (oB (Prod.fst (fres s)))]])) (hP (isB h4) hN))))))))))))
theorem lw_d {n:Bool} {a b:ByteArray} {x:Rat} {s:ByteArray} (h:IsR n a b x 1048576) (zN:(tN x).size≤9000000000) (zA:(⟨#[45]⟩++tN x).size≤9000000000) (zD:(tD x).size≤9000000000) (zE:(⟨#[47]⟩++tD x).size≤9000000000) (h1:decide (Rat.num x < (0:Int))=false) (h2:(!ByteArray.toList (M.B (Rat.den x))==ByteArray.toList { data:=#[(1:UInt8)] })=true) (h4:(ByteArray.toList (txt x)==ByteArray.toList (tN x++({ data:=#[(47:UInt8)] }++tD x)))=true) (h5:decide (Prod.snd (fres s)=Prod.snd (fres s))=true):CSpec Tryd.prog 6 #[(rv n a b),(.string s)] (.bool true):=by
 have s0:=(num_s (szr h))
 have s3:=(den_s (szr h))
 exact fn_ok Tryd.func6 (sc:=[(1,0,.fix (.bool true)),(3,1,.fix (Rv x)),(4,2,.fix (.string (SB.decB (SB.lo (Int.natAbs (Rat.num x)))))),(4,3,.is (.c (.string (tN x)))),(5,1,.is (.c (.bool false))),(7,2,.is (.c (.bool true))),(8,3,.fix (.string (SB.decB (SB.lo (Rat.den x))))),(8,4,.fix (.string ({ data:=#[(47:UInt8)] }++tD x))),(8,5,.fix (.string (tN x++({ data:=#[(47:UInt8)] }++tD x)))),(9,1,.fix (.tuple #[ag [[.bool (oN (Prod.fst (fres s)))],[.string (oA (Prod.fst (fres s)))],[.string (oB (Prod.fst (fres s)))]],.int .i64 (Prod.snd (fres s))])),(10,1,.fix (.tuple #[ag [[.bool (oN (Prod.fst (fres s)))],[.string (oA (Prod.fst (fres s)))],[.string (oB (Prod.fst (fres s)))]],.int .i64 (Prod.snd (fres s))])),(11,1,.fix (.string (txt x))),(11,3,.is (.c (.bool true))),(11,7,.eqs),(11,12,.is (.c (.bool true)))]) (sb:=[]) (by kernel_rfl) (hC ratBegun_k (hC (qof_k h (by decide +kernel)) (hC (decN_k s0 (by decide +kernel)) (hP (show V.c (Value.string (SB.decB (SB.lo (Int.natAbs (Rat.num x))))) = .c (.string (tN x)) from (rfl)) (hP (isB h1) (hP (isB h2) (hC (decN_k s3 (by decide +kernel)) (hV (cat1 (c:=47) zD) (hV (cat2 zN zE) (hC (rread_k (s:=s)) (hC (rfrac_k (s:=s)) (hC (rtextx_k h) (hP (isB h4) (hP (Eq.refl (ag [[.bool (oN (Prod.fst (fres s)))],[.string (oA (Prod.fst (fres s)))],[.string (oB (Prod.fst (fres s)))]])) (hP (isB h5) hN)))))))))))))))
theorem ratTexts_law (n:Bool) (a b s:ByteArray) (ha:a.size≤1048576) (hb:b.size≤1048576) (hs:s.size≤1048576):CSpec Tryd.prog 6 #[rv n a b,.string s] (.bool true):=by
 have h:=IsR.raw n a b ha hb (by decide)
 generalize qv n a b=x at h
 have z1:=tN_sz h.sz
 have z2:=tD_sz h.sz
 have zN:(tN x).size≤9000000000:=by omega
 have zD:(tD x).size≤9000000000:=by omega
 have zA:(⟨#[45]⟩++tN x).size≤9000000000:=by rw [ByteArray.size_append,one_sz]; omega
 have zE:(⟨#[47]⟩++tD x).size≤9000000000:=by rw [ByteArray.size_append,one_sz]; omega
 have hd:=den_b (x:=x)
 have ht:txt x=if x.den=1 then (if x.num < 0 then ⟨#[45]⟩++tN x else tN x) else (if x.num < 0 then ⟨#[45]⟩++tN x else tN x)++(⟨#[47]⟩++tD x):=rfl
 by_cases c1:x.num < 0<;>by_cases c2:x.den=1
 ·rw [if_pos c1,if_pos c2] at ht
  exact lw_a h zN zA zD zE (decide_eq_true c1) (by rw [hd,decide_eq_true c2]; rfl) (by rw [ht]; exact beq_self_eq_true _) (decide_eq_true rfl)
 ·rw [if_pos c1,if_neg c2] at ht
  exact lw_b h zN zA zD zE (decide_eq_true c1) (by rw [hd,decide_eq_false c2]; rfl) (by rw [ht]; exact beq_self_eq_true _) (decide_eq_true rfl)
 ·rw [if_neg c1,if_pos c2] at ht
  exact lw_c h zN zA zD zE (decide_eq_false c1) (by rw [hd,decide_eq_true c2]; rfl) (by rw [ht]; exact beq_self_eq_true _) (decide_eq_true rfl)
 rw [if_neg c1,if_neg c2] at ht
 exact lw_d h zN zA zD zE (decide_eq_false c1) (by rw [hd,decide_eq_false c2]; rfl) (by rw [ht]; exact beq_self_eq_true _) (decide_eq_true rfl)
end Go.Proofs.YtkpeembfagcpcaaDoor.G
end
