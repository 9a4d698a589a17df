import Derived.Test.YtmkgijiniopalaaDoorYDZ
set_option maxRecDepth 100000
set_option linter.unusedSimpArgs false
set_option linter.unusedVariables false
section
namespace Go.Proofs.YtmkgijiniopalaaDoor.G
open Go.Proofs.YtmkgijiniopalaaDoor.U Go.RowKit
def mk (n k:Nat):Nat:=if n+1 - k < k then n+1 - k else k
def capQ (n:Nat) (s a:Rat) (k:Nat):Rat:=mn s (a*(((mk n k:Nat):Int):Rat))
def covQ (n:Nat) (s a:Rat):Nat→Rat
 | 0=>0
 | k+1=>covQ n s a k+capQ n s a (k+1)
theorem mkT {n k:Nat} (h:k≤n):V.c (.int .i64 (if ((n:Int)+1 - (k:Int)) < (k:Int) then ((n:Int)+1 - (k:Int)) else (k:Int)))=V.c (.int .i64 ((mk n k:Nat):Int)):=by
 congr 2
 unfold mk
 split<;>split<;>omega
theorem mk_le {n k:Nat}:mk n k≤k:=by unfold mk; split<;>omega
theorem covQ_sz {n:Nat} {s a:Rat} {K L:Nat} (hs:Sz s K) (ha:Sz a L) (hn:n≤50):∀ k:Nat,k≤n→Sz (covQ n s a k) (k*(K+L+9)+1)
 | 0,_=>by
   have h:Sz ((0:Int):Rat) 8:=int_s (by decide)
   rw [Nat.zero_mul]
   exact (by unfold Sz; exact ⟨by decide,by decide⟩:Sz 0 (0+1))
 | k+1,h=>by
   have h1:=covQ_sz hs ha hn k (by omega)
   have h2:Sz ((((mk n (k+1):Nat):Int)):Rat) 8:=int_s (by have:=mk_le (n:=n) (k:=k+1); omega)
   have h3:=add_s h1 (mn_s hs (mul_s ha h2))
   have e:k*(K+L+9)+1+(K+(L+8))+1=(k+1)*(K+L+9)+1:=by rw [Nat.succ_mul]; omega
   rw [e] at h3
   exact h3
def qcl (x:Rat):List V:=[.c (.bool (decide (x.num < 0))),vN x.num.natAbs,vN x.den]
def qc (l:List Rat):List V:=l.flatMap qcl
def rcl (x:Rat):List V:=[.c (.bool (decide (x.num < 0))),.c (.string (M.B x.num.natAbs)),.c (.string (M.B x.den))]
def rcs (l:List Rat):List V:=l.flatMap rcl
def dR (x:Rat):List D:=[.v (.bool (decide (x.num < 0))),.v (.string (M.B x.num.natAbs)),.v (.string (M.B x.den))]
def dRs (l:List Rat):D:=.sl l.length 3 fun i k=>(dR (l.getD i 0)).getD k (.v undef)
def dQs (l:List Rat):D:=.sl l.length 3 fun i k=>(dQ (l.getD i 0)).getD k (.v undef)
theorem fm_len {f:Rat→List V} (hf:∀ x,(f x).length=3):∀ l:List Rat,(l.flatMap f).length=3*l.length
 | []=>rfl
 | x::l=>by rw [List.flatMap_cons,List.length_append,hf,fm_len hf l,List.length_cons]; omega
theorem fm_drop {f:Rat→List V} (hf:∀ x,(f x).length=3):∀ (l:List Rat) (i:Nat),(l.flatMap f).drop (i*3)=(l.drop i).flatMap f
 | l,0=>by simp
 | [],i+1=>by simp
 | x::l,i+1=>by
   rw [List.flatMap_cons,List.drop_append,List.drop_of_length_le (by rw [hf]; omega),List.nil_append,hf,show (i+1)*3 - 3=i*3 by omega,fm_drop hf l i,List.drop_succ_cons]
theorem fm_win {f:Rat→List V} (hf:∀ x,(f x).length=3) {l:List Rat} {i:Nat} (hi:i < l.length):((l.flatMap f).drop (i*3)).take 3=f (l.getD i 0):=by
 rw [fm_drop hf,List.drop_eq_getElem_cons hi,List.flatMap_cons,List.take_append_of_le_length (by rw [hf]; exact Nat.le_refl _),List.take_of_length_le (by rw [hf]; exact Nat.le_refl _),List.getD_eq_getElem?_getD,List.getElem?_eq_getElem hi]
 rfl
theorem qcl_len (x:Rat):(qcl x).length=3:=rfl
theorem rcl_len (x:Rat):(rcl x).length=3:=rfl
theorem qc_len (l:List Rat):(qc l).length=3*l.length:=fm_len qcl_len l
theorem rcs_len (l:List Rat):(rcs l).length=3*l.length:=fm_len rcl_len l
theorem qc_at {l:List Rat} {i:Nat} (hi:i < l.length):toDs (((qc l).drop (i*3)).take 3)=some (dQ (l.getD i 0))∧(dQ (l.getD i 0)).length=3:=by
 unfold qc
 rw [fm_win qcl_len hi]
 exact ⟨rfl,rfl⟩
theorem qc_fr {l:List Rat}:(qc l).all V.fre=true:=List.all_eq_true.2 fun v hv=>by
 obtain ⟨x,_,hx⟩:=List.mem_flatMap.1 hv
 simp only [qcl,List.mem_cons,List.not_mem_nil,or_false] at hx
 rcases hx with rfl | rfl | rfl<;>rfl
theorem rcs_f {l:List Rat}:(rcs l).all V.isC=true:=List.all_eq_true.2 fun v hv=>by
 obtain ⟨x,_,hx⟩:=List.mem_flatMap.1 hv
 simp only [rcl,List.mem_cons,List.not_mem_nil,or_false] at hx
 rcases hx with rfl | rfl | rfl<;>rfl
theorem rcs_fr {l:List Rat}:(rcs l).all V.fre=true:=List.all_eq_true.2 fun v hv=>by
 obtain ⟨x,_,hx⟩:=List.mem_flatMap.1 hv
 simp only [rcl,List.mem_cons,List.not_mem_nil,or_false] at hx
 rcases hx with rfl | rfl | rfl<;>rfl
theorem qc_ap (l:List Rat) (x:Rat):qc l++qcl x=qc (l++[x]):=by simp [qc]
theorem rcs_ap (l:List Rat) (x:Rat):rcs l++rcl x=rcs (l++[x]):=by simp [rcs]
theorem emp_own {l:List Rat}:(!l.isEmpty)=true∨l.length=0:=by cases l<;>simp
theorem apQ {l:List Rat} {x:Rat}:appG (qc l) (qcl x) l.length 1 3∧((!l.isEmpty)=true∨l.length=0):=⟨⟨rfl,rfl,rfl,by rw [qc_len]; omega,qc_fr,by decide⟩,emp_own⟩
theorem apR {l:List Rat} {x:Rat}:appG (rcs l) (rcl x) l.length 1 3∧((!l.isEmpty)=true∨l.length=0):=⟨⟨rfl,rfl,rfl,by rw [rcs_len]; omega,rcs_fr,by decide⟩,emp_own⟩
theorem win_cell {c:List V} {i k:Nat} {d:List V} (h:(c.drop (i*3)).take 3=d) (hk:k < 3):c[i*3+k]? = d[k]?:=by
 rw [← h,List.getElem?_take,if_pos hk,List.getElem?_drop]
theorem frz_qc {l:List Rat} {n:Nat} (h:n=l.length):frz (qc l) 0 n 3 (fun i k=>(dQ (l.getD i 0)).getD k (.v undef)):=fun i hi k hk=>by
 have hw:=fm_win qcl_len (l:=l) (i:=i) (by omega)
 have hc:=win_cell (k:=k) hw hk
 rw [Nat.zero_add]
 rcases (show k=0∨k=1∨k=2 by omega) with rfl | rfl | rfl
 ·exact ⟨_,hc,_,rfl,D.Le.refl _⟩
 ·exact ⟨_,hc,_,rfl,D.Le.refl _⟩
 exact ⟨_,hc,_,rfl,D.Le.refl _⟩
theorem frz_rcs {l:List Rat} {n:Nat} (h:n=l.length):frz (rcs l) 0 n 3 (fun i k=>(dR (l.getD i 0)).getD k (.v undef)):=fun i hi k hk=>by
 have hw:=fm_win rcl_len (l:=l) (i:=i) (by omega)
 have hc:=win_cell (k:=k) hw hk
 rw [Nat.zero_add]
 rcases (show k=0∨k=1∨k=2 by omega) with rfl | rfl | rfl
 ·exact ⟨_,hc,_,rfl,D.Le.refl _⟩
 ·exact ⟨_,hc,_,rfl,D.Le.refl _⟩
 exact ⟨_,hc,_,rfl,D.Le.refl _⟩
theorem fm_put {f:Rat→List V} (hf:∀ x,(f x).length=3) (y:Rat):∀ (l:List Rat) (i:Nat),i < l.length→(l.flatMap f).take (i*3)++(f y++(l.flatMap f).drop (i*3+3))=(l.set i y).flatMap f
 | x::l,0,_=>by
   rw [List.set_cons_zero,List.flatMap_cons,List.flatMap_cons,Nat.zero_mul,List.take_zero,List.nil_append,Nat.zero_add,List.drop_append,List.drop_of_length_le (by rw [hf]; exact Nat.le_refl _),hf]
   rfl
 | x::l,i+1,h=>by
   have ih:=fm_put hf y l i (by simpa using h)
   rw [List.set_cons_succ,List.flatMap_cons,List.flatMap_cons,← ih,List.take_append,List.take_of_length_le (by rw [hf]; omega),List.drop_append,List.drop_of_length_le (l:=f x) (by rw [hf]; omega),List.nil_append,hf,show (i+1)*3 - 3=i*3 by omega,show (i+1)*3+3 - 3=i*3+3 by omega,List.append_assoc]
theorem set3 {c:List V} {o:Nat} {a b d:V} (h:o+3≤c.length):((c.set o a).set (o+1) b).set (o+1+1) d=c.take o++([a,b,d]++c.drop (o+3)):=by
 apply List.ext_getElem?
 intro j
 rw [List.getElem?_set,List.getElem?_set,List.getElem?_set,List.getElem?_append,List.length_take,List.length_set,List.length_set,Nat.min_eq_left (by omega)]
 by_cases h1:j < o
 ·rw [if_neg (by omega),if_neg (by omega),if_neg (by omega),if_pos h1,List.getElem?_take,if_pos h1]
 rw [if_neg h1]
 by_cases h2:j < o+3
 ·rcases (show j=o∨j=o+1∨j=o+2 by omega) with rfl | rfl | rfl
  ·rw [if_neg (by omega),if_neg (by omega),if_pos rfl,if_pos (by omega),Nat.sub_self]; rfl
  ·rw [if_neg (by omega),if_pos rfl,if_pos (by omega),show o+1 - o=1 by omega]; rfl
  rw [if_pos rfl,if_pos (by omega),show o+2 - o=2 by omega]; rfl
 rw [if_neg (by omega),if_neg (by omega),if_neg (by omega),List.getElem?_append_right (by simp; omega),List.getElem?_drop]
 congr 1
 simp
 omega
theorem qc_set {l:List Rat} {i:Nat} {y:Rat} (hi:i < l.length):splice (qc l) (i*3) (qcl y)=qc (l.set i y):=by
 show (((qc l).set (i*3) _).set (i*3+1) _).set (i*3+1+1) _=_
 rw [set3 (by rw [qc_len]; omega)]
 exact fm_put qcl_len y l i hi
def cpS (n:Nat) (s a:Rat) (l:List Rat) (k:Nat):St:=⟨slots 29 0 [(0,.c (.int .i64 (((n:Nat):Int)))),(4,.p 0 0),(5,.p 1 0),(7,.gr 2 l.length 3),(8,.c (.int .i64 (((k:Nat):Int))))],[some ⟨true,[.c (.bool (decide (s.num < 0))),vN s.num.natAbs,vN s.den]⟩,some ⟨true,[.c (.bool (decide (a.num < 0))),vN a.num.natAbs,vN a.den]⟩,some ⟨!l.isEmpty,qc l⟩]⟩
def cpT (n:Nat) (s a:Rat) (l:List Rat) (y:Rat) (k:Nat):St:=⟨slots 29 0 [(0,.c (.int .i64 (((n:Nat):Int)))),(4,.p 0 0),(5,.p 1 0),(7,.gr 2 (l.length+1) 3),(8,.c (.int .i64 (((k:Nat):Int))))],[some ⟨true,[.c (.bool (decide (s.num < 0))),vN s.num.natAbs,vN s.den]⟩,some ⟨true,[.c (.bool (decide (a.num < 0))),vN a.num.natAbs,vN a.den]⟩,some ⟨true,qc l++qcl y⟩]⟩
theorem cpT_eq {n:Nat} {s a:Rat} {l:List Rat} {y:Rat} {k:Nat}:cpT n s a l y k=cpS n s a (l++[y]) k:=by
 simp [cpT,cpS,qc_ap]
def tlS (l:List Rat) (z:Rat) (i:Nat):St:=⟨slots 18 0 [(2,.p 1 0),(3,.p 2 0),(7,.gr 0 l.length 3),(8,.c (.int .i64 (((l.length:Nat):Int)))),(9,.c (.int .i64 (((i:Nat):Int))))],[some ⟨true,qc l⟩,some ⟨true,[.c (.bool false),.c (.slice none 0 0),.c (.slice none 0 0)]⟩,some ⟨true,[.c (.bool (decide (z.num < 0))),vN z.num.natAbs,vN z.den]⟩]⟩
theorem cp_a {s a:Rat}{K L n k:Nat}{l:List Rat} (hs:Sz s K) (ha:Sz a L) (hK:K≤100000000) (hL:L≤100000000) (hk:k≤n) (hk1:1≤k) (hn:n≤50) (hm:mk n k≤50) (hl:l.length≤50) (hm2:mk n k < 9223372036854775808)  : TSpecN Tryd.prog 2 (loopOf Tryd.f43 0) (cpS n s a l k) (.normal) (cpT n s a l (mn s (a*(((mk n k:Nat):Int):Rat))) (k+1)):=by
 have s0:=(int_s (n:=(↑(mk n k):Int)) (by omega))
 have s1:=(mul_s ha s0)
 exact tspecN_ren (mask 29 0 [0,4,5,7,8]) 2 [4] (sc:=[(3,2,.is (.c (.bool true))),(5,5,.is (.c (.int .i64 ((↑n:Int)+(1:Int))))),(5,7,.is (.c (.int .i64 ((↑n:Int)+(1:Int) - (↑k:Int))))),(5,8,.is (.c (.int .i64 ((↑(mk n k):Int))))),(5,9,.data (V.dv true (dQ (↑(↑(mk n k):Int):Rat)))),(5,10,.data (V.dv true (dQ (a*(↑(↑(mk n k):Int):Rat))))),(5,11,.data (V.dv true (dQ (mn s (a*(↑(↑(mk n k):Int):Rat)))))),(5,13,.app),(4,1,.is (.c (.int .i64 ((↑k:Int)+(1:Int)))))]) (sb:=[]) (by kernel_rfl) (hP (isB (show (decide ((↑k:Int)≤(↑n:Int)))=true from dt)) (hP (wrI (e:=(↑n:Int)+(1:Int)) (by omega)) (hP (wrI (e:=(↑n:Int)+(1:Int) - (↑k:Int)) (by omega)) (hP (show V.c (Value.int .i64 (if (↑n:Int)+(1:Int) - (↑k:Int) < (↑k:Int) then (↑n:Int)+(1:Int) - (↑k:Int) else (↑k:Int))) = .c (.int .i64 ((↑(mk n k):Int))) from (mkT hk)) (hF (qN_k hm2) (hF (qMul_k ha s0 (by omega)) (hF (qLeast_k hs s1 (by omega)) (hP ((apQ (l:=l) (x:=mn s (a*(((mk n k:Nat):Int):Rat))))) (hP (show List.length l+(1:Nat)≤(9223372036854775807:Nat)∧(List.length l+(1:Nat))*(56:Nat)≤(140737488355328:Nat) by omega) (hP (wrI (e:=(↑k:Int)+(1:Int)) (by omega)) hN)))))))))) (flf rfl (flf rfl (flf (by rw [List.all_append,qc_fr]; rfl) trivial)))
theorem cp_b {s a:Rat}{n:Nat}{l:List Rat} (hn:n≤50)  : TSpecN Tryd.prog 2 (loopOf Tryd.f43 0) (cpS n s a l (n+1)) (.exit 0) (cpS n s a l (n+1)):=by
 exact tspecN_ren (mask 29 0 [0,4,5,7,8]) 2 [2] (sc:=[(3,2,.is (.c (.bool false)))]) (sb:=[]) (by kernel_rfl) (hP (isB (show (decide ((↑(n+(1:Nat)):Int)≤(↑n:Int)))=false from df)) hN) (flf rfl (flf rfl (flf qc_fr trivial)))
theorem cp_f {s a:Rat}{K L n:Nat}{l:List Rat} (hs:Sz s K) (ha:Sz a L) (hK:K≤100000000) (hL:L≤100000000) (hn:n≤50) (hn1:l.length=n) (hb:TSpecN Tryd.prog 0 (.block 0 (.loop (loopOf Tryd.f43 0))) (cpS n s a [] 1) .normal (cpS n s a l (n+1)))  : FSpec Tryd.prog 43 [.c (.int .i64 (((n:Nat):Int))),vQ s,vQ a] [] (.gr 0 l.length 3) [some ⟨!l.isEmpty,qc l⟩]:=by
 exact fspec_ok Tryd.func43 (sc:=[(2,99998,.conv [(7,V.gr (2:Nat) (0:Nat) (3:Nat))]),(0,99999,.maskN (mask 29 0 [0,4,5,7,8]))]) (sb:=[(0,.normal,cpS n s a l (n+1))]) (keep:=[2]) (by kernel_rfl) (hP (show Flat [some ⟨!l.isEmpty,qc l⟩] from (flf qc_fr trivial)) (hP (show Flat [some { own:=true,cells:=[V.c (Value.bool (decide (Rat.num s < (0:Int)))),V.dv false [dW (lim (Int.natAbs (Rat.num s)))],V.dv false [dW (lim (Rat.den s))]] },some { own:=true,cells:=[V.c (Value.bool (decide (Rat.num a < (0:Int)))),V.dv false [dW (lim (Int.natAbs (Rat.num a)))],V.dv false [dW (lim (Rat.den a))]] },some ⟨Bool.false,nv []⟩] from (flf rfl (flf rfl (flk rfl trivial)))) (hP (hb) hN)))
theorem tl_a {z:Rat}{K J i:Nat}{l:List Rat} (hz:Sz z J) (hx:Sz (l.getD i 0) K) (hJ:J+K≤1000000000) (hi:i < l.length) (hl:l.length≤50)  : TSpec Tryd.prog (loopOf Tryd.f42 0) (tlS l z i) (.normal) (tlS l (z+l.getD i 0) (i+1)):=by
 exact tspec_dim (mask 18 0 [2,3,7,8,9]) 3 (sc:=[(3,0,.is (.c (.bool true))),(4,1,.data (V.dv true (dQ (List.getD l i (0:Rat))))),(5,2,.data (V.dv true (dQ (z+List.getD l i (0:Rat))))),(6,0,.is (.c (.int .i64 ((↑i:Int)+(1:Int)))))]) (sb:=[]) (by kernel_rfl) (hP (isB (show (decide ((↑i:Int) < (↑(List.length l):Int)))=true from dt)) (hP (show (0:Int)≤(↑i:Int)∧(↑i:Int) < (↑(List.length l):Int) by omega) (hP (qc_at hi) (hF (qAdd_k hz hx (by omega)) (hP (wrI (e:=(↑i:Int)+(1:Int)) (by omega)) hN))))) (flf qc_fr (flf rfl (flf rfl trivial)))
theorem tl_b {z:Rat}{l:List Rat}   : TSpec Tryd.prog (loopOf Tryd.f42 0) (tlS l z l.length) (.exit 0) (tlS l z l.length):=by
 exact tspec_dim (mask 18 0 [2,3,7,8,9]) 3 (sc:=[(3,0,.is (.c (.bool false)))]) (sb:=[]) (by kernel_rfl) (hP (isB (show (decide ((↑(List.length l):Int) < (↑(List.length l):Int)))=false from df)) hN) (flf qc_fr (flf rfl (flf rfl trivial)))
theorem tl_f {z:Rat}{l:List Rat} (hl:l.length≤50) (hb:TSpec Tryd.prog (.block 0 (.loop (loopOf Tryd.f42 0))) (tlS l 0 0) .normal (tlS l z l.length))  : FSpec Tryd.prog 42 [.gr 0 l.length 3] [some ⟨true,qc l⟩] (V.dv true [D.v (Value.bool (decide (Rat.num z < (0:Int)))),dW (lim (Int.natAbs (Rat.num z))),dW (lim (Rat.den z))]) [some ⟨true,qc l⟩]:=by
 exact fspec_ok Tryd.func42 (sc:=[(1,0,.data (V.dv true (dQ (0:Rat)))),(0,99999,.mask (mask 18 0 [2,3,7,8,9]))]) (sb:=[(0,.normal,tlS l z l.length)]) (keep:=[]) (by kernel_rfl) (hP (show Flat [some ⟨true,qc l⟩] from (flf qc_fr trivial)) (hF qN0_k (hP (show Flat [some { own:=true,cells:=qc l },some ⟨Bool.true,nv [[.bool false],[Value.slice none (0:Nat) (0:Nat)],[Value.slice none (0:Nat) (0:Nat)]]⟩,some { own:=true,cells:=[V.c (Value.bool (decide (Rat.num (0:Rat) < (0:Int)))),V.dv false [dW (lim (0:Nat))],V.dv false [dW (lim (1:Nat))]] }] from (flf qc_fr (flk rfl (flf rfl trivial)))) (hP (hb) hN))))
def tlD (l:List Rat) (z:Rat) (i:Nat):St:=⟨slots 18 0 [(2,.p 0 0),(3,.p 1 0),(7,.dv false [dQs l]),(8,.c (.int .i64 (((l.length:Nat):Int)))),(9,.c (.int .i64 (((i:Nat):Int))))],[some ⟨true,[.c (.bool false),.c (.slice none 0 0),.c (.slice none 0 0)]⟩,some ⟨true,[.c (.bool (decide (z.num < 0))),vN z.num.natAbs,vN z.den]⟩]⟩
theorem emp_own5 {l:List Rat}:(!l.isEmpty)=true∨(l.length=0∧qc l=[]):=by cases l<;>simp [qc]
theorem cp_g {s a:Rat}{K L n:Nat}{l:List Rat} (hs:Sz s K) (ha:Sz a L) (hK:K≤100000000) (hL:L≤100000000) (hn:n≤50) (hn1:l.length=n) (hb:TSpecN Tryd.prog 0 (.block 0 (.loop (loopOf Tryd.f43 0))) (cpS n s a [] 1) .normal (cpS n s a l (n+1)))  : FSpec Tryd.prog 43 [.c (.int .i64 (((n:Nat):Int))),vQ s,vQ a] [] (V.dv false [dQs l]) []:=by
 exact fspec_ok Tryd.func43 (sc:=[(2,99998,.conv [(7,V.gr (2:Nat) (0:Nat) (3:Nat))]),(0,99999,.maskN (mask 29 0 [0,4,5,7,8])),(6,99998,.conv [(7,V.dv false [dQs l])])]) (sb:=[(0,.normal,cpS n s a l (n+1))]) (keep:=[]) (by kernel_rfl) (hP (flatB_flat (m:=[]) rfl) (hP (show Flat [some { own:=true,cells:=[V.c (Value.bool (decide (Rat.num s < (0:Int)))),V.dv false [dW (lim (Int.natAbs (Rat.num s)))],V.dv false [dW (lim (Rat.den s))]] },some { own:=true,cells:=[V.c (Value.bool (decide (Rat.num a < (0:Int)))),V.dv false [dW (lim (Int.natAbs (Rat.num a)))],V.dv false [dW (lim (Rat.den a))]] },some ⟨Bool.false,nv []⟩] from (flf rfl (flf rfl (flk rfl trivial)))) (hP (hb) (hP (show List.length l=List.length l∧(Row.own { own:=!List.isEmpty l,cells:=qc l }=true∨List.length l=(0:Nat)∧Row.cells { own:=!List.isEmpty l,cells:=qc l }=[])∧frz (Row.cells { own:=!List.isEmpty l,cells:=qc l }) (0:Nat) (List.length l) (3:Nat) fun i k=>List.getD (dQ (List.getD l i (0:Rat))) k (D.v undef) from (⟨rfl,emp_own5,frz_qc rfl⟩)) hN))))
theorem tl_c {z:Rat}{K J i:Nat}{l:List Rat} (hz:Sz z J) (hx:Sz (l.getD i 0) K) (hJ:J+K≤1000000000) (hi:i < l.length) (hl:l.length≤50)  : TSpec Tryd.prog (loopOf Tryd.f42 0) (tlD l z i) (.normal) (tlD l (z+l.getD i 0) (i+1)):=by
 exact tspec_dim (mask 18 0 [2,3,7,8,9]) 2 (sc:=[(3,0,.is (.c (.bool true))),(5,2,.data (V.dv true (dQ (z+List.getD l i (0:Rat))))),(6,0,.is (.c (.int .i64 ((↑i:Int)+(1:Int)))))]) (sb:=[]) (by kernel_rfl) (hP (isB (show (decide ((↑i:Int) < (↑(List.length l):Int)))=true from dt)) (hP (show (0:Int)≤(↑i:Int)∧(↑i:Int) < (↑(List.length l):Int) by omega) (hF (qAdd_k hz hx (by omega)) (hP (wrI (e:=(↑i:Int)+(1:Int)) (by omega)) hN)))) (flf rfl (flf rfl trivial))
theorem tl_d {z:Rat}{l:List Rat}   : TSpec Tryd.prog (loopOf Tryd.f42 0) (tlD l z l.length) (.exit 0) (tlD l z l.length):=by
 exact tspec_dim (mask 18 0 [2,3,7,8,9]) 2 (sc:=[(3,0,.is (.c (.bool false)))]) (sb:=[]) (by kernel_rfl) (hP (isB (show (decide ((↑(List.length l):Int) < (↑(List.length l):Int)))=false from df)) hN) (flf rfl (flf rfl trivial))
theorem tl_g {z:Rat}{l:List Rat} (hl:l.length≤50) (hb:TSpec Tryd.prog (.block 0 (.loop (loopOf Tryd.f42 0))) (tlD l 0 0) .normal (tlD l z l.length))  : FSpec Tryd.prog 42 [.dv false [dQs l]] [] (V.dv true [D.v (Value.bool (decide (Rat.num z < (0:Int)))),dW (lim (Int.natAbs (Rat.num z))),dW (lim (Rat.den z))]) []:=by
 exact fspec_ok Tryd.func42 (sc:=[(1,0,.data (V.dv true (dQ (0:Rat)))),(0,99999,.mask (mask 18 0 [2,3,7,8,9]))]) (sb:=[(0,.normal,tlD l z l.length)]) (keep:=[]) (by kernel_rfl) (hP (flatB_flat (m:=[]) rfl) (hF qN0_k (hP (show Flat [some ⟨Bool.true,nv [[.bool false],[Value.slice none (0:Nat) (0:Nat)],[Value.slice none (0:Nat) (0:Nat)]]⟩,some { own:=true,cells:=[V.c (Value.bool (decide (Rat.num (0:Rat) < (0:Int)))),V.dv false [dW (lim (0:Nat))],V.dv false [dW (lim (1:Nat))]] }] from (flk rfl (flf rfl trivial))) (hP (hb) hN))))
end Go.Proofs.YtmkgijiniopalaaDoor.G
end
section
namespace Go.Proofs.YtmkgijiniopalaaDoor.G
open Go.Proofs.YtmkgijiniopalaaDoor.U Go.RowKit
theorem tsnl {P:Program} {n m:Nat} {c:Code} {s s':St} {e:Ex} (h:TSpecN P n c s e s') (hm:m≤n):TSpecN P m c s e s':=fun C w0 β a w hn hok=>h C w0 β a w (Nat.le_trans hn hm) hok
theorem emp_own2 {l:List Rat}:(!l.isEmpty)=true∨(l.length=0∧rcs l=[]):=by cases l<;>simp [rcs]
def capL (n:Nat) (s a:Rat) (j:Nat):List Rat:=(List.range j).map fun i=>capQ n s a (i+1)
theorem capL_len {n:Nat} {s a:Rat} {j:Nat}:(capL n s a j).length=j:=by simp [capL]
theorem capL_succ {n:Nat} {s a:Rat} {j:Nat}:capL n s a (j+1)=capL n s a j++[capQ n s a (j+1)]:=by simp [capL,List.range_succ]
theorem capL_get {n:Nat} {s a:Rat} {j i:Nat} (hi:i < j):(capL n s a j).getD i 0=capQ n s a (i+1):=by
 rw [List.getD_eq_getElem?_getD]
 simp [capL,List.getElem?_map,List.getElem?_range hi]
theorem capQ_sz {n:Nat} {s a:Rat} {K L:Nat} (hs:Sz s K) (ha:Sz a L) {k:Nat} (hk:k≤1000):Sz (capQ n s a k) (K+L+8):=by
 have h2:Sz ((((mk n k:Nat):Int)):Rat) 8:=int_s (by have:=mk_le (n:=n) (k:=k); omega)
 have h3:=mn_s hs (mul_s ha h2)
 rw [Nat.add_assoc]
 exact h3
section
variable {s a:Rat} {K L n:Nat}
theorem cp_rounds (hs:Sz s K) (ha:Sz a L) (hK:K≤100000000) (hL:L≤100000000) (hn:n≤50):∀ d j:Nat,j+d=n→RoundsN Tryd.prog 2 (loopOf Tryd.f43 0) 0 (cpS n s a (capL n s a j) (j+1)) .normal (cpS n s a (capL n s a n) (n+1))
 | 0,j,h=>by
   obtain rfl:j=n:=by omega
   exact .stop (cp_b hn)
 | d+1,j,h=>by
   have ih:=cp_rounds hs ha hK hL hn d (j+1) (by omega)
   refine .step ?_ ih
   have hm:=mk_le (n:=n) (k:=j+1)
   have hh:=cp_a (l:=capL n s a j) hs ha hK hL (k:=j+1) (n:=n) (by omega) (by omega) hn (by omega) (by rw [capL_len]; omega) (by omega)
   rw [cpT_eq] at hh
   rw [capL_succ]
   exact hh
theorem caps_k (hs:Sz s K) (ha:Sz a L) (hK:K≤100000000) (hL:L≤100000000) (hn:n≤50) (hn1:1≤n):FSpec Tryd.prog 43 [.c (.int .i64 ((n:Nat):Int)),vQ s,vQ a] [] (.gr 0 n 3) [some ⟨true,qc (capL n s a n)⟩]:=by
 have h:=cp_f hs ha hK hL hn capL_len (tsnl (cp_rounds hs ha hK hL hn n 0 (by omega)).spec (Nat.zero_le _))
 have e:(!(capL n s a n).isEmpty)=true:=by
  have:=capL_len (n:=n) (s:=s) (a:=a) (j:=n)
  cases hq:capL n s a n with
  | nil=>rw [hq] at this; simp at this; omega
  | cons _ _=>rfl
 rw [capL_len,e] at h
 exact h
theorem tl_rounds (hs:Sz s K) (ha:Sz a L) (hK:K≤5000000) (hL:L≤5000000) (hn:n≤50):∀ d j:Nat,j+d=n→Rounds Tryd.prog (loopOf Tryd.f42 0) 0 (tlS (capL n s a n) (covQ n s a j) j) .normal (tlS (capL n s a n) (covQ n s a n) (capL n s a n).length)
 | 0,j,h=>by
   obtain rfl:j=n:=by omega
   have h:=tl_b (l:=capL j s a j) (z:=covQ j s a j)
   rw [capL_len] at h ⊢
   exact .stop h
 | d+1,j,h=>by
   have ih:=tl_rounds hs ha hK hL hn d (j+1) (by omega)
   refine .step ?_ ih
   have hz:=covQ_sz hs ha hn j (by omega)
   have hb:j*(K+L+9)≤50*(K+L+9):=Nat.mul_le_mul_right _ (by omega)
   have hg:=capL_get (n:=n) (s:=s) (a:=a) (j:=n) (i:=j) (by omega)
   have hx:Sz ((capL n s a n).getD j 0) (K+L+8):=by rw [hg]; exact capQ_sz hs ha (by omega)
   have hh:=tl_a (l:=capL n s a n) (z:=covQ n s a j) (i:=j) hz hx (by omega) (by rw [capL_len]; omega) (by rw [capL_len]; exact hn)
   rw [hg] at hh
   exact hh
theorem total_k (hs:Sz s K) (ha:Sz a L) (hK:K≤5000000) (hL:L≤5000000) (hn:n≤50):FSpec Tryd.prog 42 [.gr 0 n 3] [some ⟨true,qc (capL n s a n)⟩] (vQ (covQ n s a n)) [some ⟨true,qc (capL n s a n)⟩]:=by
 have h:=tl_f (l:=capL n s a n) (z:=covQ n s a n) (by rw [capL_len]; exact hn) (tl_rounds hs ha hK hL hn n 0 (by omega)).spec
 rw [capL_len] at h
 exact h
theorem capsD_k (hs:Sz s K) (ha:Sz a L) (hK:K≤100000000) (hL:L≤100000000) (hn:n≤50):FSpec Tryd.prog 43 [.c (.int .i64 ((n:Nat):Int)),vQ s,vQ a] [] (.dv false [dQs (capL n s a n)]) [] :=
 cp_g hs ha hK hL hn capL_len (tsnl (cp_rounds hs ha hK hL hn n 0 (by omega)).spec (Nat.zero_le _))
theorem tlD_rounds (hs:Sz s K) (ha:Sz a L) (hK:K≤5000000) (hL:L≤5000000) (hn:n≤50):∀ d j:Nat,j+d=n→Rounds Tryd.prog (loopOf Tryd.f42 0) 0 (tlD (capL n s a n) (covQ n s a j) j) .normal (tlD (capL n s a n) (covQ n s a n) (capL n s a n).length)
 | 0,j,h=>by
   obtain rfl:j=n:=by omega
   have h:=tl_d (l:=capL j s a j) (z:=covQ j s a j)
   rw [capL_len] at h ⊢
   exact .stop h
 | d+1,j,h=>by
   have ih:=tlD_rounds hs ha hK hL hn d (j+1) (by omega)
   refine .step ?_ ih
   have hz:=covQ_sz hs ha hn j (by omega)
   have hb:j*(K+L+9)≤50*(K+L+9):=Nat.mul_le_mul_right _ (by omega)
   have hg:=capL_get (n:=n) (s:=s) (a:=a) (j:=n) (i:=j) (by omega)
   have hx:Sz ((capL n s a n).getD j 0) (K+L+8):=by rw [hg]; exact capQ_sz hs ha (by omega)
   have hh:=tl_c (l:=capL n s a n) (z:=covQ n s a j) (i:=j) hz hx (by omega) (by rw [capL_len]; omega) (by rw [capL_len]; exact hn)
   rw [hg] at hh
   exact hh
theorem totalD_k (hs:Sz s K) (ha:Sz a L) (hK:K≤5000000) (hL:L≤5000000) (hn:n≤50):FSpec Tryd.prog 42 [.dv false [dQs (capL n s a n)]] [] (vQ (covQ n s a n)) [] :=
 tl_g (l:=capL n s a n) (z:=covQ n s a n) (by rw [capL_len]; exact hn) (tlD_rounds hs ha hK hL hn n 0 (by omega)).spec
end
end Go.Proofs.YtmkgijiniopalaaDoor.G
end
section
namespace Go.Proofs.YtmkgijiniopalaaDoor.G
open Go.Proofs.YtmkgijiniopalaaDoor.U Go.RowKit
def prS (x s a:Rat) (T:Int) (k:Nat):St:=⟨slots 86 0 [(3,.c (.int .i64 T)),(4,.p 0 0),(5,.p 1 0),(6,.p 2 0),(10,.c (.int .i64 (((k:Nat):Int))))],[some ⟨true,[.c (.bool (decide (x.num < 0))),vN x.num.natAbs,vN x.den]⟩,some ⟨true,[.c (.bool (decide (s.num < 0))),vN s.num.natAbs,vN s.den]⟩,some ⟨true,[.c (.bool (decide (a.num < 0))),vN a.num.natAbs,vN a.den]⟩]⟩
def prR (x s a:Rat) (l:List Rat) (n:Nat) (z:Rat) (i:Nat):St:=⟨slots 86 0 [(4,.p 0 0),(11,.gr 3 n 3),(12,.p 4 0),(69,.c (.int .i64 (((n:Nat):Int)))),(70,.c (.int .i64 (((i:Nat):Int))))],[some ⟨true,[.c (.bool (decide (x.num < 0))),vN x.num.natAbs,vN x.den]⟩,some ⟨true,[.c (.bool (decide (s.num < 0))),vN s.num.natAbs,vN s.den]⟩,some ⟨true,[.c (.bool (decide (a.num < 0))),vN a.num.natAbs,vN a.den]⟩,some ⟨true,qc l⟩,some ⟨true,[.c (.bool (decide (z.num < 0))),vN z.num.natAbs,vN z.den]⟩]⟩
def prT (x s a:Rat) (l:List Rat) (n:Nat) (z:Rat) (i j:Nat) (y:Rat):St:=⟨slots 86 0 [(4,.p 0 0),(11,.gr 3 n 3),(12,.p 4 0),(69,.c (.int .i64 (((n:Nat):Int)))),(70,.c (.int .i64 (((j:Nat):Int))))],[some ⟨true,[.c (.bool (decide (x.num < 0))),vN x.num.natAbs,vN x.den]⟩,some ⟨true,[.c (.bool (decide (s.num < 0))),vN s.num.natAbs,vN s.den]⟩,some ⟨true,[.c (.bool (decide (a.num < 0))),vN a.num.natAbs,vN a.den]⟩,some ⟨true,splice (qc l) (i*3) (qcl y)⟩,some ⟨true,[.c (.bool (decide (z.num < 0))),vN z.num.natAbs,vN z.den]⟩]⟩
theorem prT_eq {x s a z y:Rat} {l:List Rat} {n i j:Nat} (hi:i < l.length):prT x s a l n z i j y=prR x s a (l.set i y) n z j:=by
 unfold prT prR
 rw [qc_set hi]
theorem mxR {m t n:Nat} (h:n=max m t):V.c (.int .i64 (if (m:Int) < (t:Int) then (t:Int) else (m:Int)))=V.c (.int .i64 ((n:Nat):Int)):=by
 subst h
 congr 2
 split<;>omega
def bkS (l r:List Rat) (i:Nat):St:=⟨slots 19 0 [(3,.gr 0 r.length 3),(6,.dv false [dQs l]),(7,.c (.int .i64 (((l.length:Nat):Int)))),(8,.c (.int .i64 (((i:Nat):Int))))],[some ⟨!r.isEmpty,rcs r⟩]⟩
def bkT (l r:List Rat) (y:Rat) (i:Nat):St:=⟨slots 19 0 [(3,.gr 0 (r.length+1) 3),(6,.dv false [dQs l]),(7,.c (.int .i64 (((l.length:Nat):Int)))),(8,.c (.int .i64 (((i:Nat):Int))))],[some ⟨true,rcs r++rcl y⟩]⟩
theorem pr_a {x s a:Rat}{J K L H k:Nat}{T:Int} (hx:Sz x J) (hs:Sz s K) (ha:Sz a L) (hJ:J≤5000000) (hK:K≤5000000) (hL:L≤5000000) (hcv:Sz (covQ k s a k) H) (hH:H≤900000000) (hk1:1≤k) (hk:k≤50) (hc:Int.sign (Rat.num (covQ k s a k - x)) < 0)  : TSpec Tryd.prog (loopOf Tryd.f17 0) (prS x s a T k) (.normal) (prS x s a T (k+1)):=by
 exact tspec_dim (mask 86 0 [3,4,5,6,10]) 3 (sc:=[(4,1,.is (.c (.bool true))),(4,6,.data (V.dv false [dQs (capL k s a k)])),(4,7,.data (V.dv true (dQ (covQ k s a k)))),(4,9,.data (.c (.int .i64 (Int.sign (Rat.num (covQ k s a k - x)))))),(4,10,.is (.c (.bool true))),(5,1,.is (.c (.int .i64 ((↑k:Int)+(1:Int)))))]) (sb:=[]) (by kernel_rfl) (hP (isB (show (decide ((↑k:Int)≤(50:Int)))=true from dt)) (hF (capsD_k hs ha (by omega) (by omega) hk) (hF (totalD_k hs ha hK hL hk) (hF (qCmp_k hcv hx (by omega)) (hP (isB (show (decide (Int.sign (Rat.num (covQ k s a k - x)) < (0:Int)))=true from dt)) (hP (wrI (e:=(↑k:Int)+(1:Int)) (by omega)) hN)))))) (flf rfl (flf rfl (flf rfl trivial)))
theorem pr_b {x s a:Rat}{J K L H k:Nat}{T:Int} (hx:Sz x J) (hs:Sz s K) (ha:Sz a L) (hJ:J≤5000000) (hK:K≤5000000) (hL:L≤5000000) (hcv:Sz (covQ k s a k) H) (hH:H≤900000000) (hk1:1≤k) (hk:k≤50) (hc:0≤Int.sign (Rat.num (covQ k s a k - x)))  : TSpec Tryd.prog (loopOf Tryd.f17 0) (prS x s a T k) (.exit 0) (prS x s a T k):=by
 exact tspec_dim (mask 86 0 [3,4,5,6,10]) 3 (sc:=[(4,1,.is (.c (.bool true))),(4,6,.data (V.dv false [dQs (capL k s a k)])),(4,7,.data (V.dv true (dQ (covQ k s a k)))),(4,9,.data (.c (.int .i64 (Int.sign (Rat.num (covQ k s a k - x)))))),(4,10,.is (.c (.bool false)))]) (sb:=[]) (by kernel_rfl) (hP (isB (show (decide ((↑k:Int)≤(50:Int)))=true from dt)) (hF (capsD_k hs ha (by omega) (by omega) hk) (hF (totalD_k hs ha hK hL hk) (hF (qCmp_k hcv hx (by omega)) (hP (isB (show (decide (Int.sign (Rat.num (covQ k s a k - x)) < (0:Int)))=false from df)) hN))))) (flf rfl (flf rfl (flf rfl trivial)))
theorem pr_c {x s a:Rat}{J K L:Nat}{T:Int} (hx:Sz x J) (hs:Sz s K) (ha:Sz a L) (hJ:J≤5000000) (hK:K≤5000000) (hL:L≤5000000)  : TSpec Tryd.prog (loopOf Tryd.f17 0) (prS x s a T 51) (.exit 0) (prS x s a T 51):=by
 exact tspec_dim (mask 86 0 [3,4,5,6,10]) 3 (sc:=[]) (sb:=[]) (by kernel_rfl) hN (flf rfl (flf rfl (flf rfl trivial)))
theorem pr_d {x s a z:Rat}{J K L H n k i:Nat}{l:List Rat} (hx:Sz x J) (hs:Sz s K) (ha:Sz a L) (hJ:J≤5000000) (hK:K≤5000000) (hL:L≤5000000) (hl:Sz (l.getD i 0) H) (hz:Sz z k) (hH:H+k≤500000000) (hz0:z≠0) (hi:i < n) (hi2:i < l.length) (hn:n≤50) (hq:3*i+3≤(qc l).length)  : TSpec Tryd.prog (loopOf Tryd.f17 2) (prR x s a l n z i) (.normal) (prT x s a l n z i (i+1) (l.getD i 0*x/z)):=by
 have s0:=(mul_s hl hx)
 exact tspec_dim (mask 86 0 [4,11,12,69,70]) 5 (sc:=[(11,0,.is (.c (.bool true))),(13,5,.data (V.dv true (dQ (List.getD l i (0:Rat))))),(13,7,.data (V.dv true (dQ (List.getD l i (0:Rat)*x)))),(13,9,.data (V.dv true (dQ (List.getD l i (0:Rat)*x/z)))),(13,11,.fix undef),(14,0,.is (.c (.int .i64 ((↑i:Int)+(1:Int)))))]) (sb:=[]) (by kernel_rfl) (hP (isB (show (decide ((↑i:Int) < (↑n:Int)))=true from dt)) (hP (show (0:Int)≤(↑i:Int)∧(↑i:Int) < (↑n:Int) by omega) (hP (qc_at hi2) (hF (qMul_k hl hx (by omega)) (hF (qDiv_k s0 hz (by omega) hz0) (hP (show (0:Int)≤(↑i:Int)∧(↑i:Int) < (↑n:Int) by omega) (hP (show i*(3:Nat)+List.length [V.c (Value.bool (decide (Rat.num (List.getD l i (0:Rat)*x/z) < (0:Int)))),V.dv false [dW (lim (Int.natAbs (Rat.num (List.getD l i (0:Rat)*x/z))))],V.dv false [dW (lim (Rat.den (List.getD l i (0:Rat)*x/z)))]]≤List.length (qc l) by simp only [wc_len,List.length_set,List.length_replicate,List.length_append,List.length_cons,List.length_nil]; omega) (hP (wrI (e:=(↑i:Int)+(1:Int)) (by omega)) hN)))))))) (flf rfl (flf rfl (flf rfl (flf (by rw [qc_set hi2]; exact qc_fr) (flf rfl trivial)))))
theorem pr_e {x s a z:Rat}{n:Nat}{l:List Rat}   : TSpec Tryd.prog (loopOf Tryd.f17 2) (prR x s a l n z n) (.exit 2) (prR x s a l n z n):=by
 exact tspec_dim (mask 86 0 [4,11,12,69,70]) 5 (sc:=[(11,0,.is (.c (.bool false)))]) (sb:=[]) (by kernel_rfl) (hP (isB (show (decide ((↑n:Int) < (↑n:Int)))=false from df)) hN) (flf rfl (flf rfl (flf rfl (flf qc_fr (flf rfl trivial)))))
theorem pf_e1 {x s a:Rat}{J K L:Nat}{T:Int} (hx:Sz x J) (hs:Sz s K) (ha:Sz a L) (hJ:J≤5000000) (hK:K≤5000000) (hL:L≤5000000) (c:Int.sign (Rat.num x) < 0)  : FSpec Tryd.prog 17 [vQ x,vQ s,vQ a,.c (.int .i64 T)] [] (.c (.tuple #[Value.slice none (0:Nat) (0:Nat),.int .i64 (1:Int)])) []:=by
 exact fspec_ok Tryd.func17 (sc:=[(1,1,.data (.c (.int .i64 (Int.sign (Rat.num x))))),(1,2,.is (.c (.bool true)))]) (sb:=[]) (keep:=[]) (by kernel_rfl) (hP (flatB_flat (m:=[]) rfl) (hF (qSign_k hx (by omega)) (hP (isB (show (decide (Int.sign (Rat.num x) < (0:Int)))=true from dt)) hN)))
theorem pf_e2 {x s a:Rat}{J K L:Nat}{T:Int} (hx:Sz x J) (hs:Sz s K) (ha:Sz a L) (hJ:J≤5000000) (hK:K≤5000000) (hL:L≤5000000) (c1:0≤Int.sign (Rat.num x)) (c:Int.sign (Rat.num s)≤0)  : FSpec Tryd.prog 17 [vQ x,vQ s,vQ a,.c (.int .i64 T)] [] (.c (.tuple #[Value.slice none (0:Nat) (0:Nat),.int .i64 (1:Int)])) []:=by
 exact fspec_ok Tryd.func17 (sc:=[(1,1,.data (.c (.int .i64 (Int.sign (Rat.num x))))),(1,2,.is (.c (.bool false))),(1,5,.data (.c (.int .i64 (Int.sign (Rat.num s))))),(1,6,.is (.c (.bool true)))]) (sb:=[]) (keep:=[]) (by kernel_rfl) (hP (flatB_flat (m:=[]) rfl) (hF (qSign_k hx (by omega)) (hP (isB (show (decide (Int.sign (Rat.num x) < (0:Int)))=false from df)) (hF (qSign_k hs (by omega)) (hP (isB (show (decide (Int.sign (Rat.num s)≤(0:Int)))=true from dt)) hN)))))
theorem pf_e3 {x s a:Rat}{J K L:Nat}{T:Int} (hx:Sz x J) (hs:Sz s K) (ha:Sz a L) (hJ:J≤5000000) (hK:K≤5000000) (hL:L≤5000000) (c1:0≤Int.sign (Rat.num x)) (c2:0 < Int.sign (Rat.num s)) (c:Int.sign (Rat.num a)≤0)  : FSpec Tryd.prog 17 [vQ x,vQ s,vQ a,.c (.int .i64 T)] [] (.c (.tuple #[Value.slice none (0:Nat) (0:Nat),.int .i64 (1:Int)])) []:=by
 exact fspec_ok Tryd.func17 (sc:=[(1,1,.data (.c (.int .i64 (Int.sign (Rat.num x))))),(1,2,.is (.c (.bool false))),(1,5,.data (.c (.int .i64 (Int.sign (Rat.num s))))),(1,6,.is (.c (.bool false))),(1,10,.data (.c (.int .i64 (Int.sign (Rat.num a))))),(1,11,.is (.c (.bool true)))]) (sb:=[]) (keep:=[]) (by kernel_rfl) (hP (flatB_flat (m:=[]) rfl) (hF (qSign_k hx (by omega)) (hP (isB (show (decide (Int.sign (Rat.num x) < (0:Int)))=false from df)) (hF (qSign_k hs (by omega)) (hP (isB (show (decide (Int.sign (Rat.num s)≤(0:Int)))=false from df)) (hF (qSign_k ha (by omega)) (hP (isB (show (decide (Int.sign (Rat.num a)≤(0:Int)))=true from dt)) hN)))))))
theorem pf_e4 {x s a:Rat}{J K L:Nat}{T:Int} (hx:Sz x J) (hs:Sz s K) (ha:Sz a L) (hJ:J≤5000000) (hK:K≤5000000) (hL:L≤5000000) (c1:0≤Int.sign (Rat.num x)) (c2:0 < Int.sign (Rat.num s)) (c3:0 < Int.sign (Rat.num a)) (c:T < 0)  : FSpec Tryd.prog 17 [vQ x,vQ s,vQ a,.c (.int .i64 T)] [] (.c (.tuple #[Value.slice none (0:Nat) (0:Nat),.int .i64 (1:Int)])) []:=by
 exact fspec_ok Tryd.func17 (sc:=[(1,1,.data (.c (.int .i64 (Int.sign (Rat.num x))))),(1,2,.is (.c (.bool false))),(1,5,.data (.c (.int .i64 (Int.sign (Rat.num s))))),(1,6,.is (.c (.bool false))),(1,10,.data (.c (.int .i64 (Int.sign (Rat.num a))))),(1,11,.is (.c (.bool false))),(1,15,.is (.c (.bool true)))]) (sb:=[]) (keep:=[]) (by kernel_rfl) (hP (flatB_flat (m:=[]) rfl) (hF (qSign_k hx (by omega)) (hP (isB (show (decide (Int.sign (Rat.num x) < (0:Int)))=false from df)) (hF (qSign_k hs (by omega)) (hP (isB (show (decide (Int.sign (Rat.num s)≤(0:Int)))=false from df)) (hF (qSign_k ha (by omega)) (hP (isB (show (decide (Int.sign (Rat.num a)≤(0:Int)))=false from df)) (hP (isB (show (decide (T < (0:Int)))=true from dt)) hN))))))))
theorem pf_e5 {x s a:Rat}{J K L:Nat}{T:Int} (hx:Sz x J) (hs:Sz s K) (ha:Sz a L) (hJ:J≤5000000) (hK:K≤5000000) (hL:L≤5000000) (c1:0≤Int.sign (Rat.num x)) (c2:0 < Int.sign (Rat.num s)) (c3:0 < Int.sign (Rat.num a)) (c4:0≤T) (c:50 < T)  : FSpec Tryd.prog 17 [vQ x,vQ s,vQ a,.c (.int .i64 T)] [] (.c (.tuple #[Value.slice none (0:Nat) (0:Nat),.int .i64 (1:Int)])) []:=by
 exact fspec_ok Tryd.func17 (sc:=[(1,1,.data (.c (.int .i64 (Int.sign (Rat.num x))))),(1,2,.is (.c (.bool false))),(1,5,.data (.c (.int .i64 (Int.sign (Rat.num s))))),(1,6,.is (.c (.bool false))),(1,10,.data (.c (.int .i64 (Int.sign (Rat.num a))))),(1,11,.is (.c (.bool false))),(1,15,.is (.c (.bool false))),(1,19,.is (.c (.bool true)))]) (sb:=[]) (keep:=[]) (by kernel_rfl) (hP (flatB_flat (m:=[]) rfl) (hF (qSign_k hx (by omega)) (hP (isB (show (decide (Int.sign (Rat.num x) < (0:Int)))=false from df)) (hF (qSign_k hs (by omega)) (hP (isB (show (decide (Int.sign (Rat.num s)≤(0:Int)))=false from df)) (hF (qSign_k ha (by omega)) (hP (isB (show (decide (Int.sign (Rat.num a)≤(0:Int)))=false from df)) (hP (isB (show (decide (T < (0:Int)))=false from df)) (hP (isB (show (decide ((50:Int) < T))=true from dt)) hN)))))))))
theorem pf_l1 {x s a:Rat}{J K L:Nat}{T:Int} (hx:Sz x J) (hs:Sz s K) (ha:Sz a L) (hJ:J≤5000000) (hK:K≤5000000) (hL:L≤5000000) (c1:0≤Int.sign (Rat.num x)) (c2:0 < Int.sign (Rat.num s)) (c3:0 < Int.sign (Rat.num a)) (c4:0≤T) (c:T≤50) (hb0:TSpec Tryd.prog (.block 0 (.loop (loopOf Tryd.f17 0))) (prS x s a T 1) .normal (prS x s a T 51))  : FSpec Tryd.prog 17 [vQ x,vQ s,vQ a,.c (.int .i64 T)] [] (.c (.tuple #[Value.slice none (0:Nat) (0:Nat),.int .i64 (19:Int)])) []:=by
 exact fspec_ok Tryd.func17 (sc:=[(1,1,.data (.c (.int .i64 (Int.sign (Rat.num x))))),(1,2,.is (.c (.bool false))),(1,5,.data (.c (.int .i64 (Int.sign (Rat.num s))))),(1,6,.is (.c (.bool false))),(1,10,.data (.c (.int .i64 (Int.sign (Rat.num a))))),(1,11,.is (.c (.bool false))),(1,15,.is (.c (.bool false))),(1,19,.is (.c (.bool false))),(0,99999,.mask (mask 86 0 [3,4,5,6,10]))]) (sb:=[(0,.normal,prS x s a T 51)]) (keep:=[]) (by kernel_rfl) (hP (flatB_flat (m:=[]) rfl) (hF (qSign_k hx (by omega)) (hP (isB (show (decide (Int.sign (Rat.num x) < (0:Int)))=false from df)) (hF (qSign_k hs (by omega)) (hP (isB (show (decide (Int.sign (Rat.num s)≤(0:Int)))=false from df)) (hF (qSign_k ha (by omega)) (hP (isB (show (decide (Int.sign (Rat.num a)≤(0:Int)))=false from df)) (hP (isB (show (decide (T < (0:Int)))=false from df)) (hP (isB (show (decide ((50:Int) < T))=false from df)) (hP (show Flat [some { own:=true,cells:=[V.c (Value.bool (decide (Rat.num x < (0:Int)))),V.dv false [dW (lim (Int.natAbs (Rat.num x)))],V.dv false [dW (lim (Rat.den x))]] },some { own:=true,cells:=[V.c (Value.bool (decide (Rat.num s < (0:Int)))),V.dv false [dW (lim (Int.natAbs (Rat.num s)))],V.dv false [dW (lim (Rat.den s))]] },some { own:=true,cells:=[V.c (Value.bool (decide (Rat.num a < (0:Int)))),V.dv false [dW (lim (Int.natAbs (Rat.num a)))],V.dv false [dW (lim (Rat.den a))]] }] from (flf rfl (flf rfl (flf rfl trivial)))) (hP (hb0) hN)))))))))))
theorem pf_l2 {x s a:Rat}{J K L m:Nat}{T:Int} (hx:Sz x J) (hs:Sz s K) (ha:Sz a L) (hJ:J≤5000000) (hK:K≤5000000) (hL:L≤5000000) (c1:0≤Int.sign (Rat.num x)) (c2:0 < Int.sign (Rat.num s)) (c3:0 < Int.sign (Rat.num a)) (c4:0 < T) (c:T≤50) (hT:T < (m:Int)) (hm:m≤50) (hb0:TSpec Tryd.prog (.block 0 (.loop (loopOf Tryd.f17 0))) (prS x s a T 1) .normal (prS x s a T m))  : FSpec Tryd.prog 17 [vQ x,vQ s,vQ a,.c (.int .i64 T)] [] (.c (.tuple #[Value.slice none (0:Nat) (0:Nat),.int .i64 (19:Int)])) []:=by
 exact fspec_ok Tryd.func17 (sc:=[(1,1,.data (.c (.int .i64 (Int.sign (Rat.num x))))),(1,2,.is (.c (.bool false))),(1,5,.data (.c (.int .i64 (Int.sign (Rat.num s))))),(1,6,.is (.c (.bool false))),(1,10,.data (.c (.int .i64 (Int.sign (Rat.num a))))),(1,11,.is (.c (.bool false))),(1,15,.is (.c (.bool false))),(1,19,.is (.c (.bool false))),(0,99999,.mask (mask 86 0 [3,4,5,6,10])),(6,1,.is (.c (.bool false))),(6,4,.is (.c (.bool true))),(6,8,.is (.c (.bool true)))]) (sb:=[(0,.normal,prS x s a T m)]) (keep:=[]) (by kernel_rfl) (hP (flatB_flat (m:=[]) rfl) (hF (qSign_k hx (by omega)) (hP (isB (show (decide (Int.sign (Rat.num x) < (0:Int)))=false from df)) (hF (qSign_k hs (by omega)) (hP (isB (show (decide (Int.sign (Rat.num s)≤(0:Int)))=false from df)) (hF (qSign_k ha (by omega)) (hP (isB (show (decide (Int.sign (Rat.num a)≤(0:Int)))=false from df)) (hP (isB (show (decide (T < (0:Int)))=false from df)) (hP (isB (show (decide ((50:Int) < T))=false from df)) (hP (show Flat [some { own:=true,cells:=[V.c (Value.bool (decide (Rat.num x < (0:Int)))),V.dv false [dW (lim (Int.natAbs (Rat.num x)))],V.dv false [dW (lim (Rat.den x))]] },some { own:=true,cells:=[V.c (Value.bool (decide (Rat.num s < (0:Int)))),V.dv false [dW (lim (Int.natAbs (Rat.num s)))],V.dv false [dW (lim (Rat.den s))]] },some { own:=true,cells:=[V.c (Value.bool (decide (Rat.num a < (0:Int)))),V.dv false [dW (lim (Int.natAbs (Rat.num a)))],V.dv false [dW (lim (Rat.den a))]] }] from (flf rfl (flf rfl (flf rfl trivial)))) (hP (hb0) (hP (isB (show (decide ((50:Int) < (↑m:Int)))=false from df)) (hP (isB (show (decide ((0:Int) < T))=true from dt)) (hP (isB (show (decide (T < (↑m:Int)))=true from dt)) hN))))))))))))))
theorem pf_f0 {x s a:Rat}{J K L n m t:Nat}{l:List Rat} (hx:Sz x J) (hs:Sz s K) (ha:Sz a L) (hJ:J≤5000000) (hK:K≤5000000) (hL:L≤5000000) (c1:0≤Int.sign (Rat.num x)) (c2:0 < Int.sign (Rat.num s)) (c3:0 < Int.sign (Rat.num a)) (ht:t≤50) (hm:m≤50) (hm1:1≤m) (hn:n≤50) (hn1:1≤n) (hNm:n=max m t) (hl:l.length=n) (hb0:TSpec Tryd.prog (.block 0 (.loop (loopOf Tryd.f17 0))) (prS x s a ((t:Nat):Int) 1) .normal (prS x s a ((t:Nat):Int) m)) (hb2:TSpec Tryd.prog (.block 2 (.loop (loopOf Tryd.f17 2))) (prR x s a (capL n s a n) n (covQ n s a n) 0) .normal (prR x s a l n (covQ n s a n) n)) (h0:t=0)  : FSpec Tryd.prog 17 [vQ x,vQ s,vQ a,.c (.int .i64 ((t:Nat):Int))] [] (V.tu [(false,[dQs l]),(false,[D.v (Value.int .i64 (0:Int))])]) []:=by
 exact fspec_ok Tryd.func17 (sc:=[(1,1,.data (.c (.int .i64 (Int.sign (Rat.num x))))),(1,2,.is (.c (.bool false))),(1,5,.data (.c (.int .i64 (Int.sign (Rat.num s))))),(1,6,.is (.c (.bool false))),(1,10,.data (.c (.int .i64 (Int.sign (Rat.num a))))),(1,11,.is (.c (.bool false))),(1,15,.is (.c (.bool false))),(1,19,.is (.c (.bool false))),(0,99999,.mask (mask 86 0 [3,4,5,6,10])),(6,1,.is (.c (.bool false))),(6,4,.is (.c (.bool false))),(8,2,.is (.c (.int .i64 (↑n:Int)))),(8,5,.sub false [] (V.gr (0:Nat) n (3:Nat)) (some [some { own:=true,cells:=qc (capL n s a n) }])),(9,1,.sub false [3] (V.dv true (dQ (covQ n s a n))) none),(2,99999,.mask (mask 86 0 [4,11,12,69,70])),(15,99998,.conv [(11,V.dv false [dQs l])])]) (sb:=[(0,.normal,prS x s a ((t:Nat):Int) m),(2,.normal,prR x s a l n (covQ n s a n) n)]) (keep:=[]) (by kernel_rfl) (hP (flatB_flat (m:=[]) rfl) (hF (qSign_k hx (by omega)) (hP (isB (show (decide (Int.sign (Rat.num x) < (0:Int)))=false from df)) (hF (qSign_k hs (by omega)) (hP (isB (show (decide (Int.sign (Rat.num s)≤(0:Int)))=false from df)) (hF (qSign_k ha (by omega)) (hP (isB (show (decide (Int.sign (Rat.num a)≤(0:Int)))=false from df)) (hP (isB (show (decide ((↑t:Int) < (0:Int)))=false from df)) (hP (isB (show (decide ((50:Int) < (↑t:Int)))=false from df)) (hP (show Flat [some { own:=true,cells:=[V.c (Value.bool (decide (Rat.num x < (0:Int)))),V.dv false [dW (lim (Int.natAbs (Rat.num x)))],V.dv false [dW (lim (Rat.den x))]] },some { own:=true,cells:=[V.c (Value.bool (decide (Rat.num s < (0:Int)))),V.dv false [dW (lim (Int.natAbs (Rat.num s)))],V.dv false [dW (lim (Rat.den s))]] },some { own:=true,cells:=[V.c (Value.bool (decide (Rat.num a < (0:Int)))),V.dv false [dW (lim (Int.natAbs (Rat.num a)))],V.dv false [dW (lim (Rat.den a))]] }] from (flf rfl (flf rfl (flf rfl trivial)))) (hP (hb0) (hP (isB (show (decide ((50:Int) < (↑m:Int)))=false from df)) (hP (isB (show (decide ((0:Int) < (↑t:Int)))=false from df)) (hP (show V.c (Value.int .i64 (if (↑t:Int) > (↑m:Int) then (↑t:Int) else (↑m:Int))) = .c (.int .i64 (↑n:Int)) from (mxR hNm)) (hF (caps_k hs ha (by omega) (by omega) hn hn1) (hP (And.intro (show Flat [] from trivial) (show Flat [some { own:=true,cells:=qc (capL n s a n) }] from (flf qc_fr trivial))) (hF (total_k hs ha hK hL hn) (hP (And.intro (show Flat [some { own:=true,cells:=qc (capL n s a n) }] from (flf qc_fr trivial)) (show Flat [some { own:=true,cells:=qc (capL n s a n) }] from (flf qc_fr trivial))) (hP (show Flat [some { own:=true,cells:=[V.c (Value.bool (decide (Rat.num x < (0:Int)))),V.dv false [dW (lim (Int.natAbs (Rat.num x)))],V.dv false [dW (lim (Rat.den x))]] },some { own:=true,cells:=[V.c (Value.bool (decide (Rat.num s < (0:Int)))),V.dv false [dW (lim (Int.natAbs (Rat.num s)))],V.dv false [dW (lim (Rat.den s))]] },some { own:=true,cells:=[V.c (Value.bool (decide (Rat.num a < (0:Int)))),V.dv false [dW (lim (Int.natAbs (Rat.num a)))],V.dv false [dW (lim (Rat.den a))]] },some { own:=true,cells:=qc (capL n s a n) },some { own:=true,cells:=[V.c (Value.bool (decide (Rat.num (covQ n s a n) < (0:Int)))),V.dv false [dW (lim (Int.natAbs (Rat.num (covQ n s a n))))],V.dv false [dW (lim (Rat.den (covQ n s a n)))]] }] from (flf rfl (flf rfl (flf rfl (flf qc_fr (flf rfl trivial)))))) (hP (hb2) (hP (show List.length l=n∧(Row.own { own:=true,cells:=qc l }=true∨n=(0:Nat)∧Row.cells { own:=true,cells:=qc l }=[])∧frz (Row.cells { own:=true,cells:=qc l }) (0:Nat) n (3:Nat) fun i k=>List.getD (dQ (List.getD l i (0:Rat))) k (D.v undef) from (⟨hl,.inl rfl,frz_qc hl.symm⟩)) hN)))))))))))))))))))))
theorem pf_f1 {x s a:Rat}{J K L n m t:Nat}{l:List Rat} (hx:Sz x J) (hs:Sz s K) (ha:Sz a L) (hJ:J≤5000000) (hK:K≤5000000) (hL:L≤5000000) (c1:0≤Int.sign (Rat.num x)) (c2:0 < Int.sign (Rat.num s)) (c3:0 < Int.sign (Rat.num a)) (ht:t≤50) (hm:m≤50) (hm1:1≤m) (hn:n≤50) (hn1:1≤n) (hNm:n=max m t) (hl:l.length=n) (hb0:TSpec Tryd.prog (.block 0 (.loop (loopOf Tryd.f17 0))) (prS x s a ((t:Nat):Int) 1) .normal (prS x s a ((t:Nat):Int) m)) (hb2:TSpec Tryd.prog (.block 2 (.loop (loopOf Tryd.f17 2))) (prR x s a (capL n s a n) n (covQ n s a n) 0) .normal (prR x s a l n (covQ n s a n) n)) (h0:0 < t) (h1:m≤t)  : FSpec Tryd.prog 17 [vQ x,vQ s,vQ a,.c (.int .i64 ((t:Nat):Int))] [] (V.tu [(false,[dQs l]),(false,[D.v (Value.int .i64 (0:Int))])]) []:=by
 exact fspec_ok Tryd.func17 (sc:=[(1,1,.data (.c (.int .i64 (Int.sign (Rat.num x))))),(1,2,.is (.c (.bool false))),(1,5,.data (.c (.int .i64 (Int.sign (Rat.num s))))),(1,6,.is (.c (.bool false))),(1,10,.data (.c (.int .i64 (Int.sign (Rat.num a))))),(1,11,.is (.c (.bool false))),(1,15,.is (.c (.bool false))),(1,19,.is (.c (.bool false))),(0,99999,.mask (mask 86 0 [3,4,5,6,10])),(6,1,.is (.c (.bool false))),(6,4,.is (.c (.bool true))),(6,8,.is (.c (.bool false))),(8,2,.is (.c (.int .i64 (↑n:Int)))),(8,5,.sub false [] (V.gr (0:Nat) n (3:Nat)) (some [some { own:=true,cells:=qc (capL n s a n) }])),(9,1,.sub false [3] (V.dv true (dQ (covQ n s a n))) none),(2,99999,.mask (mask 86 0 [4,11,12,69,70])),(15,99998,.conv [(11,V.dv false [dQs l])])]) (sb:=[(0,.normal,prS x s a ((t:Nat):Int) m),(2,.normal,prR x s a l n (covQ n s a n) n)]) (keep:=[]) (by kernel_rfl) (hP (flatB_flat (m:=[]) rfl) (hF (qSign_k hx (by omega)) (hP (isB (show (decide (Int.sign (Rat.num x) < (0:Int)))=false from df)) (hF (qSign_k hs (by omega)) (hP (isB (show (decide (Int.sign (Rat.num s)≤(0:Int)))=false from df)) (hF (qSign_k ha (by omega)) (hP (isB (show (decide (Int.sign (Rat.num a)≤(0:Int)))=false from df)) (hP (isB (show (decide ((↑t:Int) < (0:Int)))=false from df)) (hP (isB (show (decide ((50:Int) < (↑t:Int)))=false from df)) (hP (show Flat [some { own:=true,cells:=[V.c (Value.bool (decide (Rat.num x < (0:Int)))),V.dv false [dW (lim (Int.natAbs (Rat.num x)))],V.dv false [dW (lim (Rat.den x))]] },some { own:=true,cells:=[V.c (Value.bool (decide (Rat.num s < (0:Int)))),V.dv false [dW (lim (Int.natAbs (Rat.num s)))],V.dv false [dW (lim (Rat.den s))]] },some { own:=true,cells:=[V.c (Value.bool (decide (Rat.num a < (0:Int)))),V.dv false [dW (lim (Int.natAbs (Rat.num a)))],V.dv false [dW (lim (Rat.den a))]] }] from (flf rfl (flf rfl (flf rfl trivial)))) (hP (hb0) (hP (isB (show (decide ((50:Int) < (↑m:Int)))=false from df)) (hP (isB (show (decide ((0:Int) < (↑t:Int)))=true from dt)) (hP (isB (show (decide ((↑t:Int) < (↑m:Int)))=false from df)) (hP (show V.c (Value.int .i64 (if (↑t:Int) > (↑m:Int) then (↑t:Int) else (↑m:Int))) = .c (.int .i64 (↑n:Int)) from (mxR hNm)) (hF (caps_k hs ha (by omega) (by omega) hn hn1) (hP (And.intro (show Flat [] from trivial) (show Flat [some { own:=true,cells:=qc (capL n s a n) }] from (flf qc_fr trivial))) (hF (total_k hs ha hK hL hn) (hP (And.intro (show Flat [some { own:=true,cells:=qc (capL n s a n) }] from (flf qc_fr trivial)) (show Flat [some { own:=true,cells:=qc (capL n s a n) }] from (flf qc_fr trivial))) (hP (show Flat [some { own:=true,cells:=[V.c (Value.bool (decide (Rat.num x < (0:Int)))),V.dv false [dW (lim (Int.natAbs (Rat.num x)))],V.dv false [dW (lim (Rat.den x))]] },some { own:=true,cells:=[V.c (Value.bool (decide (Rat.num s < (0:Int)))),V.dv false [dW (lim (Int.natAbs (Rat.num s)))],V.dv false [dW (lim (Rat.den s))]] },some { own:=true,cells:=[V.c (Value.bool (decide (Rat.num a < (0:Int)))),V.dv false [dW (lim (Int.natAbs (Rat.num a)))],V.dv false [dW (lim (Rat.den a))]] },some { own:=true,cells:=qc (capL n s a n) },some { own:=true,cells:=[V.c (Value.bool (decide (Rat.num (covQ n s a n) < (0:Int)))),V.dv false [dW (lim (Int.natAbs (Rat.num (covQ n s a n))))],V.dv false [dW (lim (Rat.den (covQ n s a n)))]] }] from (flf rfl (flf rfl (flf rfl (flf qc_fr (flf rfl trivial)))))) (hP (hb2) (hP (show List.length l=n∧(Row.own { own:=true,cells:=qc l }=true∨n=(0:Nat)∧Row.cells { own:=true,cells:=qc l }=[])∧frz (Row.cells { own:=true,cells:=qc l }) (0:Nat) n (3:Nat) fun i k=>List.getD (dQ (List.getD l i (0:Rat))) k (D.v undef) from (⟨hl,.inl rfl,frz_qc hl.symm⟩)) hN))))))))))))))))))))))
theorem bk_a {l r:List Rat}{K i:Nat} (hx:Sz (l.getD i 0) K) (hK:K≤1000000000) (hi:i < l.length) (hl:l.length≤1000000) (hr:r.length≤1000000)  : TSpecN Tryd.prog 0 (loopOf Tryd.f10 0) (bkS l r i) (.normal) (bkT l r (l.getD i 0) (i+1)):=by
 exact tspecN_ren (mask 19 0 [3,6,7,8]) 0 [3] (sc:=[(3,0,.is (.c (.bool true))),(5,2,.data (.c (Rv (List.getD l i (0:Rat))))),(5,4,.app),(6,0,.is (.c (.int .i64 ((↑i:Int)+(1:Int)))))]) (sb:=[]) (by kernel_rfl) (hP (isB (show (decide ((↑i:Int) < (↑(List.length l):Int)))=true from dt)) (hP (show (0:Int)≤(↑i:Int)∧(↑i:Int) < (↑(List.length l):Int) by omega) (hF (qTo_k hx hK) (hP ((apR (l:=r) (x:=l.getD i 0))) (hP (show List.length r+(1:Nat)≤(9223372036854775807:Nat)∧(List.length r+(1:Nat))*(40:Nat)≤(140737488355328:Nat) by omega) (hP (wrI (e:=(↑i:Int)+(1:Int)) (by omega)) hN)))))) (flk (flap rcs_f rfl) trivial)
theorem bk_b {l r:List Rat}   : TSpecN Tryd.prog 0 (loopOf Tryd.f10 0) (bkS l r l.length) (.exit 0) (bkS l r l.length):=by
 exact tspecN_ren (mask 19 0 [3,6,7,8]) 0 [0] (sc:=[(3,0,.is (.c (.bool false)))]) (sb:=[]) (by kernel_rfl) (hP (isB (show (decide ((↑(List.length l):Int) < (↑(List.length l):Int)))=false from df)) hN) (flk rcs_f trivial)
theorem bk_f {l r:List Rat} (hl:l.length≤1000000) (hb:TSpecN Tryd.prog 0 (.block 0 (.loop (loopOf Tryd.f10 0))) (bkS l [] 0) .normal (bkS l r l.length))  : FSpec Tryd.prog 10 [.dv false [dQs l]] [] (V.dv false [dRs r]) []:=by
 exact fspec_ok Tryd.func10 (sc:=[(2,99998,.conv [(3,V.gr (0:Nat) (0:Nat) (3:Nat))]),(0,99999,.maskN (mask 19 0 [3,6,7,8])),(7,99998,.conv [(3,V.dv false [dRs r])])]) (sb:=[(0,.normal,bkS l r l.length)]) (keep:=[]) (by kernel_rfl) (hP (flatB_flat (m:=[]) rfl) (hP (show Flat [some ⟨Bool.false,nv []⟩] from (flk rfl trivial)) (hP (hb) (hP (show List.length r=List.length r∧(Row.own { own:=!List.isEmpty r,cells:=rcs r }=true∨List.length r=(0:Nat)∧Row.cells { own:=!List.isEmpty r,cells:=rcs r }=[])∧frz (Row.cells { own:=!List.isEmpty r,cells:=rcs r }) (0:Nat) (List.length r) (3:Nat) fun i k=>List.getD (dR (List.getD r i (0:Rat))) k (D.v undef) from (⟨rfl,emp_own2,frz_rcs rfl⟩)) hN))))
def cvS (n1:Bool) (a1 b1:ByteArray) (n2:Bool) (a2 b2:ByteArray) (n:Nat) (z:Rat) (k:Nat):St:=⟨slots 29 0 [(0,.c (.int .i64 (((n:Nat):Int)))),(4,.p 0 0),(5,.p 1 0),(6,.p 2 0),(7,.p 3 0),(8,.c (.int .i64 (((k:Nat):Int))))],[some ⟨true,[.c (.bool n1),.c (.string a1),.c (.string b1)]⟩,some ⟨true,[.c (.bool n2),.c (.string a2),.c (.string b2)]⟩,some ⟨true,[.c (.bool false),.c (.string ⟨#[]⟩),.c (.string ⟨#[]⟩)]⟩,some ⟨true,[.c (.bool (decide (z.num < 0))),.c (.string (M.B z.num.natAbs)),.c (.string (M.B z.den))]⟩]⟩
theorem cv_a {n2 n3:Bool}{a2 b2 a3 b3:ByteArray}{s a z:Rat}{K L J n k:Nat} (h2':IsR n2 a2 b2 s K) (h3':IsR n3 a3 b3 a L) (hK:K≤100000000) (hL:L≤100000000) (hz:Sz z J) (hJ:J≤10000000000) (hk:k≤n) (hk1:1≤k) (hn:n≤50) (hm:mk n k≤50) (h0:(-9223372036854775808:Int)≤(↑(mk n k):Int)) (h1:(↑(mk n k):Int)≤(9223372036854775807:Int)):TSpec Tryd.prog (loopOf Tryd.f39 0) (cvS n2 a2 b2 n3 a3 b3 n z k) (.normal) (cvS n2 a2 b2 n3 a3 b3 n (z+mn s (a*(((mk n k:Nat):Int):Rat))) (k+1)):=by
 have s2:=(int_s (n:=(↑(mk n k):Int)) (by omega))
 have s3:=(isR_s s2)
 have s4:=(mul_s (szr h3') s2)
 have s5:=(isR_s s4)
 have s6:=(isR_s hz)
 have s7:=(mn_s (szr h2') s4)
 have s8:=(isR_s s7)
 exact tspec_dim (mask 29 0 [0,4,5,6,7,8]) 4 (sc:=[(3,2,.is (.c (.bool true))),(5,5,.is (.c (.int .i64 ((↑n:Int)+(1:Int))))),(5,7,.is (.c (.int .i64 ((↑n:Int)+(1:Int) - (↑k:Int))))),(5,8,.is (.c (.int .i64 ((↑(mk n k):Int))))),(5,9,.fix (Rv ((↑(↑(mk n k):Int):Rat)))),(5,10,.fix (Rv (a*(↑(↑(mk n k):Int):Rat)))),(5,11,.fix (Rv (mn s (a*(↑(↑(mk n k):Int):Rat))))),(5,12,.fix (Rv (z+mn s (a*(↑(↑(mk n k):Int):Rat))))),(4,1,.is (.c (.int .i64 ((↑k:Int)+(1:Int)))))]) (sb:=[]) (by kernel_rfl) (hP (isB (show (decide ((↑k:Int)≤(↑n:Int)))=true from dt)) (hP (wrI (e:=(↑n:Int)+(1:Int)) (by omega)) (hP (wrI (e:=(↑n:Int)+(1:Int) - (↑k:Int)) (by omega)) (hP (show V.c (Value.int .i64 (if (↑n:Int)+(1:Int) - (↑k:Int) < (↑k:Int) then (↑n:Int)+(1:Int) - (↑k:Int) else (↑k:Int))) = .c (.int .i64 ((↑(mk n k):Int))) from (mkT hk)) (hC (of_k h0 h1) (hC (mul_k h3' s3 (by omega)) (hC (min_k h2' s5 (by omega)) (hC (add_k s6 s8 (by omega)) (hP (wrI (e:=(↑k:Int)+(1:Int)) (by omega)) hN))))))))) (flatB_flat rfl)
theorem cv_b {n2 n3:Bool}{a2 b2 a3 b3:ByteArray}{z:Rat}{n:Nat}  (hn:n≤50)  : TSpec Tryd.prog (loopOf Tryd.f39 0) (cvS n2 a2 b2 n3 a3 b3 n z (n+1)) (.exit 0) (cvS n2 a2 b2 n3 a3 b3 n z (n+1)):=by
 exact tspec_dim (mask 29 0 [0,4,5,6,7,8]) 4 (sc:=[(3,2,.is (.c (.bool false)))]) (sb:=[]) (by kernel_rfl) (hP (isB (show (decide ((↑(n+(1:Nat)):Int)≤(↑n:Int)))=false from df)) hN) (flatB_flat rfl)
theorem cv_f {n2 n3:Bool}{a2 b2 a3 b3:ByteArray}{s a z:Rat}{K L n:Nat} (h2':IsR n2 a2 b2 s K) (h3':IsR n3 a3 b3 a L) (hK:K≤100000000) (hL:L≤100000000) (hn:n≤50) (hb:TSpec Tryd.prog (.block 0 (.loop (loopOf Tryd.f39 0))) (cvS n2 a2 b2 n3 a3 b3 n 0 1) .normal (cvS n2 a2 b2 n3 a3 b3 n z (n+1)))  : CSpec Tryd.prog 39 #[(.int .i64 (((n:Nat):Int))),(rv n2 a2 b2),(rv n3 a3 b3)] (Rv z):=by
 exact fn_ok Tryd.func39 (sc:=[(1,0,.fix (Rv ((↑(0:Int):Rat)))),(0,99999,.mask (mask 29 0 [0,4,5,6,7,8]))]) (sb:=[(0,.normal,cvS n2 a2 b2 n3 a3 b3 n z (n+1))]) (by kernel_rfl) (hC (of_k (n:=(0:Int)) (by decide +kernel) (by decide +kernel)) (hP (show Flat [some ⟨Bool.true,nv [[.bool n2],[.string a2],[.string b2]]⟩,some ⟨Bool.true,nv [[.bool n3],[.string a3],[.string b3]]⟩,some ⟨Bool.true,nv [[.bool false],[.string ({ data:=#[] })],[.string ({ data:=#[] })]]⟩,some ⟨Bool.true,nv [rc ((↑(0:Int):Rat))]⟩] from (flk rfl (flk rfl (flk rfl (flk rfl trivial))))) (hP (hb) hN)))
theorem cv_rounds {n2 n3:Bool} {a2 b2 a3 b3:ByteArray} {s a:Rat} {K L n:Nat} (h2:IsR n2 a2 b2 s K) (h3:IsR n3 a3 b3 a L) (hK:K≤10000000) (hL:L≤10000000) (hn:n≤50):∀ d k:Nat,k+d=n→Rounds Tryd.prog (loopOf Tryd.f39 0) 0 (cvS n2 a2 b2 n3 a3 b3 n (covQ n s a k) (k+1)) .normal (cvS n2 a2 b2 n3 a3 b3 n (covQ n s a n) (n+1))
 | 0,k,hk=>by
   obtain rfl:k=n:=by omega
   exact .stop (cv_b hn)
 | d + 1, k, hk => .step (by
     have hm:mk n (k+1)≤50:=by have:=mk_le (n:=n) (k:=k+1); omega
     have hz:=covQ_sz h2.sz h3.sz hn k (by omega)
     have hb:k*(K+L+9)≤50*(K+L+9):=Nat.mul_le_mul_right _ (by omega)
     exact cv_a h2 h3 (by omega) (by omega) hz (by omega) (by omega) (by omega) hn hm (by omega) (by omega)) (cv_rounds h2 h3 hK hL hn d (k+1) (by omega))
theorem cover_k {n2 n3:Bool} {a2 b2 a3 b3:ByteArray} {s a:Rat} {K L n:Nat} (h2:IsR n2 a2 b2 s K) (h3:IsR n3 a3 b3 a L) (hK:K≤10000000) (hL:L≤10000000) (hn:n≤50):CSpec Tryd.prog 39 #[.int .i64 ((n:Nat):Int),rv n2 a2 b2,rv n3 a3 b3] (Rv (covQ n s a n)) :=
 cv_f h2 h3 (by omega) (by omega) hn (cv_rounds h2 h3 hK hL hn n 0 (by omega)).spec
def ndS (n1:Bool) (a1 b1:ByteArray) (n2:Bool) (a2 b2:ByteArray) (n3:Bool) (a3 b3:ByteArray) (r:Int) (k:Nat):St:=⟨slots 20 0 [(3,.p 0 0),(4,.p 1 0),(5,.p 2 0),(6,.c (.int .i64 r)),(7,.c (.int .i64 (((k:Nat):Int))))],[some ⟨true,[.c (.bool n1),.c (.string a1),.c (.string b1)]⟩,some ⟨true,[.c (.bool n2),.c (.string a2),.c (.string b2)]⟩,some ⟨true,[.c (.bool n3),.c (.string a3),.c (.string b3)]⟩]⟩
theorem nd_a {n1 n2 n3:Bool}{a1 b1 a2 b2 a3 b3:ByteArray}{x s a:Rat}{K L J H k:Nat} (h1':IsR n1 a1 b1 x J) (h2':IsR n2 a2 b2 s K) (h3':IsR n3 a3 b3 a L) (hK:K≤10000000) (hL:L≤10000000) (hJ:J≤10000000) (hk:k≤50) (hz:Sz (covQ k s a k) H) (hH:H≤10000000000) (hc:cmpR (covQ k s a k) x < 0)  : TSpec Tryd.prog (loopOf Tryd.f37 0) (ndS n1 a1 b1 n2 a2 b2 n3 a3 b3 0 k) (.normal) (ndS n1 a1 b1 n2 a2 b2 n3 a3 b3 0 (k+1)):=by
 have s0:=(isR_s hz)
 exact tspec_dim (mask 20 0 [3,4,5,6,7]) 3 (sc:=[(2,1,.is (.c (.bool true))),(4,3,.fix (Rv (covQ k s a k))),(4,5,.fix (.int .i64 (cmpR (covQ k s a k) x))),(4,6,.is (.c (.bool false))),(3,1,.is (.c (.int .i64 ((↑k:Int)+(1:Int)))))]) (sb:=[]) (by kernel_rfl) (hP (isB (show (decide ((↑k:Int)≤(50:Int)))=true from dt)) (hC (cover_k h2' h3' hK hL hk) (hC (cmp_k s0 h1' (by omega)) (hP (isB (show (decide ((0:Int)≤cmpR (covQ k s a k) x))=false from df)) (hP (wrI (e:=(↑k:Int)+(1:Int)) (by omega)) hN))))) (flatB_flat rfl)
theorem nd_b {n1 n2 n3:Bool}{a1 b1 a2 b2 a3 b3:ByteArray}{x s a:Rat}{K L J H k:Nat} (h1':IsR n1 a1 b1 x J) (h2':IsR n2 a2 b2 s K) (h3':IsR n3 a3 b3 a L) (hK:K≤10000000) (hL:L≤10000000) (hJ:J≤10000000) (hk:k≤50) (hz:Sz (covQ k s a k) H) (hH:H≤10000000000) (hc:0≤cmpR (covQ k s a k) x)  : TSpec Tryd.prog (loopOf Tryd.f37 0) (ndS n1 a1 b1 n2 a2 b2 n3 a3 b3 0 k) (.ret) (ndS n1 a1 b1 n2 a2 b2 n3 a3 b3 (k:Int) k):=by
 have s0:=(isR_s hz)
 exact tspec_dim (mask 20 0 [3,4,5,6,7]) 3 (sc:=[(2,1,.is (.c (.bool true))),(4,3,.fix (Rv (covQ k s a k))),(4,5,.fix (.int .i64 (cmpR (covQ k s a k) x))),(4,6,.is (.c (.bool true)))]) (sb:=[]) (by kernel_rfl) (hP (isB (show (decide ((↑k:Int)≤(50:Int)))=true from dt)) (hC (cover_k h2' h3' hK hL hk) (hC (cmp_k s0 h1' (by omega)) (hP (isB (show (decide ((0:Int)≤cmpR (covQ k s a k) x))=true from dt)) hN)))) (flatB_flat rfl)
theorem nd_c {n1 n2 n3:Bool}{a1 b1 a2 b2 a3 b3:ByteArray}{n:Nat} (hn:n≤50)  : TSpec Tryd.prog (loopOf Tryd.f37 0) (ndS n1 a1 b1 n2 a2 b2 n3 a3 b3 0 51) (.exit 0) (ndS n1 a1 b1 n2 a2 b2 n3 a3 b3 0 51):=by
 exact tspec_dim (mask 20 0 [3,4,5,6,7]) 3 (sc:=[]) (sb:=[]) (by kernel_rfl) hN (flatB_flat rfl)
theorem nd_f {n1 n2 n3:Bool}{a1 b1 a2 b2 a3 b3:ByteArray} (hb:TSpec Tryd.prog (.block 0 (.loop (loopOf Tryd.f37 0))) (ndS n1 a1 b1 n2 a2 b2 n3 a3 b3 0 1) .normal (ndS n1 a1 b1 n2 a2 b2 n3 a3 b3 0 51))  : CSpec Tryd.prog 37 #[(rv n1 a1 b1),(rv n2 a2 b2),(rv n3 a3 b3)] (.int .i64 (-1:Int)):=by
 exact fn_ok Tryd.func37 (sc:=[(0,99999,.mask (mask 20 0 [3,4,5,6,7]))]) (sb:=[(0,.normal,ndS n1 a1 b1 n2 a2 b2 n3 a3 b3 0 51)]) (by kernel_rfl) (hP (show Flat [some ⟨Bool.true,nv [[.bool n1],[.string a1],[.string b1]]⟩,some ⟨Bool.true,nv [[.bool n2],[.string a2],[.string b2]]⟩,some ⟨Bool.true,nv [[.bool n3],[.string a3],[.string b3]]⟩] from (flk rfl (flk rfl (flk rfl trivial)))) (hP (hb) hN))
theorem nd_g {n1 n2 n3:Bool}{a1 b1 a2 b2 a3 b3:ByteArray}{k:Nat} (hb:TSpec Tryd.prog (.block 0 (.loop (loopOf Tryd.f37 0))) (ndS n1 a1 b1 n2 a2 b2 n3 a3 b3 0 1) .ret (ndS n1 a1 b1 n2 a2 b2 n3 a3 b3 (k:Int) k))  : CSpec Tryd.prog 37 #[(rv n1 a1 b1),(rv n2 a2 b2),(rv n3 a3 b3)] (.int .i64 (↑k:Int)):=by
 exact fn_ok Tryd.func37 (sc:=[(0,99999,.mask (mask 20 0 [3,4,5,6,7]))]) (sb:=[(0,.ret,ndS n1 a1 b1 n2 a2 b2 n3 a3 b3 (k:Int) k)]) (by kernel_rfl) (hP (show Flat [some ⟨Bool.true,nv [[.bool n1],[.string a1],[.string b1]]⟩,some ⟨Bool.true,nv [[.bool n2],[.string a2],[.string b2]]⟩,some ⟨Bool.true,nv [[.bool n3],[.string a3],[.string b3]]⟩] from (flk rfl (flk rfl (flk rfl trivial)))) (hP (hb) hN))
end Go.Proofs.YtmkgijiniopalaaDoor.G
end
section
namespace Go.Proofs.YtmkgijiniopalaaDoor.G
open Go.Proofs.YtmkgijiniopalaaDoor.U Go.RowKit
section
variable {n1 n2 n3:Bool} {a1 b1 a2 b2 a3 b3:ByteArray} {x s a:Rat} {J K L:Nat}
theorem nd_good (h1:IsR n1 a1 b1 x J) (h2:IsR n2 a2 b2 s K) (h3:IsR n3 a3 b3 a L) (hK:K≤10000000) (hL:L≤10000000) (hJ:J≤10000000) {k:Nat} (hk:k≤50) (hc:covQ k s a k < x):TSpec Tryd.prog (loopOf Tryd.f37 0) (ndS n1 a1 b1 n2 a2 b2 n3 a3 b3 0 k) .normal (ndS n1 a1 b1 n2 a2 b2 n3 a3 b3 0 (k+1)):=by
 have hz:=covQ_sz h2.sz h3.sz hk k (Nat.le_refl _)
 have hb:k*(K+L+9)≤50*(K+L+9):=Nat.mul_le_mul_right _ hk
 exact nd_a h1 h2 h3 hK hL hJ hk hz (by omega) (cmpR_lt.2 hc)
theorem need_f (h1:IsR n1 a1 b1 x J) (h2:IsR n2 a2 b2 s K) (h3:IsR n3 a3 b3 a L) (hK:K≤10000000) (hL:L≤10000000) (hJ:J≤10000000) (hc:∀ j,1≤j→j≤50→covQ j s a j < x):CSpec Tryd.prog 37 #[rv n1 a1 b1,rv n2 a2 b2,rv n3 a3 b3] (.int .i64 (-1)):=by
 have:∀ d k:Nat,k+d=51→1≤k→Rounds Tryd.prog (loopOf Tryd.f37 0) 0 (ndS n1 a1 b1 n2 a2 b2 n3 a3 b3 0 k) .normal (ndS n1 a1 b1 n2 a2 b2 n3 a3 b3 0 51):=by
  intro d
  induction d with
  | zero => intro k hk _; obtain rfl : k = 51 := by omega
            exact .stop (nd_c (n:=0) (by decide))
  | succ d ih=>intro k hk h; exact .step (nd_good h1 h2 h3 hK hL hJ (by omega) (hc k h (by omega))) (ih (k+1) (by omega) (by omega))
 exact nd_f (this 50 1 rfl (Nat.le_refl _)).spec
theorem need_t (h1:IsR n1 a1 b1 x J) (h2:IsR n2 a2 b2 s K) (h3:IsR n3 a3 b3 a L) (hK:K≤10000000) (hL:L≤10000000) (hJ:J≤10000000) {m:Nat} (hm:1≤m) (hm2:m≤50) (hp:x≤covQ m s a m) (hc:∀ j,1≤j→j < m→covQ j s a j < x):CSpec Tryd.prog 37 #[rv n1 a1 b1,rv n2 a2 b2,rv n3 a3 b3] (.int .i64 ((m:Nat):Int)):=by
 have hz:=covQ_sz h2.sz h3.sz hm2 m (Nat.le_refl _)
 have hb:m*(K+L+9)≤50*(K+L+9):=Nat.mul_le_mul_right _ hm2
 have:∀ d k:Nat,k+d=m→1≤k→Rounds Tryd.prog (loopOf Tryd.f37 0) 0 (ndS n1 a1 b1 n2 a2 b2 n3 a3 b3 0 k) .ret (ndS n1 a1 b1 n2 a2 b2 n3 a3 b3 (m:Int) m):=by
  intro d
  induction d with
  | zero => intro k hk _; obtain rfl : k = m := by omega
            exact .ret (nd_b h1 h2 h3 hK hL hJ hm2 hz (by omega) (cmpR_ge.2 hp))
  | succ d ih=>intro k hk h; exact .step (nd_good h1 h2 h3 hK hL hJ (by omega) (hc k h (by omega))) (ih (k+1) (by omega) (by omega))
 exact nd_g (this (m - 1) 1 (by omega) (Nat.le_refl _)).spec
end
end Go.Proofs.YtmkgijiniopalaaDoor.G
end
section
namespace Go.Proofs.YtmkgijiniopalaaDoor.G
open Go.Proofs.YtmkgijiniopalaaDoor.U Go.RowKit
def tpS (n1:Bool) (a1 b1:ByteArray) (n2:Bool) (a2 b2:ByteArray) (n3:Bool) (a3 b3:ByteArray) (n:Nat) (sc:Rat) (l:List Rat) (k:Nat):St:=⟨slots 85 0 [(5,.p 1 0),(6,.p 2 0),(10,.c (.int .i64 (((n:Nat):Int)))),(11,.p 3 0),(13,.gr 4 l.length 3),(14,.c (.int .i64 (((k:Nat):Int))))],[some ⟨true,[.c (.bool n1),.c (.string a1),.c (.string b1)]⟩,some ⟨true,[.c (.bool n2),.c (.string a2),.c (.string b2)]⟩,some ⟨true,[.c (.bool n3),.c (.string a3),.c (.string b3)]⟩,some ⟨true,[.c (.bool (decide (sc.num < 0))),.c (.string (M.B sc.num.natAbs)),.c (.string (M.B sc.den))]⟩,some ⟨!l.isEmpty,rcs l⟩]⟩
def tpT (n1:Bool) (a1 b1:ByteArray) (n2:Bool) (a2 b2:ByteArray) (n3:Bool) (a3 b3:ByteArray) (n:Nat) (sc:Rat) (l:List Rat) (y:Rat) (k:Nat):St:=⟨slots 85 0 [(5,.p 1 0),(6,.p 2 0),(10,.c (.int .i64 (((n:Nat):Int)))),(11,.p 3 0),(13,.gr 4 (l.length+1) 3),(14,.c (.int .i64 (((k:Nat):Int))))],[some ⟨true,[.c (.bool n1),.c (.string a1),.c (.string b1)]⟩,some ⟨true,[.c (.bool n2),.c (.string a2),.c (.string b2)]⟩,some ⟨true,[.c (.bool n3),.c (.string a3),.c (.string b3)]⟩,some ⟨true,[.c (.bool (decide (sc.num < 0))),.c (.string (M.B sc.num.natAbs)),.c (.string (M.B sc.den))]⟩,some ⟨true,rcs l++rcl y⟩]⟩
theorem mxT {m t n:Nat} (h:n=max m t):V.c (.int .i64 (if (m:Int) < (t:Int) then (t:Int) else (m:Int)))=V.c (.int .i64 ((n:Nat):Int)):=by
 subst h
 congr 2
 split<;>omega
theorem emp_own4 {l:List Rat}:(!l.isEmpty)=true∨(l.length=0∧rcs l=[]):=by cases l<;>simp [rcs]
theorem tp_a {n1 n2 n3:Bool}{a1 b1 a2 b2 a3 b3:ByteArray}{x s a sc:Rat}{J K L H n k:Nat}{l:List Rat} (h1':IsR n1 a1 b1 x J) (h2':IsR n2 a2 b2 s K) (h3':IsR n3 a3 b3 a L) (hK:K≤10000000) (hL:L≤10000000) (hJ:J≤10000000) (hz:Sz sc H) (hH:H≤1000000000) (hk:k≤n) (hk1:1≤k) (hn:n≤50) (hm:mk n k≤50) (hl:l.length≤50) (h0:(-9223372036854775808:Int)≤(↑(mk n k):Int)) (h1:(↑(mk n k):Int)≤(9223372036854775807:Int)):TSpecN Tryd.prog 4 (loopOf Tryd.f16 0) (tpS n1 a1 b1 n2 a2 b2 n3 a3 b3 n sc l k) (.normal) (tpT n1 a1 b1 n2 a2 b2 n3 a3 b3 n sc l (sc*mn s (a*(((mk n k:Nat):Int):Rat))) (k+1)):=by
 have s2:=(int_s (n:=(↑(mk n k):Int)) (by omega))
 have s3:=(isR_s s2)
 have s4:=(mul_s (szr h3') s2)
 have s5:=(isR_s s4)
 have s6:=(isR_s hz)
 have s7:=(mn_s (szr h2') s4)
 have s8:=(isR_s s7)
 exact tspecN_ren (mask 85 0 [5,6,10,11,13,14]) 4 [6] (sc:=[(10,2,.is (.c (.bool true))),(12,6,.is (.c (.int .i64 ((↑n:Int)+(1:Int))))),(12,8,.is (.c (.int .i64 ((↑n:Int)+(1:Int) - (↑k:Int))))),(12,9,.is (.c (.int .i64 ((↑(mk n k):Int))))),(12,10,.fix (Rv ((↑(↑(mk n k):Int):Rat)))),(12,11,.fix (Rv (a*(↑(↑(mk n k):Int):Rat)))),(12,12,.fix (Rv (mn s (a*(↑(↑(mk n k):Int):Rat))))),(12,13,.fix (Rv (sc*mn s (a*(↑(↑(mk n k):Int):Rat))))),(12,15,.app),(11,1,.is (.c (.int .i64 ((↑k:Int)+(1:Int)))))]) (sb:=[]) (by kernel_rfl) (hP (isB (show (decide ((↑k:Int)≤(↑n:Int)))=true from dt)) (hP (wrI (e:=(↑n:Int)+(1:Int)) (by omega)) (hP (wrI (e:=(↑n:Int)+(1:Int) - (↑k:Int)) (by omega)) (hP (show V.c (Value.int .i64 (if (↑n:Int)+(1:Int) - (↑k:Int) < (↑k:Int) then (↑n:Int)+(1:Int) - (↑k:Int) else (↑k:Int))) = .c (.int .i64 ((↑(mk n k):Int))) from (mkT hk)) (hC (of_k h0 h1) (hC (mul_k h3' s3 (by omega)) (hC (min_k h2' s5 (by omega)) (hC (mul_k s6 s8 (by omega)) (hP ((apR (l:=l) (x:=sc*mn s (a*(((mk n k:Nat):Int):Rat))))) (hP (show List.length l+(1:Nat)≤(9223372036854775807:Nat)∧(List.length l+(1:Nat))*(40:Nat)≤(140737488355328:Nat) by omega) (hP (wrI (e:=(↑k:Int)+(1:Int)) (by omega)) hN))))))))))) (flk rfl (flk rfl (flk rfl (flk rfl (flk (flap rcs_f rfl) trivial)))))
theorem tp_b {n1 n2 n3:Bool}{a1 b1 a2 b2 a3 b3:ByteArray}{sc:Rat}{n:Nat}{l:List Rat} (hn:n≤50)  : TSpecN Tryd.prog 4 (loopOf Tryd.f16 0) (tpS n1 a1 b1 n2 a2 b2 n3 a3 b3 n sc l (n+1)) (.exit 0) (tpS n1 a1 b1 n2 a2 b2 n3 a3 b3 n sc l (n+1)):=by
 exact tspecN_ren (mask 85 0 [5,6,10,11,13,14]) 4 [4] (sc:=[(10,2,.is (.c (.bool false)))]) (sb:=[]) (by kernel_rfl) (hP (isB (show (decide ((↑(n+(1:Nat)):Int)≤(↑n:Int)))=false from df)) hN) (flk rfl (flk rfl (flk rfl (flk rfl (flk rcs_f trivial)))))
theorem tp_e1 {n1 n2 n3:Bool}{a1 b1 a2 b2 a3 b3:ByteArray}{x s a:Rat}{J K L:Nat}{T:Int} (h1':IsR n1 a1 b1 x J) (h2':IsR n2 a2 b2 s K) (h3':IsR n3 a3 b3 a L) (hK:K≤10000000) (hL:L≤10000000) (hJ:J≤10000000) (c:Int.sign (Rat.num x) < 0)  : CSpec Tryd.prog 16 #[(rv n1 a1 b1),(rv n2 a2 b2),(rv n3 a3 b3),(.int .i64 T)] (.tuple #[Value.slice none (0:Nat) (0:Nat),.int .i64 (1:Int)]):=by
 exact fn_ok Tryd.func16 (sc:=[(1,1,.fix (.int .i64 (Int.sign (Rat.num x)))),(1,2,.is (.c (.bool true)))]) (sb:=[]) (by kernel_rfl) (hC (sign_k h1' (by omega)) (hP (isB (show (decide (Int.sign (Rat.num x) < (0:Int)))=true from dt)) hN))
theorem tp_e2 {n1 n2 n3:Bool}{a1 b1 a2 b2 a3 b3:ByteArray}{x s a:Rat}{J K L:Nat}{T:Int} (h1':IsR n1 a1 b1 x J) (h2':IsR n2 a2 b2 s K) (h3':IsR n3 a3 b3 a L) (hK:K≤10000000) (hL:L≤10000000) (hJ:J≤10000000) (c1:0≤Int.sign (Rat.num x)) (c:Int.sign (Rat.num s)≤0)  : CSpec Tryd.prog 16 #[(rv n1 a1 b1),(rv n2 a2 b2),(rv n3 a3 b3),(.int .i64 T)] (.tuple #[Value.slice none (0:Nat) (0:Nat),.int .i64 (1:Int)]):=by
 exact fn_ok Tryd.func16 (sc:=[(1,1,.fix (.int .i64 (Int.sign (Rat.num x)))),(1,2,.is (.c (.bool false))),(1,5,.fix (.int .i64 (Int.sign (Rat.num s)))),(1,6,.is (.c (.bool true)))]) (sb:=[]) (by kernel_rfl) (hC (sign_k h1' (by omega)) (hP (isB (show (decide (Int.sign (Rat.num x) < (0:Int)))=false from df)) (hC (sign_k h2' (by omega)) (hP (isB (show (decide (Int.sign (Rat.num s)≤(0:Int)))=true from dt)) hN))))
theorem tp_e3 {n1 n2 n3:Bool}{a1 b1 a2 b2 a3 b3:ByteArray}{x s a:Rat}{J K L:Nat}{T:Int} (h1':IsR n1 a1 b1 x J) (h2':IsR n2 a2 b2 s K) (h3':IsR n3 a3 b3 a L) (hK:K≤10000000) (hL:L≤10000000) (hJ:J≤10000000) (c1:0≤Int.sign (Rat.num x)) (c2:0 < Int.sign (Rat.num s)) (c:Int.sign (Rat.num a)≤0)  : CSpec Tryd.prog 16 #[(rv n1 a1 b1),(rv n2 a2 b2),(rv n3 a3 b3),(.int .i64 T)] (.tuple #[Value.slice none (0:Nat) (0:Nat),.int .i64 (1:Int)]):=by
 exact fn_ok Tryd.func16 (sc:=[(1,1,.fix (.int .i64 (Int.sign (Rat.num x)))),(1,2,.is (.c (.bool false))),(1,5,.fix (.int .i64 (Int.sign (Rat.num s)))),(1,6,.is (.c (.bool false))),(1,10,.fix (.int .i64 (Int.sign (Rat.num a)))),(1,11,.is (.c (.bool true)))]) (sb:=[]) (by kernel_rfl) (hC (sign_k h1' (by omega)) (hP (isB (show (decide (Int.sign (Rat.num x) < (0:Int)))=false from df)) (hC (sign_k h2' (by omega)) (hP (isB (show (decide (Int.sign (Rat.num s)≤(0:Int)))=false from df)) (hC (sign_k h3' (by omega)) (hP (isB (show (decide (Int.sign (Rat.num a)≤(0:Int)))=true from dt)) hN))))))
theorem tp_e4 {n1 n2 n3:Bool}{a1 b1 a2 b2 a3 b3:ByteArray}{x s a:Rat}{J K L:Nat}{T:Int} (h1':IsR n1 a1 b1 x J) (h2':IsR n2 a2 b2 s K) (h3':IsR n3 a3 b3 a L) (hK:K≤10000000) (hL:L≤10000000) (hJ:J≤10000000) (c1:0≤Int.sign (Rat.num x)) (c2:0 < Int.sign (Rat.num s)) (c3:0 < Int.sign (Rat.num a)) (c:T < 0)  : CSpec Tryd.prog 16 #[(rv n1 a1 b1),(rv n2 a2 b2),(rv n3 a3 b3),(.int .i64 T)] (.tuple #[Value.slice none (0:Nat) (0:Nat),.int .i64 (1:Int)]):=by
 exact fn_ok Tryd.func16 (sc:=[(1,1,.fix (.int .i64 (Int.sign (Rat.num x)))),(1,2,.is (.c (.bool false))),(1,5,.fix (.int .i64 (Int.sign (Rat.num s)))),(1,6,.is (.c (.bool false))),(1,10,.fix (.int .i64 (Int.sign (Rat.num a)))),(1,11,.is (.c (.bool false))),(1,15,.is (.c (.bool true)))]) (sb:=[]) (by kernel_rfl) (hC (sign_k h1' (by omega)) (hP (isB (show (decide (Int.sign (Rat.num x) < (0:Int)))=false from df)) (hC (sign_k h2' (by omega)) (hP (isB (show (decide (Int.sign (Rat.num s)≤(0:Int)))=false from df)) (hC (sign_k h3' (by omega)) (hP (isB (show (decide (Int.sign (Rat.num a)≤(0:Int)))=false from df)) (hP (isB (show (decide (T < (0:Int)))=true from dt)) hN)))))))
theorem tp_e5 {n1 n2 n3:Bool}{a1 b1 a2 b2 a3 b3:ByteArray}{x s a:Rat}{J K L:Nat}{T:Int} (h1':IsR n1 a1 b1 x J) (h2':IsR n2 a2 b2 s K) (h3':IsR n3 a3 b3 a L) (hK:K≤10000000) (hL:L≤10000000) (hJ:J≤10000000) (c1:0≤Int.sign (Rat.num x)) (c2:0 < Int.sign (Rat.num s)) (c3:0 < Int.sign (Rat.num a)) (c4:0≤T) (c:50 < T)  : CSpec Tryd.prog 16 #[(rv n1 a1 b1),(rv n2 a2 b2),(rv n3 a3 b3),(.int .i64 T)] (.tuple #[Value.slice none (0:Nat) (0:Nat),.int .i64 (1:Int)]):=by
 exact fn_ok Tryd.func16 (sc:=[(1,1,.fix (.int .i64 (Int.sign (Rat.num x)))),(1,2,.is (.c (.bool false))),(1,5,.fix (.int .i64 (Int.sign (Rat.num s)))),(1,6,.is (.c (.bool false))),(1,10,.fix (.int .i64 (Int.sign (Rat.num a)))),(1,11,.is (.c (.bool false))),(1,15,.is (.c (.bool false))),(1,19,.is (.c (.bool true)))]) (sb:=[]) (by kernel_rfl) (hC (sign_k h1' (by omega)) (hP (isB (show (decide (Int.sign (Rat.num x) < (0:Int)))=false from df)) (hC (sign_k h2' (by omega)) (hP (isB (show (decide (Int.sign (Rat.num s)≤(0:Int)))=false from df)) (hC (sign_k h3' (by omega)) (hP (isB (show (decide (Int.sign (Rat.num a)≤(0:Int)))=false from df)) (hP (isB (show (decide (T < (0:Int)))=false from df)) (hP (isB (show (decide ((50:Int) < T))=true from dt)) hN))))))))
theorem tp_l1 {n1 n2 n3:Bool}{a1 b1 a2 b2 a3 b3:ByteArray}{x s a:Rat}{J K L:Nat}{T:Int} (h1':IsR n1 a1 b1 x J) (h2':IsR n2 a2 b2 s K) (h3':IsR n3 a3 b3 a L) (hK:K≤10000000) (hL:L≤10000000) (hJ:J≤10000000) (c1:0≤Int.sign (Rat.num x)) (c2:0 < Int.sign (Rat.num s)) (c3:0 < Int.sign (Rat.num a)) (c4:0≤T) (c:T≤50) (hnd:CSpec Tryd.prog 37 #[rv n1 a1 b1,rv n2 a2 b2,rv n3 a3 b3] (.int .i64 (-1)))  : CSpec Tryd.prog 16 #[(rv n1 a1 b1),(rv n2 a2 b2),(rv n3 a3 b3),(.int .i64 T)] (.tuple #[Value.slice none (0:Nat) (0:Nat),.int .i64 (19:Int)]):=by
 exact fn_ok Tryd.func16 (sc:=[(1,1,.fix (.int .i64 (Int.sign (Rat.num x)))),(1,2,.is (.c (.bool false))),(1,5,.fix (.int .i64 (Int.sign (Rat.num s)))),(1,6,.is (.c (.bool false))),(1,10,.fix (.int .i64 (Int.sign (Rat.num a)))),(1,11,.is (.c (.bool false))),(1,15,.is (.c (.bool false))),(1,19,.is (.c (.bool false))),(3,3,.fix (.int .i64 (-1:Int)))]) (sb:=[]) (by kernel_rfl) (hC (sign_k h1' (by omega)) (hP (isB (show (decide (Int.sign (Rat.num x) < (0:Int)))=false from df)) (hC (sign_k h2' (by omega)) (hP (isB (show (decide (Int.sign (Rat.num s)≤(0:Int)))=false from df)) (hC (sign_k h3' (by omega)) (hP (isB (show (decide (Int.sign (Rat.num a)≤(0:Int)))=false from df)) (hP (isB (show (decide (T < (0:Int)))=false from df)) (hP (isB (show (decide ((50:Int) < T))=false from df)) (hC hnd hN)))))))))
theorem tp_l2 {n1 n2 n3:Bool}{a1 b1 a2 b2 a3 b3:ByteArray}{x s a:Rat}{J K L m:Nat}{T:Int} (h1':IsR n1 a1 b1 x J) (h2':IsR n2 a2 b2 s K) (h3':IsR n3 a3 b3 a L) (hK:K≤10000000) (hL:L≤10000000) (hJ:J≤10000000) (c1:0≤Int.sign (Rat.num x)) (c2:0 < Int.sign (Rat.num s)) (c3:0 < Int.sign (Rat.num a)) (c4:0 < T) (c:T≤50) (hT:T < (m:Int)) (hnd:CSpec Tryd.prog 37 #[rv n1 a1 b1,rv n2 a2 b2,rv n3 a3 b3] (.int .i64 ((m:Nat):Int)))  : CSpec Tryd.prog 16 #[(rv n1 a1 b1),(rv n2 a2 b2),(rv n3 a3 b3),(.int .i64 T)] (.tuple #[Value.slice none (0:Nat) (0:Nat),.int .i64 (19:Int)]):=by
 exact fn_ok Tryd.func16 (sc:=[(1,1,.fix (.int .i64 (Int.sign (Rat.num x)))),(1,2,.is (.c (.bool false))),(1,5,.fix (.int .i64 (Int.sign (Rat.num s)))),(1,6,.is (.c (.bool false))),(1,10,.fix (.int .i64 (Int.sign (Rat.num a)))),(1,11,.is (.c (.bool false))),(1,15,.is (.c (.bool false))),(1,19,.is (.c (.bool false))),(3,3,.fix (.int .i64 (↑m:Int))),(4,1,.is (.c (.bool false))),(4,4,.is (.c (.bool true))),(4,8,.is (.c (.bool true)))]) (sb:=[]) (by kernel_rfl) (hC (sign_k h1' (by omega)) (hP (isB (show (decide (Int.sign (Rat.num x) < (0:Int)))=false from df)) (hC (sign_k h2' (by omega)) (hP (isB (show (decide (Int.sign (Rat.num s)≤(0:Int)))=false from df)) (hC (sign_k h3' (by omega)) (hP (isB (show (decide (Int.sign (Rat.num a)≤(0:Int)))=false from df)) (hP (isB (show (decide (T < (0:Int)))=false from df)) (hP (isB (show (decide ((50:Int) < T))=false from df)) (hC hnd (hP (isB (show (decide ((↑m:Int) < (0:Int)))=false from df)) (hP (isB (show (decide ((0:Int) < T))=true from dt)) (hP (isB (show (decide (T < (↑m:Int)))=true from dt)) hN))))))))))))
theorem tp_f0 {n1 n2 n3:Bool}{a1 b1 a2 b2 a3 b3:ByteArray}{x s a:Rat}{J K L H m n t:Nat}{l:List Rat} (h1':IsR n1 a1 b1 x J) (h2':IsR n2 a2 b2 s K) (h3':IsR n3 a3 b3 a L) (hK:K≤10000000) (hL:L≤10000000) (hJ:J≤10000000) (c1:0≤Int.sign (Rat.num x)) (c2:0 < Int.sign (Rat.num s)) (c3:0 < Int.sign (Rat.num a)) (ht:t≤50) (hm:m≤50) (hm1:1≤m) (hn:n≤50) (hnd:CSpec Tryd.prog 37 #[rv n1 a1 b1,rv n2 a2 b2,rv n3 a3 b3] (.int .i64 ((m:Nat):Int))) (hNm:n=max m t) (hc0:covQ n s a n≠0) (hz:Sz (covQ n s a n) H) (hH:H≤1000000000) (hb:TSpecN Tryd.prog 0 (.block 0 (.loop (loopOf Tryd.f16 0))) (tpS n1 a1 b1 n2 a2 b2 n3 a3 b3 n (x/covQ n s a n) [] 1) .normal (tpS n1 a1 b1 n2 a2 b2 n3 a3 b3 n (x/covQ n s a n) l (n+1))) (h0:t=0)  : FSpec Tryd.prog 16 [.c (rv n1 a1 b1),.c (rv n2 a2 b2),.c (rv n3 a3 b3),.c (.int .i64 ((t:Nat):Int))] [] (V.tu [(false,[dRs l]),(false,[D.v (Value.int .i64 (0:Int))])]) []:=by
 have s0:=(isR_s hz)
 exact fspec_ok Tryd.func16 (sc:=[(1,1,.fix (.int .i64 (Int.sign (Rat.num x)))),(1,2,.is (.c (.bool false))),(1,5,.fix (.int .i64 (Int.sign (Rat.num s)))),(1,6,.is (.c (.bool false))),(1,10,.fix (.int .i64 (Int.sign (Rat.num a)))),(1,11,.is (.c (.bool false))),(1,15,.is (.c (.bool false))),(1,19,.is (.c (.bool false))),(3,3,.fix (.int .i64 (↑m:Int))),(4,1,.is (.c (.bool false))),(4,4,.is (.c (.bool false))),(6,2,.is (.c (.int .i64 (↑n:Int)))),(7,4,.fix (Rv (covQ n s a n))),(7,5,.fix (.tuple #[Rv (x/covQ n s a n),.int .i64 (0:Int)])),(9,99998,.conv [(13,V.gr (4:Nat) (0:Nat) (3:Nat))]),(0,99999,.maskN (mask 85 0 [5,6,10,11,13,14])),(13,99998,.conv [(13,V.dv false [dRs l])])]) (sb:=[(0,.normal,tpS n1 a1 b1 n2 a2 b2 n3 a3 b3 n (x/covQ n s a n) l (n+1))]) (keep:=[]) (by kernel_rfl) (hP (flatB_flat (m:=[]) rfl) (hC (sign_k h1' (by omega)) (hP (isB (show (decide (Int.sign (Rat.num x) < (0:Int)))=false from df)) (hC (sign_k h2' (by omega)) (hP (isB (show (decide (Int.sign (Rat.num s)≤(0:Int)))=false from df)) (hC (sign_k h3' (by omega)) (hP (isB (show (decide (Int.sign (Rat.num a)≤(0:Int)))=false from df)) (hP (isB (show (decide ((↑t:Int) < (0:Int)))=false from df)) (hP (isB (show (decide ((50:Int) < (↑t:Int)))=false from df)) (hC hnd (hP (isB (show (decide ((↑m:Int) < (0:Int)))=false from df)) (hP (isB (show (decide ((0:Int) < (↑t:Int)))=false from df)) (hP (show V.c (Value.int .i64 (if (↑t:Int) > (↑m:Int) then (↑t:Int) else (↑m:Int))) = .c (.int .i64 (↑n:Int)) from (mxT hNm)) (hC (cover_k h2' h3' hK hL hn) (hC (div_k h1' s0 (by omega) hc0) (hP (show Flat [some ⟨Bool.true,nv [[.bool n1],[.string a1],[.string b1]]⟩,some ⟨Bool.true,nv [[.bool n2],[.string a2],[.string b2]]⟩,some ⟨Bool.true,nv [[.bool n3],[.string a3],[.string b3]]⟩,some ⟨Bool.true,nv [rc (x/covQ n s a n)]⟩,some ⟨Bool.false,nv []⟩] from (flk rfl (flk rfl (flk rfl (flk rfl (flk rfl trivial)))))) (hP (hb) (hP (show List.length l=List.length l∧(Row.own { own:=!List.isEmpty l,cells:=rcs l }=true∨List.length l=(0:Nat)∧Row.cells { own:=!List.isEmpty l,cells:=rcs l }=[])∧frz (Row.cells { own:=!List.isEmpty l,cells:=rcs l }) (0:Nat) (List.length l) (3:Nat) fun i k=>List.getD (dR (List.getD l i (0:Rat))) k (D.v undef) from (⟨rfl,emp_own4,frz_rcs rfl⟩)) hN))))))))))))))))))
theorem tp_f1 {n1 n2 n3:Bool}{a1 b1 a2 b2 a3 b3:ByteArray}{x s a:Rat}{J K L H m n t:Nat}{l:List Rat} (h1':IsR n1 a1 b1 x J) (h2':IsR n2 a2 b2 s K) (h3':IsR n3 a3 b3 a L) (hK:K≤10000000) (hL:L≤10000000) (hJ:J≤10000000) (c1:0≤Int.sign (Rat.num x)) (c2:0 < Int.sign (Rat.num s)) (c3:0 < Int.sign (Rat.num a)) (ht:t≤50) (hm:m≤50) (hm1:1≤m) (hn:n≤50) (hnd:CSpec Tryd.prog 37 #[rv n1 a1 b1,rv n2 a2 b2,rv n3 a3 b3] (.int .i64 ((m:Nat):Int))) (hNm:n=max m t) (hc0:covQ n s a n≠0) (hz:Sz (covQ n s a n) H) (hH:H≤1000000000) (hb:TSpecN Tryd.prog 0 (.block 0 (.loop (loopOf Tryd.f16 0))) (tpS n1 a1 b1 n2 a2 b2 n3 a3 b3 n (x/covQ n s a n) [] 1) .normal (tpS n1 a1 b1 n2 a2 b2 n3 a3 b3 n (x/covQ n s a n) l (n+1))) (h0:0 < t) (h1:m≤t)  : FSpec Tryd.prog 16 [.c (rv n1 a1 b1),.c (rv n2 a2 b2),.c (rv n3 a3 b3),.c (.int .i64 ((t:Nat):Int))] [] (V.tu [(false,[dRs l]),(false,[D.v (Value.int .i64 (0:Int))])]) []:=by
 have s0:=(isR_s hz)
 exact fspec_ok Tryd.func16 (sc:=[(1,1,.fix (.int .i64 (Int.sign (Rat.num x)))),(1,2,.is (.c (.bool false))),(1,5,.fix (.int .i64 (Int.sign (Rat.num s)))),(1,6,.is (.c (.bool false))),(1,10,.fix (.int .i64 (Int.sign (Rat.num a)))),(1,11,.is (.c (.bool false))),(1,15,.is (.c (.bool false))),(1,19,.is (.c (.bool false))),(3,3,.fix (.int .i64 (↑m:Int))),(4,1,.is (.c (.bool false))),(4,4,.is (.c (.bool true))),(4,8,.is (.c (.bool false))),(6,2,.is (.c (.int .i64 (↑n:Int)))),(7,4,.fix (Rv (covQ n s a n))),(7,5,.fix (.tuple #[Rv (x/covQ n s a n),.int .i64 (0:Int)])),(9,99998,.conv [(13,V.gr (4:Nat) (0:Nat) (3:Nat))]),(0,99999,.maskN (mask 85 0 [5,6,10,11,13,14])),(13,99998,.conv [(13,V.dv false [dRs l])])]) (sb:=[(0,.normal,tpS n1 a1 b1 n2 a2 b2 n3 a3 b3 n (x/covQ n s a n) l (n+1))]) (keep:=[]) (by kernel_rfl) (hP (flatB_flat (m:=[]) rfl) (hC (sign_k h1' (by omega)) (hP (isB (show (decide (Int.sign (Rat.num x) < (0:Int)))=false from df)) (hC (sign_k h2' (by omega)) (hP (isB (show (decide (Int.sign (Rat.num s)≤(0:Int)))=false from df)) (hC (sign_k h3' (by omega)) (hP (isB (show (decide (Int.sign (Rat.num a)≤(0:Int)))=false from df)) (hP (isB (show (decide ((↑t:Int) < (0:Int)))=false from df)) (hP (isB (show (decide ((50:Int) < (↑t:Int)))=false from df)) (hC hnd (hP (isB (show (decide ((↑m:Int) < (0:Int)))=false from df)) (hP (isB (show (decide ((0:Int) < (↑t:Int)))=true from dt)) (hP (isB (show (decide ((↑t:Int) < (↑m:Int)))=false from df)) (hP (show V.c (Value.int .i64 (if (↑t:Int) > (↑m:Int) then (↑t:Int) else (↑m:Int))) = .c (.int .i64 (↑n:Int)) from (mxT hNm)) (hC (cover_k h2' h3' hK hL hn) (hC (div_k h1' s0 (by omega) hc0) (hP (show Flat [some ⟨Bool.true,nv [[.bool n1],[.string a1],[.string b1]]⟩,some ⟨Bool.true,nv [[.bool n2],[.string a2],[.string b2]]⟩,some ⟨Bool.true,nv [[.bool n3],[.string a3],[.string b3]]⟩,some ⟨Bool.true,nv [rc (x/covQ n s a n)]⟩,some ⟨Bool.false,nv []⟩] from (flk rfl (flk rfl (flk rfl (flk rfl (flk rfl trivial)))))) (hP (hb) (hP (show List.length l=List.length l∧(Row.own { own:=!List.isEmpty l,cells:=rcs l }=true∨List.length l=(0:Nat)∧Row.cells { own:=!List.isEmpty l,cells:=rcs l }=[])∧frz (Row.cells { own:=!List.isEmpty l,cells:=rcs l }) (0:Nat) (List.length l) (3:Nat) fun i k=>List.getD (dR (List.getD l i (0:Rat))) k (D.v undef) from (⟨rfl,emp_own4,frz_rcs rfl⟩)) hN)))))))))))))))))))
end Go.Proofs.YtmkgijiniopalaaDoor.G
end
section
namespace Go.Proofs.YtmkgijiniopalaaDoor.G
open Go.Proofs.YtmkgijiniopalaaDoor.U Go.RowKit
def proL (n:Nat) (x s a:Rat) (j:Nat):List Rat:=(List.range j).map fun i=>x/covQ n s a n*capQ n s a (i+1)
theorem proL_len {n:Nat} {x s a:Rat} {j:Nat}:(proL n x s a j).length=j:=by simp [proL]
theorem proL_succ {n:Nat} {x s a:Rat} {j:Nat}:proL n x s a (j+1)=proL n x s a j++[x/covQ n s a n*capQ n s a (j+1)]:=by simp [proL,List.range_succ]
theorem proL_get {n:Nat} {x s a:Rat} {j i:Nat} (hi:i < j):(proL n x s a j).getD i 0=x/covQ n s a n*capQ n s a (i+1):=by
 rw [List.getD_eq_getElem?_getD]
 simp [proL,List.getElem?_map,List.getElem?_range hi]
def mixL (n:Nat) (x s a:Rat) (i:Nat):List Rat:=(List.range n).map fun j=>if j < i then capQ n s a (j+1)*x/covQ n s a n else capQ n s a (j+1)
theorem mixL_len {n:Nat} {x s a:Rat} {i:Nat}:(mixL n x s a i).length=n:=by simp [mixL]
theorem mixL_0 {n:Nat} {x s a:Rat}:mixL n x s a 0=capL n s a n:=by simp [mixL,capL]
theorem mixL_n {n:Nat} {x s a:Rat}:mixL n x s a n=proL n x s a n:=by
 unfold mixL proL
 refine List.map_congr_left fun j hj=>?_
 rw [if_pos (List.mem_range.1 hj),Rat.div_def,Rat.div_def,Rat.mul_comm (capQ n s a (j+1)) x,Rat.mul_assoc,Rat.mul_assoc,Rat.mul_comm (capQ n s a (j+1))]
theorem mixL_get {n:Nat} {x s a:Rat} {i:Nat} (hi:i < n):(mixL n x s a i).getD i 0=capQ n s a (i+1):=by
 rw [List.getD_eq_getElem?_getD]
 simp [mixL,List.getElem?_map,List.getElem?_range hi]
theorem mixL_set {n:Nat} {x s a:Rat} {i:Nat} (hi:i < n):(mixL n x s a i).set i (capQ n s a (i+1)*x/covQ n s a n)=mixL n x s a (i+1):=by
 apply List.ext_getElem?
 intro j
 rw [List.getElem?_set]
 by_cases h:i=j
 ·subst h
  rw [if_pos rfl,if_pos (by rw [mixL_len]; exact hi)]
  simp [mixL,List.getElem?_map,List.getElem?_range hi]
 rw [if_neg h]
 by_cases hj:j < n
 ·simp only [mixL,List.getElem?_map,List.getElem?_range hj,Option.map_some]
  congr 1
  by_cases h1:j < i
  ·rw [if_pos h1,if_pos (by omega)]
  rw [if_neg h1,if_neg (by omega)]
 rw [List.getElem?_eq_none (by rw [mixL_len]; omega),List.getElem?_eq_none (by rw [mixL_len]; omega)]
theorem bkT_eq {l r:List Rat} {y:Rat} {i:Nat}:bkT l r y i=bkS l (r++[y]) i:=by
 simp [bkT,bkS,rcs_ap]
theorem back_k {l:List Rat} {K:Nat} (hK:K≤1000000000) (hl:l.length≤1000000) (hs:∀ i,i < l.length→Sz (l.getD i 0) K):FSpec Tryd.prog 10 [.dv false [dQs l]] [] (.dv false [dRs l]) []:=by
 have hr:∀ d i:Nat,i+d=l.length→RoundsN Tryd.prog 0 (loopOf Tryd.f10 0) 0 (bkS l (l.take i) i) .normal (bkS l l l.length):=by
  intro d
  induction d with
  | zero =>
    intro i hi
    obtain rfl:i=l.length:=by omega
    rw [List.take_length]
    exact .stop bk_b
  | succ d ih =>
    intro i hi
    have hlt:i < l.length:=by omega
    have h:=bk_a (l:=l) (r:=l.take i) (i:=i) (hs i hlt) hK hlt hl (by rw [List.length_take]; omega)
    have e:bkT l (l.take i) (l.getD i 0) (i+1)=bkS l (l.take (i+1)) (i+1):=by
     rw [bkT_eq,List.take_succ_eq_append_getElem hlt,List.getD_eq_getElem?_getD,List.getElem?_eq_getElem hlt]
     rfl
    rw [e] at h
    exact .step h (ih (i+1) (by omega))
 exact bk_f hl (hr l.length 0 (by omega)).spec
section
variable {n1 n2 n3:Bool} {a1 b1 a2 b2 a3 b3:ByteArray} {x s a:Rat} {J K L n m t:Nat}
theorem capQ_pos {k:Nat} (hs:0 < s) (ha:0 < a) (hk:1≤k) (hkn:k≤n):0 < capQ n s a k:=by
 have h1:1≤mk n k:=by unfold mk; split<;>omega
 have h2:(0:Rat) < (((mk n k:Nat):Int):Rat):=by
  have:((0:Int):Rat) < (((mk n k:Nat):Int):Rat):=Rat.intCast_lt_intCast.2 (by omega)
  exact this
 have h3:0 < a*(((mk n k:Nat):Int):Rat):=Rat.mul_pos ha h2
 unfold capQ mn
 split
 ·exact hs
 exact h3
theorem covQ_pos (hs:0 < s) (ha:0 < a):∀ k:Nat,1≤k→k≤n→0 < covQ n s a k
 | 0,h,_=>by omega
 | 1,_,h=>by
   have:=capQ_pos (n:=n) hs ha (Nat.le_refl 1) h
   show 0 < 0+capQ n s a 1
   rw [Rat.zero_add]
   exact this
 | k+2,_,h=>by
   have h1:=covQ_pos hs ha (k+1) (by omega) (by omega)
   have h2:=capQ_pos (n:=n) (k:=k+2) hs ha (by omega) h
   show 0 < covQ n s a (k+1)+capQ n s a (k+2)
   grind
theorem tp_rounds (h1:IsR n1 a1 b1 x J) (h2:IsR n2 a2 b2 s K) (h3:IsR n3 a3 b3 a L) (hK:K≤5000000) (hL:L≤5000000) (hJ:J≤5000000) (hn:n≤50):∀ d j:Nat,j+d=n→RoundsN Tryd.prog 4 (loopOf Tryd.f16 0) 0 (tpS n1 a1 b1 n2 a2 b2 n3 a3 b3 n (x/covQ n s a n) (proL n x s a j) (j+1)) .normal (tpS n1 a1 b1 n2 a2 b2 n3 a3 b3 n (x/covQ n s a n) (proL n x s a n) (n+1))
 | 0,j,h=>by
   obtain rfl:j=n:=by omega
   exact .stop (tp_b hn)
 | d+1,j,h=>by
   have ih:=tp_rounds h1 h2 h3 hK hL hJ hn d (j+1) (by omega)
   refine .step ?_ ih
   have hz:=covQ_sz h2.sz h3.sz hn n (Nat.le_refl _)
   have hb:n*(K+L+9)≤50*(K+L+9):=Nat.mul_le_mul_right _ hn
   have hm:=mk_le (n:=n) (k:=j+1)
   have hh:=tp_a (l:=proL n x s a j) (sc:=x/covQ n s a n) (n:=n) (k:=j+1) h1 h2 h3 (by omega) (by omega) (by omega) (div_s h1.sz hz) (by omega) (by omega) (by omega) hn (by omega) (by rw [proL_len]; omega) (by omega) (by omega)
   have e:tpT n1 a1 b1 n2 a2 b2 n3 a3 b3 n (x/covQ n s a n) (proL n x s a j) (x/covQ n s a n*mn s (a*(((mk n (j+1):Nat):Int):Rat))) (j+1+1)=tpS n1 a1 b1 n2 a2 b2 n3 a3 b3 n (x/covQ n s a n) (proL n x s a (j+1)) (j+1+1):=by
    rw [proL_succ]
    simp [tpT,tpS,rcs_ap,capQ]
   rw [e] at hh
   exact hh
theorem ref_rounds (hx:Sz x J) (hs:Sz s K) (ha:Sz a L) (hJ:J≤2000000) (hK:K≤2000000) (hL:L≤2000000) (hn:n≤50) (h0:covQ n s a n≠0):∀ d i:Nat,i+d=n→Rounds Tryd.prog (loopOf Tryd.f17 2) 2 (prR x s a (mixL n x s a i) n (covQ n s a n) i) .normal (prR x s a (mixL n x s a n) n (covQ n s a n) n)
 | 0,i,h=>by
   obtain rfl:i=n:=by omega
   exact .stop pr_e
 | d+1,i,h=>by
   have ih:=ref_rounds hx hs ha hJ hK hL hn h0 d (i+1) (by omega)
   refine .step ?_ ih
   have hi:i < n:=by omega
   have hz:=covQ_sz hs ha hn n (Nat.le_refl _)
   have hb:n*(K+L+9)≤50*(K+L+9):=Nat.mul_le_mul_right _ hn
   have hg:=mixL_get (x:=x) (s:=s) (a:=a) hi
   have hc:Sz ((mixL n x s a i).getD i 0) (K+L+8):=by rw [hg]; exact capQ_sz hs ha (by omega)
   have hh:=pr_d (l:=mixL n x s a i) (n:=n) (i:=i) (z:=covQ n s a n) hx hs ha (by omega) (by omega) (by omega) hc hz (by omega) h0 hi (by rw [mixL_len]; exact hi) hn (by rw [qc_len,mixL_len]; omega)
   rw [prT_eq (by rw [mixL_len]; exact hi),hg,mixL_set hi] at hh
   exact hh
end
end Go.Proofs.YtmkgijiniopalaaDoor.G
end
section
namespace Go.Proofs.YtmkgijiniopalaaDoor.G
open Go.Proofs.YtmkgijiniopalaaDoor.U Go.RowKit
section
variable {n1 n2 n3:Bool} {a1 b1 a2 b2 a3 b3:ByteArray} {x s a:Rat} {J K L:Nat}
theorem sgn_pos' {x:Rat} (h:0 < Int.sign x.num):0 < x:=num_pos.1 (Int.sign_pos_iff.1 h)
theorem tp_ok (h1:IsR n1 a1 b1 x J) (h2:IsR n2 a2 b2 s K) (h3:IsR n3 a3 b3 a L) (hK:K≤2000000) (hL:L≤2000000) (hJ:J≤2000000) (c1:0≤Int.sign (Rat.num x)) (c2:0 < Int.sign (Rat.num s)) (c3:0 < Int.sign (Rat.num a)) {m t n:Nat} (ht:t≤50) (hm1:1≤m) (hm:m≤50) (hp:x≤covQ m s a m) (hc:∀ j,1≤j→j < m→covQ j s a j < x) (hq:t=0∨m≤t) (hN:n=max m t) :
 FSpec Tryd.prog 16 [.c (rv n1 a1 b1),.c (rv n2 a2 b2),.c (rv n3 a3 b3),.c (.int .i64 ((t:Nat):Int))] [] (.tu [(false,[dRs (proL n x s a n)]),(false,[.v (.int .i64 0)])]) []:=by
 have hn:n≤50:=by omega
 have hn1:1≤n:=by omega
 have hpos:=covQ_pos (n:=n) (sgn_pos' c2) (sgn_pos' c3) n hn1 (Nat.le_refl _)
 have h0:covQ n s a n≠0:=fun e=>by rw [e] at hpos; exact absurd hpos (by decide)
 have hz:=covQ_sz h2.sz h3.sz hn n (Nat.le_refl _)
 have hb:n*(K+L+9)≤50*(K+L+9):=Nat.mul_le_mul_right _ hn
 have hnd:=need_t h1 h2 h3 (by omega) (by omega) (by omega) hm1 hm hp hc
 have hr:=tsnl (m:=0) (tp_rounds h1 h2 h3 (by omega) (by omega) (by omega) hn n 0 (by omega)).spec (Nat.zero_le _)
 by_cases h:t=0
 ·exact tp_f0 h1 h2 h3 (by omega) (by omega) (by omega) c1 c2 c3 ht hm hm1 hn hnd hN h0 hz (by omega) hr h
 exact tp_f1 h1 h2 h3 (by omega) (by omega) (by omega) c1 c2 c3 ht hm hm1 hn hnd hN h0 hz (by omega) hr (by omega) (by omega)
theorem pf_ok (hx:Sz x J) (hs:Sz s K) (ha:Sz a L) (hK:K≤2000000) (hL:L≤2000000) (hJ:J≤2000000) (c1:0≤Int.sign (Rat.num x)) (c2:0 < Int.sign (Rat.num s)) (c3:0 < Int.sign (Rat.num a)) {m t n:Nat} (ht:t≤50) (hm1:1≤m) (hm:m≤50) (hp:x≤covQ m s a m) (hc:∀ j,1≤j→j < m→covQ j s a j < x) (hq:t=0∨m≤t) (hN:n=max m t) :
 FSpec Tryd.prog 17 [vQ x,vQ s,vQ a,.c (.int .i64 ((t:Nat):Int))] [] (.tu [(false,[dQs (proL n x s a n)]),(false,[.v (.int .i64 0)])]) []:=by
 have hn:n≤50:=by omega
 have hn1:1≤n:=by omega
 have hpos:=covQ_pos (n:=n) (sgn_pos' c2) (sgn_pos' c3) n hn1 (Nat.le_refl _)
 have h0:covQ n s a n≠0:=fun e=>by rw [e] at hpos; exact absurd hpos (by decide)
 have hr2:=(ref_rounds hx hs ha hJ hK hL hn h0 n 0 (by omega)).spec
 rw [mixL_0,mixL_n] at hr2
 have hr:∀ d k:Nat,k+d=m→1≤k→Rounds Tryd.prog (loopOf Tryd.f17 0) 0 (prS x s a ((t:Nat):Int) k) .normal (prS x s a ((t:Nat):Int) m):=by
  intro d
  induction d with
  | zero =>
    intro k hk h1
    obtain rfl:k=m:=by omega
    have hz:=covQ_sz hs ha hm k (Nat.le_refl _)
    have hb:k*(K+L+9)≤50*(K+L+9):=Nat.mul_le_mul_right _ hm
    exact .stop (pr_b hx hs ha (by omega) (by omega) (by omega) hz (by omega) h1 hm (of_decide_eq_true (by rw [sgn_sub_ge]; exact decide_eq_true hp)))
  | succ d ih =>
    intro k hk h1
    have hk50:k≤50:=by omega
    have hz:=covQ_sz hs ha hk50 k (Nat.le_refl _)
    have hb:k*(K+L+9)≤50*(K+L+9):=Nat.mul_le_mul_right _ hk50
    exact .step (pr_a hx hs ha (by omega) (by omega) (by omega) hz (by omega) h1 hk50 (Int.not_le.1 fun h=>by
     have h2:=hc k h1 (by omega)
     have h3:=of_decide_eq_true ((sgn_sub_ge (x:=covQ k s a k) (y:=x)).symm.trans (decide_eq_true h))
     exact absurd h2 (Rat.not_lt.2 h3))) (ih (k+1) (by omega) (by omega))
 have hr1:=(hr (m - 1) 1 (by omega) (Nat.le_refl _)).spec
 by_cases h:t=0
 ·exact pf_f0 hx hs ha (by omega) (by omega) (by omega) c1 c2 c3 ht hm hm1 hn hn1 hN proL_len hr1 hr2 h
 exact pf_f1 hx hs ha (by omega) (by omega) (by omega) c1 c2 c3 ht hm hm1 hn hn1 hN proL_len hr1 hr2 (by omega) (by omega)
theorem pf_loop (hx:Sz x J) (hs:Sz s K) (ha:Sz a L) (hK:K≤2000000) (hL:L≤2000000) (hJ:J≤2000000) {m:Nat} {T:Int} (hm1:1≤m) (hm:m≤51) (hp:m=51∨x≤covQ m s a m) (hc:∀ j,1≤j→j < m→covQ j s a j < x):TSpec Tryd.prog (.block 0 (.loop (loopOf Tryd.f17 0))) (prS x s a T 1) .normal (prS x s a T m):=by
 have hr:∀ d k:Nat,k+d=m→1≤k→Rounds Tryd.prog (loopOf Tryd.f17 0) 0 (prS x s a T k) .normal (prS x s a T m):=by
  intro d
  induction d with
  | zero =>
    intro k hk h1
    obtain rfl:k=m:=by omega
    by_cases hk:k=51
    ·subst hk
     exact .stop (pr_c hx hs ha (by omega) (by omega) (by omega))
    have hk50:k≤50:=by omega
    have hz:=covQ_sz hs ha hk50 k (Nat.le_refl _)
    have hb:k*(K+L+9)≤50*(K+L+9):=Nat.mul_le_mul_right _ hk50
    exact .stop (pr_b hx hs ha (by omega) (by omega) (by omega) hz (by omega) h1 hk50 (of_decide_eq_true (by rw [sgn_sub_ge]; exact decide_eq_true (hp.resolve_left hk))))
  | succ d ih =>
    intro k hk h1
    have hk50:k≤50:=by omega
    have hz:=covQ_sz hs ha hk50 k (Nat.le_refl _)
    have hb:k*(K+L+9)≤50*(K+L+9):=Nat.mul_le_mul_right _ hk50
    exact .step (pr_a hx hs ha (by omega) (by omega) (by omega) hz (by omega) h1 hk50 (Int.not_le.1 fun h=>by
     have h2:=hc k h1 (by omega)
     have h3:=of_decide_eq_true ((sgn_sub_ge (x:=covQ k s a k) (y:=x)).symm.trans (decide_eq_true h))
     exact absurd h2 (Rat.not_lt.2 h3))) (ih (k+1) (by omega) (by omega))
 exact (hr (m - 1) 1 (by omega) (Nat.le_refl _)).spec
theorem first {P:Nat→Prop}:∀ d k:Nat,k+d=51→1≤k→(∀ j,1≤j→j < k → ¬ P j) → ∃ m,1≤m∧m≤51∧(m=51∨P m) ∧ ∀ j,1≤j→j < m → ¬ P j
 | 0,k,hk,h1,hc=>⟨k,h1,by omega,.inl (by omega),hc⟩
 | d+1,k,hk,h1,hc=>by
   by_cases h:P k
   ·exact ⟨k,h1,by omega,.inr h,hc⟩
   exact first d (k+1) (by omega) (by omega) fun j hj hjk=>by
    by_cases e:j=k
    ·subst e; exact h
    exact hc j hj (by omega)
theorem proL_sz (hx:Sz x J) (hs:Sz s K) (ha:Sz a L) (hK:K≤2000000) (hL:L≤2000000) (hJ:J≤2000000) {n:Nat} (hn:n≤50):∀ i,i < (proL n x s a n).length→Sz ((proL n x s a n).getD i 0) 1000000000:=fun i hi=>by
 rw [proL_len] at hi
 rw [proL_get hi]
 have hz:=covQ_sz hs ha hn n (Nat.le_refl _)
 have hb:n*(K+L+9)≤50*(K+L+9):=Nat.mul_le_mul_right _ hn
 exact (mul_s (div_s hx hz) (capQ_sz (n:=n) hs ha (k:=i+1) (by omega))).mono (by omega)
theorem prof_main (h1:IsR n1 a1 b1 x J) (h2:IsR n2 a2 b2 s K) (h3:IsR n3 a3 b3 a L) (hK:K≤2000000) (hL:L≤2000000) (hJ:J≤2000000) (T:Int) :
 (∃ e:Int,e≠0∧CSpec Tryd.prog 16 #[rv n1 a1 b1,rv n2 a2 b2,rv n3 a3 b3,.int .i64 T] (.tuple #[.slice none 0 0,.int .i64 e])∧FSpec Tryd.prog 17 [vQ x,vQ s,vQ a,.c (.int .i64 T)] [] (.c (.tuple #[.slice none 0 0,.int .i64 e])) []) ∨
 ∃ l:List Rat,l.length≤50∧(∀ i,i < l.length→Sz (l.getD i 0) 1000000000)∧FSpec Tryd.prog 16 [.c (rv n1 a1 b1),.c (rv n2 a2 b2),.c (rv n3 a3 b3),.c (.int .i64 T)] [] (.tu [(false,[dRs l]),(false,[.v (.int .i64 0)])]) []∧FSpec Tryd.prog 17 [vQ x,vQ s,vQ a,.c (.int .i64 T)] [] (.tu [(false,[dQs l]),(false,[.v (.int .i64 0)])]) []:=by
 have k1:K≤10000000:=by omega
 have k2:L≤10000000:=by omega
 have k3:J≤10000000:=by omega
 have q1:K≤5000000:=by omega
 have q2:L≤5000000:=by omega
 have q3:J≤5000000:=by omega
 by_cases c1:Int.sign (Rat.num x) < 0
 ·exact .inl ⟨1,by decide,tp_e1 h1 h2 h3 k1 k2 k3 c1,pf_e1 h1.sz h2.sz h3.sz q3 q1 q2 c1⟩
 have c1':0≤Int.sign (Rat.num x):=by omega
 by_cases c2:Int.sign (Rat.num s)≤0
 ·exact .inl ⟨1,by decide,tp_e2 h1 h2 h3 k1 k2 k3 c1' c2,pf_e2 h1.sz h2.sz h3.sz q3 q1 q2 c1' c2⟩
 have c2':0 < Int.sign (Rat.num s):=by omega
 by_cases c3:Int.sign (Rat.num a)≤0
 ·exact .inl ⟨1,by decide,tp_e3 h1 h2 h3 k1 k2 k3 c1' c2' c3,pf_e3 h1.sz h2.sz h3.sz q3 q1 q2 c1' c2' c3⟩
 have c3':0 < Int.sign (Rat.num a):=by omega
 by_cases c4:T < 0
 ·exact .inl ⟨1,by decide,tp_e4 h1 h2 h3 k1 k2 k3 c1' c2' c3' c4,pf_e4 h1.sz h2.sz h3.sz q3 q1 q2 c1' c2' c3' c4⟩
 by_cases c5:50 < T
 ·exact .inl ⟨1,by decide,tp_e5 h1 h2 h3 k1 k2 k3 c1' c2' c3' (by omega) c5,pf_e5 h1.sz h2.sz h3.sz q3 q1 q2 c1' c2' c3' (by omega) c5⟩
 obtain ⟨m,hm1,hm,hp,hc⟩:=first (P:=fun j=>x≤covQ j s a j) 50 1 rfl (Nat.le_refl _) (fun j h1 h2=>by omega)
 have hc':∀ j,1≤j→j < m→covQ j s a j < x:=fun j hj hjm=>Rat.not_le.1 (hc j hj hjm)
 by_cases h51:m=51
 ·subst h51
  have hnd:=need_f h1 h2 h3 k1 k2 k3 (fun j hj hj2=>hc' j hj (by omega))
  exact .inl ⟨19,by decide,tp_l1 h1 h2 h3 k1 k2 k3 c1' c2' c3' (by omega) (by omega) hnd,pf_l1 h1.sz h2.sz h3.sz q3 q1 q2 c1' c2' c3' (by omega) (by omega) (pf_loop h1.sz h2.sz h3.sz hK hL hJ (by decide) (by decide) (.inl rfl) hc')⟩
 have hp':=hp.resolve_left h51
 have hm50:m≤50:=by omega
 by_cases c6:0 < T∧T < (m:Int)
 ·have hnd:=need_t h1 h2 h3 k1 k2 k3 hm1 hm50 hp' hc'
  exact .inl ⟨19,by decide,tp_l2 h1 h2 h3 k1 k2 k3 c1' c2' c3' c6.1 (by omega) c6.2 hnd,pf_l2 h1.sz h2.sz h3.sz q3 q1 q2 c1' c2' c3' c6.1 (by omega) c6.2 hm50 (pf_loop h1.sz h2.sz h3.sz hK hL hJ hm1 (by omega) (.inr hp') hc')⟩
 obtain ⟨t,rfl⟩:=Int.eq_ofNat_of_zero_le (show 0≤T by omega)
 have hn:max m t≤50:=by omega
 exact .inr ⟨proL (max m t) x s a (max m t),by rw [proL_len]; exact hn,proL_sz h1.sz h2.sz h3.sz hK hL hJ hn,tp_ok h1 h2 h3 hK hL hJ c1' c2' c3' (by omega) hm1 hm50 hp' hc' (by omega) rfl,pf_ok h1.sz h2.sz h3.sz hK hL hJ c1' c2' c3' (by omega) hm1 hm50 hp' hc' (by omega) rfl⟩
end
end Go.Proofs.YtmkgijiniopalaaDoor.G
end
section
namespace Go.Proofs.YtmkgijiniopalaaDoor.G
open Go.Proofs.YtmkgijiniopalaaDoor.U Go.RowKit
def eqS (l:List Rat) (i:Nat):St:=⟨slots 26 0 [(0,.dv false [dRs l]),(1,.dv false [dRs l]),(12,.c (.int .i64 (((l.length:Nat):Int)))),(13,.c (.int .i64 (((i:Nat):Int))))],[]⟩
theorem strV {d:Int}:∃ xs:List Int,strOfNums [d]=strOfNums xs∧xs.length=1∧List.take 1 [V.c (.int .u8 d)]=xs.map (fun n=>V.c (.int .u8 n)):=⟨[d],rfl,rfl,rfl⟩
theorem apV {d:Int}:appG [] [V.c (.int .u8 d)] 0 1 1∧(false=true∨0=0):=⟨⟨rfl,rfl,rfl,rfl,rfl,by decide⟩,.inr rfl⟩
theorem eqr_a {l:List Rat}{i:Nat} (hi:i < l.length) (hl:l.length≤1000000)  : TSpec Tryd.prog (loopOf Tryd.f22 0) (eqS l i) (.normal) (eqS l (i+1)):=by
 exact tspec_dim (mask 26 0 [0,1,12,13]) 0 (sc:=[(4,0,.is (.c (.bool true))),(6,8,.eqs),(8,0,.is (.c (.int .i64 ((↑i:Int)+(1:Int)))))]) (sb:=[]) (by kernel_rfl) (hP (isB (show (decide ((↑i:Int) < (↑(List.length l):Int)))=true from dt)) (hP (show (0:Int)≤(↑i:Int)∧(↑i:Int) < (↑(List.length l):Int) by omega) (hP (show (0:Int)≤(↑i:Int)∧(↑i:Int) < (↑(List.length l):Int) by omega) (hP (Eq.refl (Rv (List.getD l i (0:Rat)))) (hP (wrI (e:=(↑i:Int)+(1:Int)) (by omega)) hN))))) trivial
theorem eqr_b {l:List Rat}   : TSpec Tryd.prog (loopOf Tryd.f22 0) (eqS l l.length) (.exit 0) (eqS l l.length):=by
 exact tspec_dim (mask 26 0 [0,1,12,13]) 0 (sc:=[(4,0,.is (.c (.bool false)))]) (sb:=[]) (by kernel_rfl) (hP (isB (show (decide ((↑(List.length l):Int) < (↑(List.length l):Int)))=false from df)) hN) trivial
theorem eqr_f {l:List Rat} (hb:TSpec Tryd.prog (.block 0 (.loop (loopOf Tryd.f22 0))) (eqS l 0) .normal (eqS l l.length))  : FSpec Tryd.prog 22 [.dv false [dRs l],.dv false [dRs l]] [] (.c (.bool true)) []:=by
 exact fspec_ok Tryd.func22 (sc:=[(1,4,.is (.c (.bool false))),(0,99999,.mask (mask 26 0 [0,1,12,13]))]) (sb:=[(0,.normal,eqS l l.length)]) (keep:=[]) (by kernel_rfl) (hP (flatB_flat (m:=[]) rfl) (hP (isB (show (!decide ((↑(List.length l):Int)=(↑(List.length l):Int)))=false from bnF (by omega))) (hP trivial (hP (hb) hN))))
theorem eqr_k {l:List Rat} (hl:l.length≤1000000):FSpec Tryd.prog 22 [.dv false [dRs l],.dv false [dRs l]] [] (.c (.bool true)) []:=eqr_f (rounds_for (S:=eqS l) (n:=l.length) (fun i hi=>eqr_a hi hl) eqr_b l.length 0 (by omega)).spec
theorem equal_k {l:List Rat} (hl:l.length≤1000000)  : FSpec Tryd.prog 8 [.dv false [dRs l],.dv false [dRs l]] [] (.c (.bool true)) []:=by
 exact fspec_ok Tryd.func8 (sc:=[(1,2,.data (.c (.bool true)))]) (sb:=[]) (keep:=[]) (by kernel_rfl) (hP (flatB_flat (m:=[]) rfl) (hF (eqr_k hl) hN))
theorem rev1_k {v:Value}   : FSpec Tryd.prog 68 [.gr 0 1 1] [some ⟨true,[.c v]⟩] (.c (.tuple #[])) [some ⟨true,[.c v]⟩]:=by
 exact fspec_ok Tryd.func68 (sc:=[]) (sb:=[]) (keep:=[]) (by kernel_rfl) (hP (flatB_flat (m:=[some ⟨true,[.c v]⟩]) rfl) hN)
theorem dig1_k    : CSpec Tryd.prog 49 #[(.int .i64 1)] (.string ({ data:=#[(1:UInt8)] })):=by
 exact fn_ok Tryd.func49 (sc:=[(1002,99998,.conv [(3,V.gr (0:Nat) (0:Nat) (1:Nat))]),(1004,5,.app),(5,1,.sub true [2] (.c (.tuple #[])) none),(6,1,.fix (.string ({ data:=#[(1:UInt8)] })))]) (sb:=[]) (by kernel_rfl) (hP ((apV (d:=1))) (hP (show (1:Nat)≤(9223372036854775807:Nat)∧(1:Nat)≤(140737488355328:Nat) by decide) (hF (rev1_k (v:=Value.int .u8 (1:Int))) (hP (strV (d:=1)) hN))))
theorem dig2_k    : CSpec Tryd.prog 49 #[(.int .i64 2)] (.string ({ data:=#[(2:UInt8)] })):=by
 exact fn_ok Tryd.func49 (sc:=[(1002,99998,.conv [(3,V.gr (0:Nat) (0:Nat) (1:Nat))]),(1004,5,.app),(5,1,.sub true [2] (.c (.tuple #[])) none),(6,1,.fix (.string ({ data:=#[(2:UInt8)] })))]) (sb:=[]) (by kernel_rfl) (hP ((apV (d:=2))) (hP (show (1:Nat)≤(9223372036854775807:Nat)∧(1:Nat)≤(140737488355328:Nat) by decide) (hF (rev1_k (v:=Value.int .u8 (2:Int))) (hP (strV (d:=2)) hN))))
theorem dig4_k    : CSpec Tryd.prog 49 #[(.int .i64 4)] (.string ({ data:=#[(4:UInt8)] })):=by
 exact fn_ok Tryd.func49 (sc:=[(1002,99998,.conv [(3,V.gr (0:Nat) (0:Nat) (1:Nat))]),(1004,5,.app),(5,1,.sub true [2] (.c (.tuple #[])) none),(6,1,.fix (.string ({ data:=#[(4:UInt8)] })))]) (sb:=[]) (by kernel_rfl) (hP ((apV (d:=4))) (hP (show (1:Nat)≤(9223372036854775807:Nat)∧(1:Nat)≤(140737488355328:Nat) by decide) (hF (rev1_k (v:=Value.int .u8 (4:Int))) (hP (strV (d:=4)) hN))))
theorem mof1_k    : CSpec Tryd.prog 21 #[(.int .i64 1),(.int .i64 1)] (ag [[.bool false],[.string ({ data:=#[(1:UInt8)] })],[.string ({ data:=#[(1:UInt8)] })]]):=by
 exact fn_ok Tryd.func21 (sc:=[(5,6,.fix (.string ({ data:=#[(1:UInt8)] }))),(5,8,.fix (.string ({ data:=#[(1:UInt8)] })))]) (sb:=[]) (by kernel_rfl) (hC dig1_k (hC dig1_k hN))
theorem mof2_k    : CSpec Tryd.prog 21 #[(.int .i64 2),(.int .i64 1)] (ag [[.bool false],[.string ({ data:=#[(2:UInt8)] })],[.string ({ data:=#[(1:UInt8)] })]]):=by
 exact fn_ok Tryd.func21 (sc:=[(5,6,.fix (.string ({ data:=#[(2:UInt8)] }))),(5,8,.fix (.string ({ data:=#[(1:UInt8)] })))]) (sb:=[]) (by kernel_rfl) (hC dig2_k (hC dig1_k hN))
theorem mof4_k    : CSpec Tryd.prog 21 #[(.int .i64 4),(.int .i64 1)] (ag [[.bool false],[.string ({ data:=#[(4:UInt8)] })],[.string ({ data:=#[(1:UInt8)] })]]):=by
 exact fn_ok Tryd.func21 (sc:=[(5,6,.fix (.string ({ data:=#[(4:UInt8)] }))),(5,8,.fix (.string ({ data:=#[(1:UInt8)] })))]) (sb:=[]) (by kernel_rfl) (hC dig4_k (hC dig1_k hN))
theorem num1c    : CSpec Tryd.prog 7 #[(.int .i64 1),(.int .i64 1)] (ag [[.bool false],[.string ({ data:=#[(1:UInt8)] })],[.string ({ data:=#[(1:UInt8)] })]]):=by
 exact fn_ok Tryd.func7 (sc:=[(1,2,.fix (ag [[.bool false],[.string ({ data:=#[(1:UInt8)] })],[.string ({ data:=#[(1:UInt8)] })]]))]) (sb:=[]) (by kernel_rfl) (hC mof1_k hN)
theorem num2c    : CSpec Tryd.prog 7 #[(.int .i64 2),(.int .i64 1)] (ag [[.bool false],[.string ({ data:=#[(2:UInt8)] })],[.string ({ data:=#[(1:UInt8)] })]]):=by
 exact fn_ok Tryd.func7 (sc:=[(1,2,.fix (ag [[.bool false],[.string ({ data:=#[(2:UInt8)] })],[.string ({ data:=#[(1:UInt8)] })]]))]) (sb:=[]) (by kernel_rfl) (hC mof2_k hN)
theorem num4c    : CSpec Tryd.prog 7 #[(.int .i64 4),(.int .i64 1)] (ag [[.bool false],[.string ({ data:=#[(4:UInt8)] })],[.string ({ data:=#[(1:UInt8)] })]]):=by
 exact fn_ok Tryd.func7 (sc:=[(1,2,.fix (ag [[.bool false],[.string ({ data:=#[(4:UInt8)] })],[.string ({ data:=#[(1:UInt8)] })]]))]) (sb:=[]) (by kernel_rfl) (hC mof4_k hN)
def MustOne (x:Rat):Prop:=x=1
def MustTwo (x:Rat):Prop:=x=2
def MustFour (x:Rat):Prop:=x=4
theorem B_byte {d:Nat} (h:0 < d) (h2:d < 256):M.B d=⟨#[UInt8.ofNat d]⟩:=by
 unfold M.B
 rw [M.bytesOf_pos (by omega),show d/256=0 by omega,M.bytesOf_zero,show d%256=d by omega]
 rfl
theorem rv_byte {d:Nat} (h:0 < d) (h2:d < 256):Rv ((d:Int):Rat)=rv false ⟨#[UInt8.ofNat d]⟩ ⟨#[UInt8.ofNat 1]⟩:=by
 unfold Rv
 rw [Rat.num_intCast,Rat.den_intCast,Int.natAbs_natCast,B_byte h h2,B_byte (d:=1) (by decide) (by decide),df]
theorem num1R_k {x:Rat} (h:MustOne x):CSpec Tryd.prog 7 #[.int .i64 1,.int .i64 1] (Rv x):=by
 have e:Rv x=rv false ⟨#[UInt8.ofNat 1]⟩ ⟨#[UInt8.ofNat 1]⟩:=by rw [show x=((1:Nat):Int) from h]; exact rv_byte (by decide) (by decide)
 rw [e]
 exact num1c
theorem num2R_k {x:Rat} (h:MustTwo x):CSpec Tryd.prog 7 #[.int .i64 2,.int .i64 1] (Rv x):=by
 have e:Rv x=rv false ⟨#[UInt8.ofNat 2]⟩ ⟨#[UInt8.ofNat 1]⟩:=by rw [show x=((2:Nat):Int) from h]; exact rv_byte (by decide) (by decide)
 rw [e]
 exact num2c
theorem num4R_k {x:Rat} (h:MustFour x):CSpec Tryd.prog 7 #[.int .i64 4,.int .i64 1] (Rv x):=by
 have e:Rv x=rv false ⟨#[UInt8.ofNat 4]⟩ ⟨#[UInt8.ofNat 1]⟩:=by rw [show x=((4:Nat):Int) from h]; exact rv_byte (by decide) (by decide)
 rw [e]
 exact num4c
theorem apL {olds:List V} {x:Rat} {n:Nat} {o:Bool} (h1:olds.length=n*3) (h2:olds.all V.fre=true) (h3:o=true∨n=0):appG olds (rcl x) n 1 3∧(o=true∨n=0):=⟨⟨rfl,rfl,rfl,h1,h2,by decide⟩,h3⟩
theorem frz3 {x y z:Rat}:frz (rcl x++(rcl y++rcl z)) 0 3 3 (fun i k=>(dR ([x,y,z].getD i 0)).getD k (.v undef)):=by
 have h:=frz_rcs (l:=[x,y,z]) (n:=3) rfl
 have e:rcs [x,y,z]=rcl x++(rcl y++rcl z):=by simp [rcs]
 rw [← e]
 exact h
theorem nums_k {x y:Rat} (h1:MustOne x) (h2:MustTwo y)  : FSpec Tryd.prog 6 [.sl 0 0 3 3] [some ⟨true,[.c (.int .i64 1),.c (.int .i64 2),.c (.int .i64 1)]⟩] (V.dv false [dRs [x,y,x]]) [some ⟨true,[.c (.int .i64 1),.c (.int .i64 2),.c (.int .i64 1)]⟩]:=by
 exact fspec_ok Tryd.func6 (sc:=[(1003,99998,.conv [(3,V.gr (1:Nat) (0:Nat) (3:Nat))]),(1005,2,.fix (Rv x)),(1005,4,.app),(2005,2,.fix (Rv y)),(2005,4,.app),(3005,2,.fix (Rv x)),(3005,4,.app),(7,99998,.conv [(3,V.dv false [dRs [x,y,x]])])]) (sb:=[]) (keep:=[]) (by kernel_rfl) (hP (flatB_flat (m:=[some ⟨true,[.c (.int .i64 1),.c (.int .i64 2),.c (.int .i64 1)]⟩]) rfl) (hP (show (0:Int)≤(0:Int)∧(0:Int) < (3:Int) by decide) (hC (num1R_k h1) (hP ((apL (n:=0) (olds:=[]) (x:=x) (o:=false) rfl rfl (.inr rfl))) (hP (show (1:Nat)≤(9223372036854775807:Nat)∧(40:Nat)≤(140737488355328:Nat) by decide) (hP (show (0:Int)≤(1:Int)∧(1:Int) < (3:Int) by decide) (hC (num2R_k h2) (hP ((apL (n:=1) (olds:=rcl x) (x:=y) (o:=true) rfl rfl (.inl rfl))) (hP (show (2:Nat)≤(9223372036854775807:Nat)∧(80:Nat)≤(140737488355328:Nat) by decide) (hP (show (0:Int)≤(2:Int)∧(2:Int) < (3:Int) by decide) (hC (num1R_k h1) (hP ((apL (n:=2) (olds:=rcl x++rcl y) (x:=x) (o:=true) rfl rfl (.inl rfl))) (hP (show (3:Nat)≤(9223372036854775807:Nat)∧(120:Nat)≤(140737488355328:Nat) by decide) (hP (show List.length [x,y,x]=(3:Nat)∧(Row.own { own:=true,cells:=[V.c (Value.bool (decide (Rat.num x < (0:Int)))),V.c (Value.string (M.B (Int.natAbs (Rat.num x)))),V.c (Value.string (M.B (Rat.den x))),V.c (Value.bool (decide (Rat.num y < (0:Int)))),V.c (Value.string (M.B (Int.natAbs (Rat.num y)))),V.c (Value.string (M.B (Rat.den y))),V.c (Value.bool (decide (Rat.num x < (0:Int)))),V.c (Value.string (M.B (Int.natAbs (Rat.num x)))),V.c (Value.string (M.B (Rat.den x)))] }=true∨(3:Nat)=(0:Nat)∧Row.cells { own:=true,cells:=[V.c (Value.bool (decide (Rat.num x < (0:Int)))),V.c (Value.string (M.B (Int.natAbs (Rat.num x)))),V.c (Value.string (M.B (Rat.den x))),V.c (Value.bool (decide (Rat.num y < (0:Int)))),V.c (Value.string (M.B (Int.natAbs (Rat.num y)))),V.c (Value.string (M.B (Rat.den y))),V.c (Value.bool (decide (Rat.num x < (0:Int)))),V.c (Value.string (M.B (Int.natAbs (Rat.num x)))),V.c (Value.string (M.B (Rat.den x)))] }=[])∧frz (Row.cells { own:=true,cells:=[V.c (Value.bool (decide (Rat.num x < (0:Int)))),V.c (Value.string (M.B (Int.natAbs (Rat.num x)))),V.c (Value.string (M.B (Rat.den x))),V.c (Value.bool (decide (Rat.num y < (0:Int)))),V.c (Value.string (M.B (Int.natAbs (Rat.num y)))),V.c (Value.string (M.B (Rat.den y))),V.c (Value.bool (decide (Rat.num x < (0:Int)))),V.c (Value.string (M.B (Int.natAbs (Rat.num x)))),V.c (Value.string (M.B (Rat.den x)))] }) (0:Nat) (3:Nat) (3:Nat) fun i k=>List.getD (dR (List.getD [x,y,x] i (0:Rat))) k (D.v undef) from (⟨rfl,.inl rfl,frz3 (x:=x) (y:=y) (z:=x)⟩)) hN))))))))))))))
theorem lw_e {n1 n2 n3:Bool}{a1 b1 a2 b2 a3 b3:ByteArray}{w y z:Rat}{T e:Int} (s1:a1.size≤1048576) (s2:b1.size≤1048576) (s3:a2.size≤1048576) (s4:b2.size≤1048576) (s5:a3.size≤1048576) (s6:b3.size≤1048576) (h1:MustOne z) (h2:MustTwo y) (h4:MustFour w) (h3:[z,y,z].length≤1000000) (hp0:FSpec Tryd.prog 16 [.c (Rv w),.c (Rv y),.c (Rv z),.c (.int .i64 0)] [] (.tu [(false,[dRs [z,y,z]]),(false,[.v (.int .i64 0)])]) []) (he:e≠0) (ht:CSpec Tryd.prog 16 #[rv n1 a1 b1,rv n2 a2 b2,rv n3 a3 b3,.int .i64 T] (.tuple #[.slice none 0 0,.int .i64 e])) (hr:FSpec Tryd.prog 17 [vQ (qv n1 a1 b1),vQ (qv n2 a2 b2),vQ (qv n3 a3 b3),.c (.int .i64 T)] [] (.c (.tuple #[.slice none 0 0,.int .i64 e])) [])  : CSpec Tryd.prog 4 #[(rv n1 a1 b1),(rv n2 a2 b2),(rv n3 a3 b3),(.int .i64 T)] (.bool true):=by
 exact fn_ok Tryd.func4 (sc:=[(1,0,.fix (Rv w)),(1,1,.fix (Rv y)),(1,2,.fix (Rv z)),(1,3,.data (V.tu [(false,[dRs [z,y,z]]),(false,[D.v (Value.int .i64 (0:Int))])])),(2,5,.sub true [3] (V.dv false [dRs [z,y,z]]) none),(2,6,.data (.c (.bool true))),(4,4,.fix (.tuple #[Value.slice none (0:Nat) (0:Nat),.int .i64 e])),(5,1,.data (V.dv true (dQ (qv n1 a1 b1)))),(5,3,.data (V.dv true (dQ (qv n2 a2 b2)))),(5,5,.data (V.dv true (dQ (qv n3 a3 b3)))),(5,7,.data (.c (.tuple #[Value.slice none (0:Nat) (0:Nat),.int .i64 e]))),(6,1,.is (.c (.bool true))),(7,2,.is (.c (.bool true)))]) (sb:=[]) (by kernel_rfl) (hC (num4R_k h4) (hC (num2R_k h2) (hC (num1R_k h1) (hF hp0 (hF (nums_k h1 h2) (hF (equal_k h3) (hC ht (hF (gFrom_k (n:=n1) (a:=a1) (b:=b1) (by omega) (by omega)) (hF (gFrom_k (n:=n2) (a:=a2) (b:=b2) (by omega) (by omega)) (hF (gFrom_k (n:=n3) (a:=a3) (b:=b3) (by omega) (by omega)) (hF hr (hP (isB (show (!decide (e=(0:Int)))=true from bnT (by omega))) (hP (isB (show (decide (e=e))=true from dt)) hN)))))))))))))
theorem lw_g {n1 n2 n3:Bool}{a1 b1 a2 b2 a3 b3:ByteArray}{w y z:Rat}{T:Int}{l:List Rat} (s1:a1.size≤1048576) (s2:b1.size≤1048576) (s3:a2.size≤1048576) (s4:b2.size≤1048576) (s5:a3.size≤1048576) (s6:b3.size≤1048576) (h1:MustOne z) (h2:MustTwo y) (h4:MustFour w) (h3:[z,y,z].length≤1000000) (hp0:FSpec Tryd.prog 16 [.c (Rv w),.c (Rv y),.c (Rv z),.c (.int .i64 0)] [] (.tu [(false,[dRs [z,y,z]]),(false,[.v (.int .i64 0)])]) []) (hl:l.length≤50) (hbk:FSpec Tryd.prog 10 [.dv false [dQs l]] [] (.dv false [dRs l]) []) (ht:FSpec Tryd.prog 16 [.c (rv n1 a1 b1),.c (rv n2 a2 b2),.c (rv n3 a3 b3),.c (.int .i64 T)] [] (.tu [(false,[dRs l]),(false,[.v (.int .i64 0)])]) []) (hr:FSpec Tryd.prog 17 [vQ (qv n1 a1 b1),vQ (qv n2 a2 b2),vQ (qv n3 a3 b3),.c (.int .i64 T)] [] (.tu [(false,[dQs l]),(false,[.v (.int .i64 0)])]) [])  : CSpec Tryd.prog 4 #[(rv n1 a1 b1),(rv n2 a2 b2),(rv n3 a3 b3),(.int .i64 T)] (.bool true):=by
 exact fn_ok Tryd.func4 (sc:=[(1,0,.fix (Rv w)),(1,1,.fix (Rv y)),(1,2,.fix (Rv z)),(1,3,.data (V.tu [(false,[dRs [z,y,z]]),(false,[D.v (Value.int .i64 (0:Int))])])),(2,5,.sub true [3] (V.dv false [dRs [z,y,z]]) none),(2,6,.data (.c (.bool true))),(4,4,.data (V.tu [(false,[dRs l]),(false,[D.v (Value.int .i64 (0:Int))])])),(5,1,.data (V.dv true (dQ (qv n1 a1 b1)))),(5,3,.data (V.dv true (dQ (qv n2 a2 b2)))),(5,5,.data (V.dv true (dQ (qv n3 a3 b3)))),(5,7,.data (V.tu [(false,[dQs l]),(false,[D.v (Value.int .i64 (0:Int))])])),(8,5,.data (V.dv false [dRs l])),(8,6,.data (.c (.bool true)))]) (sb:=[]) (by kernel_rfl) (hC (num4R_k h4) (hC (num2R_k h2) (hC (num1R_k h1) (hF hp0 (hF (nums_k h1 h2) (hF (equal_k h3) (hF ht (hF (gFrom_k (n:=n1) (a:=a1) (b:=b1) (by omega) (by omega)) (hF (gFrom_k (n:=n2) (a:=a2) (b:=b2) (by omega) (by omega)) (hF (gFrom_k (n:=n3) (a:=a3) (b:=b3) (by omega) (by omega)) (hF hr (hF hbk (hF (equal_k (l:=l) (by omega)) hN)))))))))))))
theorem one_sz {n:Int} (h:n.natAbs≤1000):Sz (n:Rat) 8:=int_s (by omega)
theorem prof0:FSpec Tryd.prog 16 [.c (Rv 4),.c (Rv 2),.c (Rv 1),.c (.int .i64 0)] [] (.tu [(false,[dRs [1,2,1]]),(false,[.v (.int .i64 0)])]) []:=by
 have h4:Sz (4:Rat) 8:=one_sz (n:=4) (by decide)
 have h2:Sz (2:Rat) 8:=one_sz (n:=2) (by decide)
 have h1:Sz (1:Rat) 8:=one_sz (n:=1) (by decide)
 have h:=tp_ok (isR_s h4) (isR_s h2) (isR_s h1) (by decide) (by decide) (by decide) (by decide +kernel) (by decide +kernel) (by decide +kernel) (m:=3) (t:=0) (n:=3) (by decide) (by decide) (by decide) (by decide +kernel) (fun j hj hj3=>by
  rcases (show j=1∨j=2 by omega) with rfl | rfl<;>decide +kernel) (.inl rfl) rfl
 rw [show proL 3 4 2 1 3=[1,2,1] by decide +kernel] at h
 exact h
theorem isR_qv {n:Bool} {a b:ByteArray} (ha:a.size≤1048576) (hb:b.size≤1048576):IsR n a b (qv n a b) 1048576:=⟨rfl,ha,hb,sz_qv n a b ha hb (by decide)⟩
theorem timingProfiles_law (n1:Bool) (a1 b1:ByteArray) (n2:Bool) (a2 b2:ByteArray) (n3:Bool) (a3 b3:ByteArray) (T:Int)
 (s1:a1.size≤1048576) (s2:b1.size≤1048576) (s3:a2.size≤1048576) (s4:b2.size≤1048576) (s5:a3.size≤1048576) (s6:b3.size≤1048576) (t1:-9223372036854775808≤T∧T≤9223372036854775807) :
 CSpec Tryd.prog 4 #[rv n1 a1 b1,rv n2 a2 b2,rv n3 a3 b3,.int .i64 T] (.bool true):=by
 rcases prof_main (isR_qv (n:=n1) s1 s2) (isR_qv (n:=n2) s3 s4) (isR_qv (n:=n3) s5 s6) (by decide) (by decide) (by decide) T with ⟨e,he,ht,hr⟩ | ⟨l,hl,hs,ht,hr⟩
 ·exact lw_e s1 s2 s3 s4 s5 s6 rfl rfl rfl (by decide) prof0 he ht hr
 exact lw_g s1 s2 s3 s4 s5 s6 rfl rfl rfl (by decide) prof0 hl (back_k (Nat.le_refl _) (by omega) hs) ht hr
end Go.Proofs.YtmkgijiniopalaaDoor.G
end
