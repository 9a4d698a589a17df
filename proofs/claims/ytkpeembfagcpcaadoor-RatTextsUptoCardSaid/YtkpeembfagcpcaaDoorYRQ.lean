import Derived.Test.YtkpeembfagcpcaaDoorYFL
import Derived.Test.YtkpeembfagcpcaaDoorYRC
set_option maxRecDepth 100000
set_option linter.unusedVariables false
section
namespace Go.Proofs.YtkpeembfagcpcaaDoor.G
open Go.Proofs.YtkpeembfagcpcaaDoor.U Go.RowKit Go.Proofs.YtkpeembfagcpcaaDoor.A Go.Proofs.YtkpeembfagcpcaaDoor.B Go.Proofs.YtkpeembfagcpcaaDoor.C Go.Proofs.YtkpeembfagcpcaaDoor.R Go.Proofs.YtkpeembfagcpcaaDoor.H
theorem rbarer_k {a:ByteArray}:CSpec Tryd.prog 52 #[.string a] (.string (M.B (M.V a))):=fun w _=>(gantref1_Bare.calls a _ w (SB.bare_spec a)).mono fun e w' h=>⟨h.1,h.2.below⟩
theorem rcommonr_k {a b:ByteArray} (ha:a.size≤2000000000) (hb:b.size≤2000000000):CSpec Tryd.prog 128 #[.string a,.string b] (.string (M.B (Nat.gcd (M.V a) (M.V b)))):=fun w _=>by
 obtain ⟨k,hk⟩:=ev_some (SB.common_spec a b (by omega) (by omega))
 exact gantref1_Common.calls k a b _ w hk
section
variable {k l K L:Nat}
theorem num_s {x:Rat} (h:Sz x K):SzN x.num.natAbs K:=h.1
theorem den_s {x:Rat} (h:Sz x K):SzN x.den K:=h.2
theorem SzN.size (h:SzN k K):(M.B k).size≤K:=M.size_B_le h
theorem rbare_k:CSpec Tryd.prog 52 #[.string (M.B k)] (.string (M.B k)):=by
 have:=rbarer_k (a:=M.B k)
 rwa [M.V_B] at this
theorem rcommon_k (h1:SzN k K) (h2:SzN l L) (hs:K+L≤2000000000):CSpec Tryd.prog 128 #[.string (M.B k),.string (M.B l)] (.string (M.B (Nat.gcd k l))):=by
 have:=rcommonr_k (a:=M.B k) (b:=M.B l) (by have:=h1.size; omega) (by have:=h2.size; omega)
 rwa [M.V_B,M.V_B] at this
theorem rshare_k (h1:SzN k K) (h2:SzN l L) (hs:K+L≤17179869184) (h0:l≠0):CSpec Tryd.prog 134 #[.string (M.B k),.string (M.B l)] (.tuple #[.string (M.B (k/l)),.string (M.B (k%l))]):=fun w _=>by
 obtain ⟨i,hi⟩:=ev_some (SB.share_spec (M.B k) (M.B l) (by have:=h1.size; omega) (by have:=h2.size; omega) (by rw [M.V_B]; exact h0))
 rw [M.V_B,M.V_B] at hi
 exact gantref1_Share.calls i _ _ _ _ w hi
end
end Go.Proofs.YtkpeembfagcpcaaDoor.G
end
section
namespace Go.Proofs.YtkpeembfagcpcaaDoor.G
open Go.Proofs.YtkpeembfagcpcaaDoor.U Go.RowKit
theorem fine1 {n:Bool} {a b:ByteArray} {K:Nat} (ha:a.size≤K) (hb:b.size≤K) (k1:K≤1000000000) (h0:(!ByteArray.toList (M.B (M.V a))==ByteArray.toList a)=true):CSpec Tryd.prog 78 #[(rv n a b)] (.bool false):=by
 exact fn_ok Tryd.func78 (sc:=[(1,2,.fix (.string (M.B (M.V a)))),(1,5,.is (.c (.bool true)))]) (sb:=[]) (by kernel_rfl) (hC (rbarer_k (a:=a)) (hP (isB h0) hN))
theorem fine2 {n:Bool} {a b:ByteArray} {K:Nat} (ha:a.size≤K) (hb:b.size≤K) (k1:K≤1000000000) (h0:(!ByteArray.toList (M.B (M.V a))==ByteArray.toList a)=false) (h1:(!ByteArray.toList (M.B (M.V b))==ByteArray.toList b)=true):CSpec Tryd.prog 78 #[(rv n a b)] (.bool false):=by
 exact fn_ok Tryd.func78 (sc:=[(1,2,.fix (.string (M.B (M.V a)))),(1,5,.is (.c (.bool false))),(1,9,.fix (.string (M.B (M.V b)))),(1,12,.is (.c (.bool true)))]) (sb:=[]) (by kernel_rfl) (hC (rbarer_k (a:=a)) (hP (isB h0) (hC (rbarer_k (a:=b)) (hP (isB h1) hN))))
theorem fine3 {n:Bool} {a b:ByteArray} {K:Nat} (ha:a.size≤K) (hb:b.size≤K) (k1:K≤1000000000) (h0:(!ByteArray.toList (M.B (M.V a))==ByteArray.toList a)=false) (h1:(!ByteArray.toList (M.B (M.V b))==ByteArray.toList b)=false) (h2:(ByteArray.toList b==ByteArray.toList { data:=#[] })=true):CSpec Tryd.prog 78 #[(rv n a b)] (.bool false):=by
 exact fn_ok Tryd.func78 (sc:=[(1,2,.fix (.string (M.B (M.V a)))),(1,5,.is (.c (.bool false))),(1,9,.fix (.string (M.B (M.V b)))),(1,12,.is (.c (.bool false))),(1,17,.is (.c (.bool true)))]) (sb:=[]) (by kernel_rfl) (hC (rbarer_k (a:=a)) (hP (isB h0) (hC (rbarer_k (a:=b)) (hP (isB h1) (hP (isB h2) hN)))))
theorem fine4 {n:Bool} {a b:ByteArray} {K:Nat} (ha:a.size≤K) (hb:b.size≤K) (k1:K≤1000000000) (h0:(!ByteArray.toList (M.B (M.V a))==ByteArray.toList a)=false) (h1:(!ByteArray.toList (M.B (M.V b))==ByteArray.toList b)=false) (h2:(ByteArray.toList b==ByteArray.toList { data:=#[] })=false) (h3:(ByteArray.toList a==ByteArray.toList { data:=#[] })=true) (h4:n=true):CSpec Tryd.prog 78 #[(rv n a b)] (.bool false):=by
 exact fn_ok Tryd.func78 (sc:=[(1,2,.fix (.string (M.B (M.V a)))),(1,5,.is (.c (.bool false))),(1,9,.fix (.string (M.B (M.V b)))),(1,12,.is (.c (.bool false))),(1,17,.is (.c (.bool false))),(3,2,.is (.c (.bool true))),(4,1,.is (.c (.bool true)))]) (sb:=[]) (by kernel_rfl) (hC (rbarer_k (a:=a)) (hP (isB h0) (hC (rbarer_k (a:=b)) (hP (isB h1) (hP (isB h2) (hP (isB h3) (hP (isB h4) hN)))))))
theorem fine5 {n:Bool} {a b:ByteArray} {K:Nat} (ha:a.size≤K) (hb:b.size≤K) (k1:K≤1000000000) (h0:(!ByteArray.toList (M.B (M.V a))==ByteArray.toList a)=false) (h1:(!ByteArray.toList (M.B (M.V b))==ByteArray.toList b)=false) (h2:(ByteArray.toList b==ByteArray.toList { data:=#[] })=false) (h3:(ByteArray.toList a==ByteArray.toList { data:=#[] })=true) (h4:n=false):CSpec Tryd.prog 78 #[(rv n a b)] (.bool (ByteArray.toList b==ByteArray.toList { data:=#[(1:UInt8)] })):=by
 exact fn_ok Tryd.func78 (sc:=[(1,2,.fix (.string (M.B (M.V a)))),(1,5,.is (.c (.bool false))),(1,9,.fix (.string (M.B (M.V b)))),(1,12,.is (.c (.bool false))),(1,17,.is (.c (.bool false))),(3,2,.is (.c (.bool true))),(4,1,.is (.c (.bool false)))]) (sb:=[]) (by kernel_rfl) (hC (rbarer_k (a:=a)) (hP (isB h0) (hC (rbarer_k (a:=b)) (hP (isB h1) (hP (isB h2) (hP (isB h3) (hP (isB h4) hN)))))))
theorem fine6 {n:Bool} {a b:ByteArray} {K:Nat} (ha:a.size≤K) (hb:b.size≤K) (k1:K≤1000000000) (h0:(!ByteArray.toList (M.B (M.V a))==ByteArray.toList a)=false) (h1:(!ByteArray.toList (M.B (M.V b))==ByteArray.toList b)=false) (h2:(ByteArray.toList b==ByteArray.toList { data:=#[] })=false) (h3:(ByteArray.toList a==ByteArray.toList { data:=#[] })=false):CSpec Tryd.prog 78 #[(rv n a b)] (.bool (ByteArray.toList (M.B (Nat.gcd (M.V a) (M.V b)))==ByteArray.toList { data:=#[(1:UInt8)] })):=by
 exact fn_ok Tryd.func78 (sc:=[(1,2,.fix (.string (M.B (M.V a)))),(1,5,.is (.c (.bool false))),(1,9,.fix (.string (M.B (M.V b)))),(1,12,.is (.c (.bool false))),(1,17,.is (.c (.bool false))),(3,2,.is (.c (.bool false))),(5,4,.fix (.string (M.B (Nat.gcd (M.V a) (M.V b)))))]) (sb:=[]) (by kernel_rfl) (hC (rbarer_k (a:=a)) (hP (isB h0) (hC (rbarer_k (a:=b)) (hP (isB h1) (hP (isB h2) (hP (isB h3) (hC (rcommonr_k (a:=a) (b:=b) (by omega) (by omega)) hN)))))))
theorem str_eq (a b:ByteArray):(a.toList==b.toList)=decide (a=b):=by
 have:=str_neq a b
 by_cases h:a=b
 ·subst h; simp
 rw [decide_eq_true h] at this
 rw [decide_eq_false h]
 simpa using this
open Classical in
theorem fine_k {n:Bool} {a b:ByteArray} {x:Rat} {K:Nat} (h:IsR n a b x K) (k1:K≤1000000000):CSpec Tryd.prog 78 #[rv n a b] (.bool (gd n a b)):=by
 have ha:=h.sa
 have hb:=h.sb
 unfold gd
 by_cases la:M.B (M.V a)=a
 case neg=>rw [decide_eq_false (fun h=>la h.la)]; exact fine1 ha hb k1 (by rw [str_neq]; exact decide_eq_true la)
 have g0:(!(M.B (M.V a)).toList==a.toList)=false:=by rw [str_neq]; exact decide_eq_false (fun h=>h la)
 by_cases lb:M.B (M.V b)=b
 case neg=>rw [decide_eq_false (fun h=>lb h.lb)]; exact fine2 ha hb k1 g0 (by rw [str_neq]; exact decide_eq_true lb)
 have g1:(!(M.B (M.V b)).toList==b.toList)=false:=by rw [str_neq]; exact decide_eq_false (fun h=>h lb)
 by_cases b0:b=⟨#[]⟩
 ·rw [decide_eq_false (fun h=>h.nz (by rw [b0]; rfl))]
  exact fine3 ha hb k1 g0 g1 (by rw [str_eq]; exact decide_eq_true b0)
 have g2:(b.toList==ByteArray.toList ⟨#[]⟩)=false:=by rw [str_eq]; exact decide_eq_false b0
 have nz:M.V b≠0:=fun h=>b0 (nil_of lb h)
 by_cases a0:a=⟨#[]⟩
 ·have va:M.V a=0:=by rw [a0]; rfl
  have g3:(a.toList==ByteArray.toList ⟨#[]⟩)=true:=by rw [str_eq]; exact decide_eq_true a0
  cases n with
  | true =>
    rw [decide_eq_false (fun h=>by have:=h.sg va; cases this)]
    exact fine4 ha hb k1 g0 g1 g2 g3 rfl
  | false =>
    refine cbool (fine5 ha hb k1 g0 g1 g2 g3 rfl) ?_
    rw [str_eq]
    refine decide_eq_decide.2 ⟨fun h1=>⟨nz,la,lb,by rw [va,h1]; rfl,fun _=>rfl⟩,fun h=>?_⟩
    have:=h.red
    rw [va,Nat.gcd_zero_left] at this
    exact (one_of lb).2 this
 have g3:(a.toList==ByteArray.toList ⟨#[]⟩)=false:=by rw [str_eq]; exact decide_eq_false a0
 refine cbool (fine6 ha hb k1 g0 g1 g2 g3) ?_
 rw [str_eq]
 refine decide_eq_decide.2 ⟨fun h1=>⟨nz,la,lb,B_is_one.1 h1,fun h=>(a0 (nil_of la h)).elim⟩,fun h=>B_is_one.2 h.red⟩
theorem qof1 {n:Bool} {a b:ByteArray} {x:Rat} {K:Nat} (h:IsR n a b x K) (k1:K≤1000000000) (h0:gd n a b=true):CSpec Tryd.prog 32 #[(rv n a b)] (rv n a b):=by
 exact fn_ok Tryd.func32 (sc:=[(1,1,.fix (.bool true))]) (sb:=[]) (by kernel_rfl) (hC (cbool (fine_k h k1) h0) hN)
theorem qof2 {n:Bool} {a b:ByteArray} {x:Rat} {K:Nat} (h:IsR n a b x K) (k1:K≤1000000000) (h0:gd n a b=false):CSpec Tryd.prog 32 #[(rv n a b)] (ag [[.bool false],[.string ({ data:=#[] })],[.string ({ data:=#[(1:UInt8)] })]]):=by
 exact fn_ok Tryd.func32 (sc:=[(1,1,.fix (.bool false))]) (sb:=[]) (by kernel_rfl) (hC (cbool (fine_k h k1) h0) hN)
theorem qof_k {n:Bool} {a b:ByteArray} {x:Rat} {K:Nat} (h:IsR n a b x K) (k1:K≤1000000000):CSpec Tryd.prog 32 #[rv n a b] (Rv x):=by
 cases hg:gd n a b with
 | true =>
   have:=qof1 h k1 hg
   rw [gd_can hg,h.eq] at this
   rwa [gd_can hg,h.eq]
 | false =>
   have e:x=0:=by rw [← h.eq]; exact gd_not hg
   rw [e,Rv_zero]
   exact qof2 h k1 hg
section
variable {s t:Bool} {k d l e K L D E:Nat}
theorem gcdn_s (h:SzN d L) (hd:d≠0):SzN (Nat.gcd k d) L:=Nat.lt_of_le_of_lt (Nat.gcd_le_right _ (by omega)) h
end
theorem rat1 {s:Bool} {k d K D:Nat} (h1':SzN k K) (h2':SzN d D) (k1:K+D≤2000000000) (hd:d≠0) (h0:(ByteArray.toList (M.B k)==ByteArray.toList { data:=#[] })=true):CSpec Tryd.prog 84 #[(rv s (M.B k) (M.B d))] (ag [[.bool false],[.string ({ data:=#[] })],[.string ({ data:=#[(1:UInt8)] })]]):=by
 exact fn_ok Tryd.func84 (sc:=[(1,2,.fix (.string (M.B k))),(1,3,.is (.c (.bool true)))]) (sb:=[]) (by kernel_rfl) (hC (rbare_k (k:=k)) (hP (isB h0) hN))
theorem rat2 {s:Bool} {k d K D:Nat} (h1':SzN k K) (h2':SzN d D) (k1:K+D≤2000000000) (hd:d≠0) (h0:(ByteArray.toList (M.B k)==ByteArray.toList { data:=#[] })=false) (h2:Nat.gcd k d≠(0:Nat)):CSpec Tryd.prog 84 #[(rv s (M.B k) (M.B d))] (ag [[.bool s],[.string (M.B (k/Nat.gcd k d))],[.string (M.B (d/Nat.gcd k d))]]):=by
 have s1:=(gcdn_s (k:=k) h2' hd)
 exact fn_ok Tryd.func84 (sc:=[(1,2,.fix (.string (M.B k))),(1,3,.is (.c (.bool false))),(3,4,.fix (.string (M.B (Nat.gcd k d)))),(4,3,.fix (.tuple #[.string (M.B (k/Nat.gcd k d)),.string (M.B (k%Nat.gcd k d))])),(5,3,.fix (.tuple #[.string (M.B (d/Nat.gcd k d)),.string (M.B (d%Nat.gcd k d))]))]) (sb:=[]) (by kernel_rfl) (hC (rbare_k (k:=k)) (hP (isB h0) (hC (rcommon_k h1' h2' k1) (hC (rshare_k h1' s1 (by omega) h2) (hC (rshare_k h2' s1 (by omega) h2) hN)))))
theorem rat_k {s:Bool} {k d K D:Nat} (h1':SzN k K) (h2':SzN d D) (k1:K+D≤2000000000) (hd:d≠0):CSpec Tryd.prog 84 #[rv s (M.B k) (M.B d)] (Rv (mkRat (sgn s k) d)):=by
 by_cases h:k=0
 ·have e:mkRat (sgn s k) d=0:=(Rat.mkRat_eq_zero hd).2 (by rw [h]; cases s<;>rfl)
  rw [e,Rv_zero]
  exact rat1 h1' h2' k1 hd (by rw [str_eq]; exact decide_eq_true (B_nil h))
 rw [rv_mk s k d h hd]
 exact rat2 h1' h2' k1 hd (by rw [str_eq]; exact decide_eq_false (B_ne h)) (fun hg=>h (Nat.eq_zero_of_gcd_eq_zero_left hg))
end Go.Proofs.YtkpeembfagcpcaaDoor.G
end
