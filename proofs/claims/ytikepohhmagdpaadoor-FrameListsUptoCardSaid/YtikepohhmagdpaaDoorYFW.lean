import Derived.Test.YtikepohhmagdpaaDoorYBA
import Derived.Test.YtikepohhmagdpaaDoorYU5
import Derived.Test.YtikepohhmagdpaaDoorYOQ
section
namespace Go.Proofs.YtikepohhmagdpaaDoor.G
open Go.Proofs.YtikepohhmagdpaaDoor.U Go.RowKit
set_option linter.unusedVariables false
set_option maxRecDepth 100000
theorem nv_cons (e:List Value) (B:List (List Value)):nv (e :: B) = e.map V.c ++ nv B:=by simp [nv]
theorem nv_len {w:Nat}:∀ {B:List (List Value)},(∀ e ∈ B,e.length = w) → (nv B).length = w * B.length
  | [],_=>by simp [nv]
  | e :: B,h=>by
    rw [nv_cons,List.length_append,nv_len fun x hx=>h x (List.mem_cons_of_mem _ hx),List.length_map,h e List.mem_cons_self,List.length_cons,Nat.mul_succ]
    omega
theorem nv_at {w:Nat}:∀ {B:List (List Value)} {i:Nat} {e:List Value},(∀ e ∈ B,e.length = w) → B[i]? = some e → ((nv B).drop (i * w)).take w = e.map V.c
  | [],i,e,_,h=>by simp at h
  | y :: B,0,e,hw,h=>by
    simp only [List.getElem?_cons_zero,Option.some.injEq] at h
    subst h
    rw [nv_cons,Nat.zero_mul,List.drop_zero,List.take_append_of_le_length (by rw [List.length_map,hw y List.mem_cons_self]; exact Nat.le_refl _),List.take_of_length_le (by rw [List.length_map,hw y List.mem_cons_self]; exact Nat.le_refl _)]
  | y :: B,i + 1,e,hw,h=>by
    have hl:=hw y List.mem_cons_self
    have e0:(y.map V.c ++ nv B).drop w = nv B:=by
      have hm:(y.map V.c).length = w:=by rw [List.length_map,hl]
      rw [← hm]
      exact List.drop_left
    rw [nv_cons,show (i + 1) * w = w + i * w by rw [Nat.succ_mul,Nat.add_comm],← List.drop_drop,e0]
    exact nv_at (fun x hx=>hw x (List.mem_cons_of_mem _ hx)) (by simpa using h)
theorem splice_mid:∀ (vs A M C:List V),M.length = vs.length → splice (A ++ (M ++ C)) A.length vs = A ++ (vs ++ C)
  | [],A,M,C,h=>by
    obtain rfl:M = []:=List.eq_nil_of_length_eq_zero h
    rfl
  | v :: r,A,[],C,h=>by simp at h
  | v :: r,A,m :: M,C,h=>by
    have h2:M.length = r.length:=by simpa using h
    have e:(A ++ (m :: M ++ C)).set A.length v = (A ++ [v]) ++ (M ++ C):=by
      rw [List.set_append_right _ _ (Nat.le_refl _),Nat.sub_self]
      simp
    have:=splice_mid r (A ++ [v]) M C h2
    rw [List.length_append] at this
    unfold splice
    rw [e]
    simpa using this
theorem nv_append (A B:List (List Value)):nv (A ++ B) = nv A ++ nv B:=by simp [nv]
theorem nv_set {w:Nat} {B:List (List Value)} {i:Nat} {e:List Value} (hw:∀ e ∈ B,e.length = w) (he:e.length = w) (hi:i < B.length):splice (nv B) (i * w) (e.map V.c) = nv (B.set i e):=by
  have h1:B = B.take i ++ (B[i] :: B.drop (i + 1)):=by rw [← List.drop_eq_getElem_cons hi,List.take_append_drop]
  have h2:B.set i e = B.take i ++ (e :: B.drop (i + 1)):=List.set_eq_take_append_cons_drop.trans (by rw [if_pos hi])
  have hlen:(nv (B.take i)).length = i * w:=by
    rw [nv_len fun x hx=>hw x (List.mem_of_mem_take hx),List.length_take,Nat.min_eq_left (by omega),Nat.mul_comm]
  rw [h2,nv_append,nv_cons]
  conv=>lhs; rw [h1,nv_append,nv_cons,← hlen]
  exact splice_mid _ _ _ _ (by rw [List.length_map,List.length_map,he]; exact hw _ (List.getElem_mem hi))
theorem nv_flat (B:List (List Value)):∀ v:V,v ∈ nv B → v.isC = true:=by
  intro v hv
  obtain ⟨u,_,rfl⟩:=List.mem_map.1 hv
  rfl
theorem nv_rep (z:List Value) (n:Nat):(List.replicate n (z.map V.c)).flatten = nv (List.replicate n z):=by
  induction n with
  | zero=>rfl
  | succ n ih=>rw [List.replicate_succ,List.replicate_succ,nv_cons,List.flatten_cons,ih]
theorem inc_j {i n:Nat} (h:i < n) (hn:n < 4611686018427387904):V.c (.int .i64 (IntKind.wrap .i64 ((i:Int) + 1))) = V.c (.int .i64 ((i + 1:Nat):Int)):=by
  congr 2
  rw [IntKind.wrap_i64]
  push_cast
  omega
structure VR where
  n1:Bool
  a1:ByteArray
  b1:ByteArray
  n2:Bool
  a2:ByteArray
  b2:ByteArray
def VR.c (v:VR):List Value:=[.bool v.n1,.string v.a1,.string v.b1,.bool v.n2,.string v.a2,.string v.b2]
noncomputable def VR.x (v:VR):Rat:=qv v.n1 v.a1 v.b1
noncomputable def VR.y (v:VR):Rat:=qv v.n2 v.a2 v.b2
structure VR.Ok (v:VR):Prop where
  s1:v.a1.size ≤ 1048576
  s2:v.b1.size ≤ 1048576
  s3:v.a2.size ≤ 1048576
  s4:v.b2.size ≤ 1048576
theorem VR.Ok.r1 {v:VR} (h:v.Ok):IsR v.n1 v.a1 v.b1 v.x 1048576:=IsR.raw _ _ _ h.s1 h.s2 (by decide)
theorem VR.Ok.r2 {v:VR} (h:v.Ok):IsR v.n2 v.a2 v.b2 v.y 1048576:=IsR.raw _ _ _ h.s3 h.s4 (by decide)
noncomputable def po (x3 x4:Rat) (g:Bool) (x5:Rat) (v:VR):List Value:=rc (x3 + (v.x * cosT g x5 - v.y * sinT g x5)) ++ rc (x4 + (v.x * sinT g x5 + v.y * cosT g x5))
def z6:List Value:=[.bool false,.string ⟨#[]⟩,.string ⟨#[]⟩,.bool false,.string ⟨#[]⟩,.string ⟨#[]⟩]
noncomputable def outs (f:VR → List Value) (L:List VR) (i:Nat):List (List Value):=(L.take i).map f ++ List.replicate (L.length - i) z6
section
variable {f:VR → List Value} {L:List VR} {i:Nat} {v:VR}
theorem outs_w (hf:∀ v,(f v).length = 6):∀ e ∈ outs f L i,e.length = 6:=by
  intro e he
  rcases List.mem_append.1 he with h | h
  · obtain ⟨v,_,rfl⟩:=List.mem_map.1 h
    exact hf v
  rw [List.eq_of_mem_replicate h]
  rfl
theorem outs_len (hi:i ≤ L.length):(outs f L i).length = L.length:=by
  unfold outs
  rw [List.length_append,List.length_map,List.length_take,List.length_replicate]
  omega
theorem outs_set (hv:L[i]? = some v):(outs f L i).set i (f v) = outs f L (i + 1):=by
  obtain ⟨hi,rfl⟩:=List.getElem?_eq_some_iff.1 hv
  unfold outs
  have hl:((L.take i).map f).length = i:=by rw [List.length_map,List.length_take]; omega
  obtain ⟨k,hk⟩:∃ k,L.length - i = k + 1:=⟨L.length - i - 1,by omega⟩
  have e1:L.take (i + 1) = L.take i ++ [L[i]]:=by
    rw [List.take_add_one,List.getElem?_eq_getElem hi]
    rfl
  rw [List.set_append_right _ _ (by omega),hl,Nat.sub_self,hk,List.replicate_succ,List.set_cons_zero,e1,List.map_append,List.append_assoc,show L.length - (i + 1) = k by omega]
  rfl
theorem outs_all:outs f L L.length = L.map f:=by
  unfold outs
  rw [Nat.sub_self,List.take_length]
  simp
end
end Go.Proofs.YtikepohhmagdpaaDoor.G
end
section
namespace Go.Proofs.YtikepohhmagdpaaDoor.G
open Go.Proofs.YtikepohhmagdpaaDoor.U Go.RowKit
set_option linter.unusedVariables false
set_option maxRecDepth 100000
abbrev fC (n3:Bool) (a3 b3:ByteArray) (n4:Bool) (a4 b4:ByteArray) (g:Bool) (n5:Bool) (a5 b5:ByteArray):List V:=nv [rr n3 a3 b3,rr n4 a4 b4,[.bool g],rr n5 a5 b5]
theorem po_len {x3 x4:Rat} {g:Bool} {x5:Rat} (v:VR):(po x3 x4 g x5 v).length = 6:=rfl
theorem vc_w {L:List VR}:∀ e ∈ L.map VR.c,e.length = 6:=by
  intro e he
  obtain ⟨v,_,rfl⟩:=List.mem_map.1 he
  rfl
section
variable {n3:Bool} {a3 b3:ByteArray} {n4:Bool} {a4 b4:ByteArray} {g:Bool} {n5:Bool} {a5 b5:ByteArray} {x3 x4 x5:Rat} {L:List VR} {i n c:Nat} {v:VR}
def fuS (F Lc:List V) (O:List V) (n c i:Nat):St:=⟨slots 26 0 [(2,.p 1 0),(5,.sl 2 0 n n),(11,.sl 0 0 n c),(12,vI (n:Nat)),(13,vI (i:Nat))],[some ⟨false,Lc⟩,some ⟨true,F⟩,some ⟨true,O⟩]⟩
theorem fl_go (hv:L[i]? = some v) (ok:v.Ok) (h3:IsR n3 a3 b3 x3 1048576) (h4:IsR n4 a4 b4 x4 1048576) (h5:IsR n5 a5 b5 x5 1048576) (hn:L.length < 4611686018427387904) :
    TSpec Tryd.prog (loopOf Tryd.f36 0) (fuS (fC n3 a3 b3 n4 a4 b4 g n5 a5 b5) (nv (L.map VR.c)) (nv (outs (po x3 x4 g x5) L i)) L.length c i) .normal (fuS (fC n3 a3 b3 n4 a4 b4 g n5 a5 b5) (nv (L.map VR.c)) (nv (outs (po x3 x4 g x5) L (i + 1))) L.length c (i + 1)):=by
  obtain ⟨hi,_⟩:=List.getElem?_eq_some_iff.1 hv
  have hw:=outs_w (f:=po x3 x4 g x5) (L:=L) (i:=i) po_len
  have hl:=outs_len (f:=po x3 x4 g x5) (Nat.le_of_lt hi)
  have e:splice (nv (outs (po x3 x4 g x5) L i)) (0 + Int.toNat (i:Int) * 6) ((po x3 x4 g x5 v).map V.c) = nv (outs (po x3 x4 g x5) L (i + 1)):=by
    rw [Int.toNat_natCast,Nat.zero_add,nv_set hw rfl (by omega),outs_set hv]
  have hr:((nv (L.map VR.c)).drop (0 + Int.toNat (i:Int) * 6)).take 6 = v.c.map V.c ∧ v.c.toArray.size = 6:=by
    rw [Int.toNat_natCast,Nat.zero_add]
    exact ⟨nv_at vc_w (by rw [List.getElem?_map,hv]; rfl),rfl⟩
  have ho:0 + Int.toNat (i:Int) * 6 + 6 ≤ (nv (outs (po x3 x4 g x5) L i)).length:=by
    rw [nv_len hw,hl,Int.toNat_natCast]
    omega
  rw [← e]
  exact tspec_dim (sc:=[(3,0,.is vT),(4,2,.fix (.agg v.c.toArray)),(5,4,.fix (ag [rc (x3 + (v.x * cosT g x5 - v.y * sinT g x5)),rc (x4 + (v.x * sinT g x5 + v.y * cosT g x5))])),(5,6,.fix undef),(6,0,.is (vI ((i + 1:Nat):Int)))]) (sb:=[]) (mask 26 0 [2,5,11,12,13]) 3 (by kernel_rfl)
    (hP (isB (decide_eq_true (show (i:Int) < (L.length:Int) by omega))) (hP (show (0:Int) ≤ (i:Int) ∧ (i:Int) < (L.length:Int) by omega) (hP hr (hC (fput_k (g:=g) ok.r1 (by decide) ok.r2 (by decide) h3 (by decide) h4 (by decide) h5 (by decide))
      (hP (show (0:Int) ≤ (i:Int) ∧ (i:Int) < (L.length:Int) by omega) (hP ho (hP (inc_j hi hn) hN)))))))
    ⟨nv_flat _,nv_flat _,by rw [e]; exact nv_flat _,trivial⟩
theorem fl_end {F Lc O:List V} (f1:∀ v:V,v ∈ F → v.isC = true) (f2:∀ v:V,v ∈ Lc → v.isC = true) (f3:∀ v:V,v ∈ O → v.isC = true):TSpec Tryd.prog (loopOf Tryd.f36 0) (fuS F Lc O n c n) (.exit 0) (fuS F Lc O n c n) :=
  tspec_dim (sc:=[(3,0,.is vF)]) (sb:=[]) (mask 26 0 [2,5,11,12,13]) 3 (by kernel_rfl) (hP (isB (decide_eq_false (show ¬ (n:Int) < (n:Int) by omega))) hN) ⟨f2,f1,f3,trivial⟩
theorem fl_loop (h3:IsR n3 a3 b3 x3 1048576) (h4:IsR n4 a4 b4 x4 1048576) (h5:IsR n5 a5 b5 x5 1048576) (hn:L.length < 4611686018427387904) (ok:∀ v ∈ L,v.Ok):∀ (d i:Nat),i + d = L.length →
    Rounds Tryd.prog (loopOf Tryd.f36 0) 0 (fuS (fC n3 a3 b3 n4 a4 b4 g n5 a5 b5) (nv (L.map VR.c)) (nv (outs (po x3 x4 g x5) L i)) L.length c i) .normal (fuS (fC n3 a3 b3 n4 a4 b4 g n5 a5 b5) (nv (L.map VR.c)) (nv (L.map (po x3 x4 g x5))) L.length c L.length)
  | 0,i,h=>by
    have:i = L.length:=by omega
    subst this
    rw [outs_all]
    exact .stop (fl_end (nv_flat _) (nv_flat _) (nv_flat _))
  | d + 1,i,h=>by
    have hv:L[i]? = some (L[i]'(by omega)):=List.getElem?_eq_getElem (by omega)
    exact .step (fl_go hv (ok _ (List.getElem_mem _)) h3 h4 h5 hn) (fl_loop h3 h4 h5 hn ok d (i + 1) (by omega))
theorem flist_c (h3:IsR n3 a3 b3 x3 1048576) (h4:IsR n4 a4 b4 x4 1048576) (h5:IsR n5 a5 b5 x5 1048576) (hn:L.length ≤ 1048576) (ok:∀ v ∈ L,v.Ok) :
    FSpec Tryd.prog 36 [.c (ag [rr n3 a3 b3,rr n4 a4 b4,[.bool g],rr n5 a5 b5]),.sl 0 0 L.length c] [some ⟨false,nv (L.map VR.c)⟩] (.sl 1 0 L.length L.length) [some ⟨false,nv (L.map VR.c)⟩,some ⟨true,nv (L.map (po x3 x4 g x5))⟩]:=by
  have hb:TSpec Tryd.prog (.block 0 (.loop (loopOf Tryd.f36 0))) (fuS (fC n3 a3 b3 n4 a4 b4 g n5 a5 b5) (nv (L.map VR.c)) (List.replicate (Int.toNat (L.length:Int)) (z6.map V.c)).flatten L.length c 0) .normal (fuS (fC n3 a3 b3 n4 a4 b4 g n5 a5 b5) (nv (L.map VR.c)) (nv (L.map (po x3 x4 g x5))) L.length c L.length):=by
    rw [nv_rep,Int.toNat_natCast]
    exact (fl_loop h3 h4 h5 (by omega) ok L.length 0 (by omega)).spec
  have hf:Flat [some ⟨false,nv (L.map VR.c)⟩,some ⟨true,fC n3 a3 b3 n4 a4 b4 g n5 a5 b5⟩,some ⟨true,(List.replicate (Int.toNat (L.length:Int)) (z6.map V.c)).flatten⟩]:=⟨nv_flat _,nv_flat _,by rw [nv_rep]; exact nv_flat _,trivial⟩
  exact fspec_ok Tryd.func36 (sc:=[(0,99999,.mask (mask 26 0 [2,5,11,12,13]))]) (sb:=[(0,.normal,fuS (fC n3 a3 b3 n4 a4 b4 g n5 a5 b5) (nv (L.map VR.c)) (nv (L.map (po x3 x4 g x5))) L.length c L.length)]) (keep:=[2]) (by kernel_rfl)
    (hP (show Flat [some ⟨false,nv (L.map VR.c)⟩,some ⟨true,nv (L.map (po x3 x4 g x5))⟩] from ⟨nv_flat _,nv_flat _,trivial⟩)
    (hP (show (0:Int) ≤ (L.length:Int) ∧ (L.length:Int) ≤ (L.length:Int) ∧ 80 * (L.length:Int) ≤ 281474976710656 ∧ (L.length:Int) < 9223372036854775808 by omega) (hP hf (hP hb hN))))
end
end Go.Proofs.YtikepohhmagdpaaDoor.G
end
section
namespace Go.Proofs.YtikepohhmagdpaaDoor.G
open Go.Proofs.YtikepohhmagdpaaDoor.U Go.RowKit
set_option linter.unusedVariables false
set_option maxRecDepth 100000
section
variable {n3:Bool} {a3 b3:ByteArray} {n4:Bool} {a4 b4:ByteArray} {g:Bool} {n5:Bool} {a5 b5:ByteArray} {x3 x4 x5:Rat} {L:List VR} {i n c:Nat} {v:VR}
def guS (F Lc:List V) (O:List V) (n c i:Nat):St:=⟨slots 47 0 [(2,.p 1 0),(5,.sl 2 0 n n),(31,.sl 0 0 n c),(32,vI (n:Nat)),(33,vI (i:Nat))],[some ⟨false,Lc⟩,some ⟨true,F⟩,some ⟨true,O⟩]⟩
theorem gu_go (hv:L[i]? = some v) (ok:v.Ok) (h3:IsR n3 a3 b3 x3 1048576) (h4:IsR n4 a4 b4 x4 1048576) (h5:IsR n5 a5 b5 x5 1048576) (hn:L.length < 4611686018427387904) :
    TSpec Tryd.prog (loopOf Tryd.f4 0) (guS (fC n3 a3 b3 n4 a4 b4 g n5 a5 b5) (nv (L.map VR.c)) (nv (L.map (po x3 x4 g x5))) L.length c i) .normal (guS (fC n3 a3 b3 n4 a4 b4 g n5 a5 b5) (nv (L.map VR.c)) (nv (L.map (po x3 x4 g x5))) L.length c (i + 1)):=by
  obtain ⟨hi,_⟩:=List.getElem?_eq_some_iff.1 hv
  have hr:((nv (L.map VR.c)).drop (0 + Int.toNat (i:Int) * 6)).take 6 = v.c.map V.c ∧ v.c.toArray.size = 6:=by
    rw [Int.toNat_natCast,Nat.zero_add]
    exact ⟨nv_at vc_w (by rw [List.getElem?_map,hv]; rfl),rfl⟩
  have hq:((nv (L.map (po x3 x4 g x5))).drop (0 + Int.toNat (i:Int) * 6)).take 6 = (po x3 x4 g x5 v).map V.c ∧ (po x3 x4 g x5 v).toArray.size = 6:=by
    rw [Int.toNat_natCast,Nat.zero_add]
    refine ⟨nv_at (fun e he=>?_) (by rw [List.getElem?_map,hv]; rfl),rfl⟩
    obtain ⟨v,_,rfl⟩:=List.mem_map.1 he
    rfl
  exact tspec_dim (sc:=[(7,0,.is vT),(8,2,.fix (.agg v.c.toArray)),(9,3,.fix (.agg (po x3 x4 g x5 v).toArray)),(9,6,.fix (ag [rc (x3 + (v.x * cosT g x5 - v.y * sinT g x5)),rc (x4 + (v.x * sinT g x5 + v.y * cosT g x5))])),(9,7,.eqs),(11,0,.is (vI ((i + 1:Nat):Int)))]) (sb:=[]) (mask 47 0 [2,5,31,32,33]) 3 (by kernel_rfl)
    (hP (isB (decide_eq_true (show (i:Int) < (L.length:Int) by omega))) (hP (show (0:Int) ≤ (i:Int) ∧ (i:Int) < (L.length:Int) by omega) (hP hr (hP (show (0:Int) ≤ (i:Int) ∧ (i:Int) < (L.length:Int) by omega) (hP hq
      (hC (moved_k (g:=g) ok.r1 (by decide) ok.r2 (by decide) h3 (by decide) h4 (by decide) h5 (by decide)) (hP (show Value.agg (po x3 x4 g x5 v).toArray = ag [rc (x3 + (v.x * cosT g x5 - v.y * sinT g x5)),rc (x4 + (v.x * sinT g x5 + v.y * cosT g x5))] from rfl) (hP (inc_j hi hn) hN))))))))
    ⟨nv_flat _,nv_flat _,nv_flat _,trivial⟩
theorem gu_end {F Lc O:List V} (f1:∀ v:V,v ∈ F → v.isC = true) (f2:∀ v:V,v ∈ Lc → v.isC = true) (f3:∀ v:V,v ∈ O → v.isC = true):TSpec Tryd.prog (loopOf Tryd.f4 0) (guS F Lc O n c n) (.exit 0) (guS F Lc O n c n) :=
  tspec_dim (sc:=[(7,0,.is vF)]) (sb:=[]) (mask 47 0 [2,5,31,32,33]) 3 (by kernel_rfl) (hP (isB (decide_eq_false (show ¬ (n:Int) < (n:Int) by omega))) hN) ⟨f2,f1,f3,trivial⟩
theorem gu_loop (h3:IsR n3 a3 b3 x3 1048576) (h4:IsR n4 a4 b4 x4 1048576) (h5:IsR n5 a5 b5 x5 1048576) (hn:L.length < 4611686018427387904) (ok:∀ v ∈ L,v.Ok):∀ (d i:Nat),i + d = L.length →
    Rounds Tryd.prog (loopOf Tryd.f4 0) 0 (guS (fC n3 a3 b3 n4 a4 b4 g n5 a5 b5) (nv (L.map VR.c)) (nv (L.map (po x3 x4 g x5))) L.length c i) .normal (guS (fC n3 a3 b3 n4 a4 b4 g n5 a5 b5) (nv (L.map VR.c)) (nv (L.map (po x3 x4 g x5))) L.length c L.length)
  | 0,i,h=>by
    have:i = L.length:=by omega
    subst this
    exact .stop (gu_end (nv_flat _) (nv_flat _) (nv_flat _))
  | d + 1,i,h=>by
    have hv:L[i]? = some (L[i]'(by omega)):=List.getElem?_eq_getElem (by omega)
    exact .step (gu_go hv (ok _ (List.getElem_mem _)) h3 h4 h5 hn) (gu_loop h3 h4 h5 hn ok d (i + 1) (by omega))
theorem x_three:(1:Rat) + (2 * cosT false 0 - 0 * sinT false 0) = 3:=by decide +kernel
theorem frameLists_w (h3:IsR n3 a3 b3 x3 1048576) (h4:IsR n4 a4 b4 x4 1048576) (h5:IsR n5 a5 b5 x5 1048576) (hn:L.length ≤ 1048576) (ok:∀ v ∈ L,v.Ok) :
    FSpec Tryd.prog 4 [.c (ag [rr n3 a3 b3,rr n4 a4 b4,[.bool g],rr n5 a5 b5]),.sl 0 0 L.length c] [some ⟨false,nv (L.map VR.c)⟩] (.c (.bool true)) [some ⟨false,nv (L.map VR.c)⟩]:=by
  have hl:L.length < 4611686018427387904:=by omega
  have f0:Flat [some ⟨false,nv (L.map VR.c)⟩]:=⟨nv_flat _,trivial⟩
  have f1:Flat [some ⟨false,nv (L.map VR.c)⟩,some ⟨true,nv (L.map (po x3 x4 g x5))⟩]:=⟨nv_flat _,nv_flat _,trivial⟩
  have f2:Flat [some ⟨false,nv (L.map VR.c)⟩,some ⟨true,fC n3 a3 b3 n4 a4 b4 g n5 a5 b5⟩,some ⟨true,nv (L.map (po x3 x4 g x5))⟩]:=⟨nv_flat _,nv_flat _,nv_flat _,trivial⟩
  exact fspec_ok Tryd.func4 (sc := [(1,0,.fix (.bool true)),(1,3,.fix (Rv 1)),(1,4,.fix (Rv 0)),(1,7,.fix (Rv 2)),(1,8,.fix (Rv 0)),(1,10,.fix (ag [rc (1 + (2 * cosT false 0 - 0 * sinT false 0)), rc (0 + (2 * sinT false 0 + 0 * cosT false 0))])),(1,12,.fix (Rv 3)),(1,13,.eqs),
      (3,2,.sub false [0] (.sl 1 0 L.length L.length) (some [some ⟨false,nv (L.map VR.c)⟩,some ⟨true,nv (L.map (po x3 x4 g x5))⟩])),(4,4,.is vF),(0,99999,.mask (mask 47 0 [2,5,31,32,33]))])
    (sb:=[(0,.normal,guS (fC n3 a3 b3 n4 a4 b4 g n5 a5 b5) (nv (L.map VR.c)) (nv (L.map (po x3 x4 g x5))) L.length c L.length)]) (keep:=[]) (by kernel_rfl)
    (hP f0 (hC turnBegun_k (hC ri1_k (hC ri0_k (hC ri2_k (hC ri0_k (hC (fput_k (g:=false) (isR_s sz2_s) (by decide) (isR_s sz0_s) (by decide) (isR_s sz1_s) (by decide) (isR_s sz0_s) (by decide) isR0_s (by decide))
      (hC (ri_k (n:=3) (by decide) (by decide)) (hP (show Value.agg (rc (1 + (2 * cosT false 0 - 0 * sinT false 0))).toArray = .agg (rc 3).toArray by rw [x_three]) (hF (flist_c (g:=g) (c:=c) h3 h4 h5 hn ok) (hP (And.intro f0 f1)
      (hP (isB (show (!decide ((L.length:Int) = (L.length:Int))) = false by simp)) (hP f2 (hP (gu_loop (g:=g) (L:=L) (c:=c) h3 h4 h5 hl ok L.length 0 (by omega)).spec hN))))))))))))))
theorem flist_none {ao:Option Addr} {c:Nat}:FSpec Tryd.prog 36 [.c (ag [rr n3 a3 b3,rr n4 a4 b4,[.bool g],rr n5 a5 b5]),.c (.slice ao 0 c)] [] (.sl 0 0 0 0) [some ⟨true,[]⟩] :=
  fspec_ok Tryd.func36 (sc:=[]) (sb:=[]) (keep:=[1]) (by kernel_rfl) (hP (show Flat [some ⟨true,[]⟩] from ⟨fun v hv=>(by cases hv),trivial⟩) (hP (show (0:Int) ≤ 0 ∧ (0:Int) ≤ 0 ∧ (80:Int) * 0 ≤ 281474976710656 ∧ (0:Int) < 9223372036854775808 by decide) hN))
theorem frameLists_none {ao:Option Addr} {c:Nat}:CSpec Tryd.prog 4 #[ag [rr n3 a3 b3,rr n4 a4 b4,[.bool g],rr n5 a5 b5],.slice ao 0 c] (.bool true) :=
  fn_ok Tryd.func4 (sc := [(1,0,.fix (.bool true)),(1,3,.fix (Rv 1)),(1,4,.fix (Rv 0)),(1,7,.fix (Rv 2)),(1,8,.fix (Rv 0)),(1,10,.fix (ag [rc (1 + (2 * cosT false 0 - 0 * sinT false 0)), rc (0 + (2 * sinT false 0 + 0 * cosT false 0))])),(1,12,.fix (Rv 3)),(1,13,.eqs),
      (3,2,.sub true [] (.sl 0 0 0 0) (some [some ⟨true,[]⟩]))]) (sb:=[]) (by kernel_rfl)
    (hC turnBegun_k (hC ri1_k (hC ri0_k (hC ri2_k (hC ri0_k (hC (fput_k (g:=false) (isR_s sz2_s) (by decide) (isR_s sz0_s) (by decide) (isR_s sz1_s) (by decide) (isR_s sz0_s) (by decide) isR0_s (by decide))
      (hC (ri_k (n:=3) (by decide) (by decide)) (hP (show Value.agg (rc (1 + (2 * cosT false 0 - 0 * sinT false 0))).toArray = .agg (rc 3).toArray by rw [x_three]) (hF (flist_none (n3:=n3) (a3:=a3) (b3:=b3) (n4:=n4) (a4:=a4) (b4:=b4) (g:=g) (n5:=n5) (a5:=a5) (b5:=b5) (ao:=ao) (c:=c)) hN)))))))))
theorem calls_read {P:Program} {f:FuncId} {x r:Value} {l:List Value} {n c b o:Nat} {W:World} (h:FSpec P f [.c x,.sl 0 0 n c] [some ⟨false,l.map V.c⟩] (.c r) [some ⟨false,l.map V.c⟩]) (hl:Laid W) (hb:b < W.heap.size)
    (hc:∀ k v,l[k]? = some v → W.cell? ⟨b,o + k,none⟩ = some v):Calls P f #[x,.slice (some ⟨b,o,none⟩) n c] W fun e w'=>e = .returned r ∧ Below W.heap.size W w':=by
  have rows:∀ i ri,row? [some (⟨false,l.map V.c⟩:U.Row)] i = some ri → i = 0 ∧ ri = ⟨false,l.map V.c⟩:=by
    intro i ri hi
    cases i with
    | zero=>cases hi; exact ⟨rfl,rfl⟩
    | succ i=>simp [row?] at hi
  have hm:Mem (fun _=>(b,o)) [some (⟨false,l.map V.c⟩:U.Row)] W:=by
    refine ⟨fun i r hi=>?_,fun i j ri rj hi hj ho=>?_,fun i r hi v hv=>?_⟩
    · obtain ⟨_,rfl⟩:=rows i r hi
      refine ⟨hb,fun k v hk=>?_,fun ho=>by cases ho⟩
      rw [List.getElem?_map,Option.map_eq_some_iff] at hk
      obtain ⟨u,hu,rfl⟩:=hk
      exact hc k u hu
    · obtain ⟨_,rfl⟩:=rows i ri hi
      cases ho
    obtain ⟨_,rfl⟩:=rows i r hi
    obtain ⟨u,_,rfl⟩:=List.mem_map.1 hv
    exact ⟨fun id hid=>(by cases hid),rfl⟩
  refine (h W (fun _=>(b,o)) hl (fun i ri hi ho=>by obtain ⟨_,rfl⟩:=rows i ri hi; cases ho) hm).mono fun e w' hw=>?_
  obtain ⟨β',_,_,rfl,_,hfr⟩:=hw
  refine ⟨rfl,hfr.os,hfr.tape,hfr.output,hfr.size,fun k hk=>hfr.block k hk ?_⟩
  rintro ⟨i,ri,hi,ho,_⟩
  obtain ⟨_,rfl⟩:=rows i ri hi
  cases ho
end
end Go.Proofs.YtikepohhmagdpaaDoor.G
end
section
namespace Go.Proofs.YtikepohhmagdpaaDoor.G
open Go.Proofs.YtikepohhmagdpaaDoor.U Go.RowKit
set_option linter.unusedVariables false
theorem vr_of:∀ (C:List (List Value)),(∀ c ∈ C,O.Fits [.b,.s,.s,.b,.s,.s] c ∧ O.vsum c ≤ 1048576) → ∃ L:List VR,C = L.map VR.c ∧ ∀ v ∈ L,v.Ok
  | [],_=>⟨[],rfl,fun v hv=>by cases hv⟩
  | c :: C,h=>by
    obtain ⟨L,rfl,ok⟩:=vr_of C fun x hx=>h x (List.mem_cons_of_mem _ hx)
    obtain ⟨hf,hs⟩:=h c List.mem_cons_self
    obtain ⟨n1,c1,rfl,f1⟩:=O.fits_b hf
    obtain ⟨a1,c2,rfl,f2⟩:=O.fits_s f1
    obtain ⟨b1,c3,rfl,f3⟩:=O.fits_s f2
    obtain ⟨n2,c4,rfl,f4⟩:=O.fits_b f3
    obtain ⟨a2,c5,rfl,f5⟩:=O.fits_s f4
    obtain ⟨b2,c6,rfl,f6⟩:=O.fits_s f5
    obtain rfl:=O.fits_nil f6
    simp only [O.vsum,O.vlen] at hs
    refine ⟨⟨n1,a1,b1,n2,a2,b2⟩ :: L,rfl,fun v hv=>?_⟩
    rcases List.mem_cons.1 hv with rfl | hv
    · exact ⟨by simp only; omega,by simp only; omega,by simp only; omega,by simp only; omega⟩
    exact ok v hv
theorem frameLists_law (n3:Bool) (a3 b3:ByteArray) (n4:Bool) (a4 b4:ByteArray) (g:Bool) (n5:Bool) (a5 b5:ByteArray) (ao:Option Addr) (len cap:Nat) (s3:a3.size ≤ 1048576) (t3:b3.size ≤ 1048576) (s4:a4.size ≤ 1048576) (t4:b4.size ≤ 1048576) (s5:a5.size ≤ 1048576) (t5:b5.size ≤ 1048576) (W:World) (hl:Laid W)
    (alt:len = 0 ∨ ∃ (b o:Nat) (C:List (List Value)),ao = some ⟨b,o,none⟩ ∧ b < W.heap.size ∧ C.length = len ∧ len ≤ 1048576 ∧ (∀ c ∈ C,O.Fits [.b,.s,.s,.b,.s,.s] c ∧ O.vsum c ≤ 1048576) ∧ ∀ k u,C.flatten[k]? = some u → W.cell? ⟨b,o + k,none⟩ = some u) :
    Calls Tryd.prog 4 #[ag [rr n3 a3 b3,rr n4 a4 b4,[.bool g],rr n5 a5 b5],.slice ao len cap] W fun e w'=>e = .returned (.bool true) ∧ Below W.heap.size W w':=by
  rcases alt with rfl | ⟨b,o,C,rfl,hb,rfl,hlen,hC,hc⟩
  · exact frameLists_none W hl
  obtain ⟨L,rfl,ok⟩:=vr_of C hC
  rw [List.length_map] at hlen ⊢
  exact calls_read (frameLists_w (IsR.raw n3 a3 b3 s3 t3 (by decide)) (IsR.raw n4 a4 b4 s4 t4 (by decide)) (IsR.raw n5 a5 b5 s5 t5 (by decide)) hlen ok) hl hb hc
end Go.Proofs.YtikepohhmagdpaaDoor.G
end
