import Derived.Test.YtjefpjajkbldpaaDoorYOP
import Derived.Deep.Slices
import Derived.Carry
namespace Go.Proofs.YtjefpjajkbldpaaDoor.O
open Go.ChangeShapes Go.WideShapes Go.ChangeAt Go.RowKit Go.Deep
set_option linter.unusedVariables false
theorem bulk_pos {H:Type} (d:DataW H):1≤Rows.uptoBulk d:=by
 cases d with
 | lit l=>cases l<;>simp [Rows.uptoBulk]
 | _=>simp [Rows.uptoBulk]
theorem bulk_mem {H:Type} {d:DataW H}:∀ {l:List (DataW H)},d∈l→Rows.uptoBulk d≤Rows.uptoBulkAll l
 | x::l,h=>by
   rcases List.mem_cons.1 h with rfl | h
   ·simp only [Rows.uptoBulkAll]; omega
   have:=bulk_mem h
   simp only [Rows.uptoBulkAll]; omega
theorem bulk_len {H:Type}:∀ (l:List (DataW H)),l.length≤Rows.uptoBulkAll l
 | []=>Nat.zero_le _
 | x::l=>by
   have:=bulk_len l
   have:=bulk_pos x
   simp only [Rows.uptoBulkAll,List.length_cons]; omega
theorem flat_get {α:Type} {w:Nat}:∀ (C:List (List α)),(∀ c∈C,c.length=w) → ∀ (k:Nat) (u:α),C.flatten[k]? = some u→0 < w ∧ ∃ c,C[k/w]? = some c∧c[k%w]? = some u
 | [],_,k,u,h=>by simp at h
 | c::C,hw,k,u,h=>by
   have hl:=hw c List.mem_cons_self
   rw [List.flatten_cons] at h
   by_cases hk:k < c.length
   ·rw [List.getElem?_append_left hk] at h
    have hp:0 < w:=by omega
    rw [Nat.div_eq_of_lt (by omega),Nat.mod_eq_of_lt (by omega)]
    exact ⟨hp,c,rfl,h⟩
   rw [List.getElem?_append_right (by omega)] at h
   obtain ⟨hp,c',h1,h2⟩:=flat_get C (fun x hx=>hw x (List.mem_cons_of_mem _ hx)) _ u h
   obtain ⟨j,hj⟩:∃ j,k=j+w:=⟨k - w,by omega⟩
   subst hj
   rw [hl,Nat.add_sub_cancel] at h1 h2
   refine ⟨hp,c',?_,?_⟩
   ·rw [Nat.add_div_right _ hp]
    simpa using h1
   rw [Nat.add_mod_right]
   exact h2
section
variable {H:Type} {enc:TypeId × Value→H} {P:Program} {w:World} {sp:Nat→Bool} {held:Bool}
theorem cell_spot {a:Addr} {v:Value} (h:w.cell? a=some v):a.spot=none∧a.block < w.heap.size:=by
 unfold World.cell? at h
 cases hb:w.heap[a.block]? with
 | none=>rw [hb] at h; cases h
 | some o =>
   refine ⟨?_,(Array.getElem?_eq_some_iff.1 hb).1⟩
   rw [hb] at h
   cases o with
   | cells c e f =>
     simp only at h
     cases hs:a.spot with
     | none=>rfl
     | some s=>rw [hs] at h; simp at h
   | _=>simp at h
theorem open_list {r:Reach} {b0:Nat} {t e:TypeId} {ls:List Lf} {n W:Nat} {v:Value} {d:DataW H} {p:List MemPlace} (ht:P.underlying t=some (.slice e)) (hl:lvs P n e=some ls) (hC:P.cellsOf e=W) (hW:0 < W)
 (hv:Value.okWide P w r b0 t v) (h:DataW.Trod enc P w 0 sp held t v d p) (hB:Rows.uptoBulk d≤1048576) :
 (∀ x∈p,x.block < w.heap.size) ∧ ∃ (ao:Option Addr) (len cap:Nat),v = .slice ao len cap∧(len=0 ∨ ∃ (b o:Nat) (C:List (List Value)),ao=some ⟨b,o,none⟩∧b < w.heap.size∧C.length=len∧len≤1048576 ∧
  (∀ c∈C,Fits ls c∧vsum c≤1048576) ∧ ∀ k u,C.flatten[k]? = some u→w.cell? ⟨b,o+k,none⟩=some u):=by
 obtain ⟨ao,len,cap,rfl⟩:=okWide_slice ht hv
 obtain ⟨fuel,hf⟩:=h
 rcases open_slice ht hf with ⟨h0,hx⟩ | ⟨a,len',cap',m,n',D,Pl,hcs,hb,hl1,hm,hmm,hx,hi⟩
 ·simp only [Prod.mk.injEq] at hx
  simp [Value.cells] at h0
  obtain ⟨rfl,rfl,rfl⟩:=h0
  obtain ⟨rfl,rfl⟩:=hx
  exact ⟨fun x hx=>(by cases hx),none,0,0,rfl,.inl rfl⟩
 simp [Value.cells] at hcs
 obtain ⟨rfl,rfl,rfl⟩:=hcs
 simp only [Prod.mk.injEq] at hx
 obtain ⟨rfl,rfl⟩:=hx
 rw [hC] at hi
 have hle:len≤m:=by rw [hmm]; split<;>omega
 have ok:∀ i,i < m → ∃ c:List Value,c.length=W∧(∀ j,j < W→w.cell? ((a.add (i*W)).add j)=c[j]?)∧Fits ls c∧Pl i=[]∧vsum c≤Rows.uptoBulk (D i):=fun i him=>by
  obtain ⟨c,h1,h2⟩:=hi i him
  obtain ⟨_,h3,h4⟩:=World.cells?_some h1
  obtain ⟨g1,g2,g3⟩:=lvs_ok n e ls hl H enc w 0 sp held n' _ _ h2
  exact ⟨c,h3,h4,g1,g2,g3⟩
 have at':∀ i j,i < m→j < W → ∃ u,w.cell? ((a.add (i*W)).add j)=some u:=fun i j him hj=>by
  obtain ⟨c,h3,h4,_⟩:=ok i him
  exact ⟨c[j]'(by omega),by rw [h4 j hj]; exact List.getElem?_eq_getElem _⟩
 have hblk:0 < m→a.spot=none∧a.block < w.heap.size:=fun hm0=>by
  obtain ⟨u,hu⟩:=at' 0 0 hm0 hW
  rw [Nat.zero_mul,Addr.add_zero',Addr.add_zero'] at hu
  exact cell_spot hu
 refine ⟨fun x hx=>?_,some a,len,cap,rfl,?_⟩
 ·rw [hC] at hx
  have hp:(List.range m).flatMap Pl=[]:=by
   rw [List.flatMap_eq_nil_iff]
   intro i hi'
   obtain ⟨_,_,_,_,g,_⟩:=ok i (List.mem_range.1 hi')
   exact g
  rw [hp,List.append_nil] at hx
  unfold MemPlace.row at hx
  obtain ⟨i,hi',rfl⟩:=List.mem_map.1 hx
  have:=List.mem_range.1 hi'
  exact (hblk (by rcases Nat.eq_zero_or_pos m with h | h; · rw [h, Nat.zero_mul] at this; omega
                  ·exact h)).2
 rcases Nat.eq_zero_or_pos len with h0 | h0
 ·exact .inl h0
 right
 obtain ⟨hs,hbs⟩:=hblk (by omega)
 obtain ⟨b,o,s⟩:=a
 simp only at hs hbs
 subst hs
 obtain ⟨C,hCl,hCi⟩:∃ C:List (List Value),C.length=len ∧ ∀ i c,C[i]? = some c→c.length=W∧(∀ j,j < W→w.cell? (((⟨b,o,none⟩:Addr).add (i*W)).add j)=c[j]?)∧Fits ls c∧Pl i=[]∧vsum c≤Rows.uptoBulk (D i):=by
  have key:∀ q,q≤len → ∃ C:List (List Value),C.length=q ∧ ∀ i c,C[i]? = some c→c.length=W∧(∀ j,j < W→w.cell? (((⟨b,o,none⟩:Addr).add (i*W)).add j)=c[j]?)∧Fits ls c∧Pl i=[]∧vsum c≤Rows.uptoBulk (D i):=by
   intro q
   induction q with
   | zero=>intro _; exact ⟨[],rfl,fun i c h=>by simp at h⟩
   | succ q ih =>
     intro hq
     obtain ⟨C,h1,h2⟩:=ih (by omega)
     obtain ⟨c,hc⟩:=ok q (by omega)
     refine ⟨C++[c],by simp [h1],fun i c' h=>?_⟩
     by_cases hiq:i < C.length
     ·rw [List.getElem?_append_left hiq] at h
      exact h2 i c' h
     rw [List.getElem?_append_right (by omega)] at h
     have:i - C.length=0:=by
      rcases Nat.eq_zero_or_pos (i - C.length) with g | g
      ·exact g
      rw [List.getElem?_eq_none (by simp; omega)] at h; cases h
     rw [this] at h
     simp at h
     subst h
     rw [show i=q by omega]
     exact hc
  exact key len (Nat.le_refl _)
 have hbd:∀ i,i < len→Rows.uptoBulk (D i)≤1048576:=fun i hi'=>by
  have h1:D i∈(List.range len).map D:=List.mem_map.2 ⟨i,List.mem_range.2 hi',rfl⟩
  have:=bulk_mem h1
  simp only [Rows.uptoBulk] at hB
  omega
 have hln:len≤1048576:=by
  have:=bulk_len ((List.range len).map D)
  rw [List.length_map,List.length_range] at this
  simp only [Rows.uptoBulk] at hB
  omega
 refine ⟨b,o,C,rfl,hbs,hCl,hln,fun c hc=>?_,fun k u hk=>?_⟩
 ·obtain ⟨i,hi',hci⟩:=List.mem_iff_getElem.1 hc
  obtain ⟨_,_,g1,_,g2⟩:=hCi i c (by rw [List.getElem?_eq_getElem hi',hci])
  exact ⟨g1,Nat.le_trans g2 (hbd i (by omega))⟩
 have hwd:∀ c∈C,c.length=W:=fun c hc=>by
  obtain ⟨i,hi',hci⟩:=List.mem_iff_getElem.1 hc
  exact (hCi i c (by rw [List.getElem?_eq_getElem hi',hci])).1
 obtain ⟨_,c,h1,h2⟩:=flat_get C hwd k u hk
 obtain ⟨_,h4,_⟩:=hCi _ c h1
 have:=h4 (k%W) (Nat.mod_lt _ hW)
 rw [h2,Addr.add_lit,Addr.add_lit,Nat.add_assoc,Nat.div_add_mod'] at this
 exact this
theorem open_list_le {r:Reach} {b0:Nat} {t e:TypeId} {v:Value} {d:DataW H} {p:List MemPlace} (ht:P.underlying t=some (.slice e)) (hv:Value.okWide P w r b0 t v) (h:DataW.Trod enc P w 0 sp held t v d p) {ao:Option Addr} {len cap:Nat} (he:v = .slice ao len cap):len≤cap:=by
 subst he
 obtain ⟨fuel,hf⟩:=h
 rcases open_slice ht hf with ⟨h0,hx⟩ | ⟨a,len',cap',m,n',D,Pl,hcs,hb,hl1,hm,hmm,hx,hi⟩
 ·simp [Value.cells] at h0
  omega
 simp [Value.cells] at hcs
 omega
end
end Go.Proofs.YtjefpjajkbldpaaDoor.O
