import Derived.Test.YtmkgijiniopalaaDoorYHM
namespace Go.Proofs.YtmkgijiniopalaaDoor.H
open Go.RowKit Go.Proofs.YtmkgijiniopalaaDoor.A Go.Proofs.YtmkgijiniopalaaDoor.M Go.Proofs.YtmkgijiniopalaaDoorW.PrintWords Go.Proofs.YtmkgijiniopalaaDoorW.PrintLast Go.Proofs.YtmkgijiniopalaaDoorW.PrintMore
set_option linter.unusedVariables false
theorem left_len0:∀ (k:Nat) (a:Int) (out l:List Int) (n i:Int) (r:List Int),0≤i→out.length≤70368744177664→nat_left.l0 k a out l n i=some r→r.length=out.length∧(n≤i∨n < out.length)
 | 0,a,out,l,n,i,r,hi,hs,h=>by simp [nat_left.l0] at h
 | k+1,a,out,l,n,i,r,hi,hs,h=>by
   simp only [nat_left.l0] at h
   by_cases h1:i < n
   rotate_left
   ·rw [if_neg h1] at h
    injection h with h
    subst h
    exact ⟨rfl,.inl (by omega)⟩
   rw [if_pos h1] at h
   rw [if_pos hi] at h
   by_cases h2:i < (l.length:Int)
   ·rw [if_pos h2] at h
    by_cases h3:0≤a
    ·rw [if_pos h3] at h
     by_cases h4:i < (out.length:Int)
     ·rw [if_pos h4] at h
      have hw:wrap64 (i+1)=i+1:=wrap64_id (by omega) (by omega)
      rw [hw] at h
      rw [if_pos (show 0≤i+1 by omega)] at h
      by_cases h5:i+1 < (out.length:Int)
      ·rw [if_pos h5] at h
       have ih:=left_len0 k _ _ _ _ _ _ (by omega) (by rw [List.length_set,List.length_set]; exact hs) h
       rw [List.length_set,List.length_set] at ih
       refine ⟨ih.1,?_⟩
       have ih2:=ih.2
       clear h ih hw
       omega
      rw [if_neg h5] at h; cases h
     rw [if_neg h4] at h; cases h
    rw [if_neg h3] at h; cases h
   rw [if_neg h2] at h; cases h
theorem left_len {k:Nat} {l r:List Int} {a:Int} (h:nat_left.f k l a=some r):r.length=l.length+1∧l.length < 70368744177664:=by
 unfold nat_left.f at h
 by_cases h1:0≤wrap64 ((l.length:Int)+1)
 rotate_left
 ·rw [if_neg h1] at h; cases h
 rw [if_pos h1] at h
 by_cases h2:(wrap64 ((l.length:Int)+1)).toNat≤70368744177664
 ·rw [if_pos h2] at h
  have h3:=left_len0 _ _ _ _ _ _ _ (Int.le_refl 0) (by rw [List.length_replicate]; exact h2) h
  rw [List.length_replicate] at h3
  have h4:l.length < 70368744177664:=by
   have h5:=h3.2
   clear h h3
   generalize wrap64 ((l.length:Int)+1)=q at h1 h2 h5
   omega
  have hw:wrap64 ((l.length:Int)+1)=l.length+1:=wrap64_id (by omega) (by omega)
  have h6:=h3.1
  rw [hw] at h6
  clear h h3 hw h1 h2
  exact ⟨by omega,h4⟩
 rw [if_neg h2] at h; cases h
theorem vlt {n:Nat} {d j:Int} (hn:n < 70368744177664) (h:wrap64 ((n:Int) - d)=j) (hd:1≤d) (h2:d≤2):j < (n:Int):=by
 have hw:wrap64 ((n:Int) - d)=n - d:=wrap64_id (by omega) (by omega)
 rw [hw] at h
 clear hw
 omega
theorem sub_le {m n:Nat} {j:Int} (hm:m≤70368744177664) (hn:n≤70368744177664) (h:wrap64 ((m:Int) - n)=j) (h0:0≤j):n≤m:=by
 have hw:wrap64 ((m:Int) - n)=m - n:=wrap64_id (by omega) (by omega)
 rw [hw] at h
 clear hw
 omega
theorem cut_window {P:Program} (t e:TypeId) {i:TypeInfo} (ht:P.underlying t=some (.slice e)) (hi:P.info? e=some i) (hsz:i.size=1) (g n c M:Nat) (x:Int) (h0:0≤x) (hlt:x+M < n) (hc:n≤c) (hs:n≤281474976710656) {a j:Int} (ha:wrap64 (x+M)=a) (hj:wrap64 (a+1)=j) :
 ∀ W:World,(Instr.slice t (.slice (some ⟨g,0,none⟩) n c) (some (.int .i64 x)) (some (.int .i64 j)) none).run P W = .ok (.slice (some ⟨g,x.toNat,none⟩) (M+1) (c - x.toNat)) W:=by
 intro W
 have hw:wrap64 (x+M)=x+M:=wrap64_id (by omega) (by omega)
 rw [hw] at ha
 subst ha
 have hw2:wrap64 (x+M+1)=x+M+1:=wrap64_id (by omega) (by omega)
 rw [hw2] at hj
 subst hj
 clear hw hw2
 rw [cut_mid (P:=P) t e .i64 .i64 ht hi 1 hsz (some ⟨g,0,none⟩) n c x (x+M+1) h0 (by omega) (by omega) hc W]
 rw [if_neg (by omega)]
 have e1:(x+M+1).toNat - x.toNat=M+1:=by omega
 rw [e1]
 simp [Addr.add]
 omega
end Go.Proofs.YtmkgijiniopalaaDoor.H
