import Derived.Test.YtmkgijiniopalaaDoorYM
namespace Go.Proofs.YtmkgijiniopalaaDoor.KD
theorem est_init {b P v1 v2 vl u2 wl top:Int} (hb:0 < b) (hP:0 < P) (hv1:0 < v1) (h2:0≤v2) (hl:0≤vl) (hu:u2 < b) (hw:wl < P) (ht:0≤top) :
 (top*b+u2)*P+wl < (top/v1+1)*((v1*b+v2)*P+vl):=by
 have hd:0≤top/v1:=Int.ediv_nonneg ht (Int.le_of_lt hv1)
 have h1:top+1≤(top/v1+1)*v1:=by have:=Int.lt_ediv_add_one_mul_self top hv1; omega
 generalize top/v1=d at *
 have a1:u2*P≤(b - 1)*P:=Int.mul_le_mul_of_nonneg_right (by omega) (Int.le_of_lt hP)
 have hbP:0≤b*P:=Int.mul_nonneg (Int.le_of_lt hb) (Int.le_of_lt hP)
 have a2:(top+1)*(b*P)≤((d+1)*v1)*(b*P):=Int.mul_le_mul_of_nonneg_right h1 hbP
 have a3:0≤(d+1)*(v2*P+vl):=Int.mul_nonneg (by omega) (Int.add_nonneg (Int.mul_nonneg h2 (Int.le_of_lt hP)) hl)
 grind
theorem est_step {b P v1 v2 vl u2 wl top d rest:Int} (hP:0 < P) (hl:0≤vl) (hw:wl < P) (hd:0≤d) (ht:top=d*v1+rest)
 (hlt:(top*b+u2)*P+wl < b*((v1*b+v2)*P+vl)) (hv:0≤(v1*b+v2)*P+vl) (hc:b≤d∨rest*b+u2 < d*v2):(top*b+u2)*P+wl < d*((v1*b+v2)*P+vl):=by
 rcases hc with hc | hc
 ·have:=Int.mul_le_mul_of_nonneg_right hc hv
  omega
 have a1:(top*b+u2+1)*P≤(d*(v1*b+v2))*P:=Int.mul_le_mul_of_nonneg_right (by subst ht; grind) (Int.le_of_lt hP)
 have a2:0≤d*vl:=Int.mul_nonneg hd hl
 grind
theorem est_exit {b P v1 v2 vl u2 wl top d rest:Int} (hb:0 < b) (hP:0 < P) (hv1:1≤v1) (h2:0≤v2) (h2b:v2 < b) (hl:0≤vl) (hlP:vl < P) (hw:0≤wl) (hu:0≤u2) (_hd:0≤d) (ht:top=d*v1+rest)
 (hdb:d < b) (hc:d*v2≤rest*b+u2∨b≤rest):d*((v1*b+v2)*P+vl)≤(top*b+u2)*P+wl+((v1*b+v2)*P+vl):=by
 have hc':d*v2≤rest*b+u2:=by
  rcases hc with hc | hc
  ·exact hc
  have a1:d*v2≤b*v2:=Int.mul_le_mul_of_nonneg_right (by omega) h2
  have a2:b*v2≤b*b:=Int.mul_le_mul_of_nonneg_left (by omega) (Int.le_of_lt hb)
  have a3:b*b≤rest*b:=Int.mul_le_mul_of_nonneg_right hc (Int.le_of_lt hb)
  omega
 have a1:(d*(v1*b+v2))*P≤(top*b+u2)*P:=Int.mul_le_mul_of_nonneg_right (by subst ht; grind) (Int.le_of_lt hP)
 have a2:d*vl≤b*P:=by
  have:=Int.mul_le_mul_of_nonneg_right (Int.le_of_lt hdb) hl
  have:=Int.mul_le_mul_of_nonneg_left (Int.le_of_lt hlP) (Int.le_of_lt hb)
  omega
 have a3:1*(b*P)≤v1*(b*P):=Int.mul_le_mul_of_nonneg_right hv1 (Int.mul_nonneg (Int.le_of_lt hb) (Int.le_of_lt hP))
 have a4:0≤v2*P:=Int.mul_nonneg h2 (Int.le_of_lt hP)
 grind
theorem digit {W v d:Int} (hv:0 < v) (h1:W < (d+1)*v) (h2:d*v≤W+v):(W < d*v∧W/v=d - 1)∨(d*v≤W∧W/v=d):=by
 by_cases h:W < d*v
 ·left
  refine ⟨h,?_⟩
  rw [Int.ediv_eq_iff_of_pos hv]
  have e:(d - 1)*v=d*v - v:=by grind
  have e2:(d - 1+1)*v=d*v:=by grind
  omega
 right
 refine ⟨by omega,?_⟩
 rw [Int.ediv_eq_iff_of_pos hv]
 have e:(d+1)*v=d*v+v:=by grind
 omega
end Go.Proofs.YtmkgijiniopalaaDoor.KD
