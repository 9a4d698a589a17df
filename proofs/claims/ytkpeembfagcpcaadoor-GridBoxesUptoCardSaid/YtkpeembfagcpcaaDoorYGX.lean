import Derived.Test.YtkpeembfagcpcaaDoorYFO
namespace Go.Proofs.YtkpeembfagcpcaaDoor.G
set_option linter.unusedVariables false
theorem le_fl (x:Rat) (n:Int):n≤fl x↔(n:Rat)≤x:=by
  unfold fl
  have hd:(0:Int) < (x.den:Int):=by have:=x.den_pos; omega
  rw [Int.le_ediv_iff_mul_le hd,Rat.le_iff]
  simp
theorem fl_neg (x:Rat) (n:Int):- fl (-x)≤n↔x≤(n:Rat):=by
  have:=le_fl (-x) (-n)
  rw [Rat.intCast_neg] at this
  constructor
  · intro h
    have:=this.1 (by omega)
    grind
  intro h
  have:=this.2 (by grind)
  omega
def onG (n:Int):Bool:=decide (-64≤n)&&decide (n < 64)
def sF (l:Rat):Int:=- flv (-l) - 1
def sO (l h:Rat):Bool:=decide (FlOk h)&&(decide (FlOk (-l))&&(onG (sF l)&&onG (flv h)))
theorem fl_lt (x:Rat) (n:Int):fl x < n↔x < (n:Rat):=by
  have:=le_fl x n
  constructor
  · intro h
    have:=mt this.2 (by omega)
    grind
  intro h
  have:=mt this.1 (by grind)
  omega
theorem so_iff {l h:Rat} (hl:l≤h):sO l h=(decide ((-64:Rat) < l)&&decide (h < 64)):=by
  have a1:=fl_lt h 64
  have a2:=le_fl h (-64)
  have b1:=fl_lt (-l) 64
  have b2:=le_fl (-l) (-64)
  simp only [Rat.intCast_neg,Rat.intCast_ofNat] at a1 a2 b1 b2
  rw [Bool.eq_iff_iff]
  unfold sO onG sF flv
  simp only [Bool.and_eq_true,decide_eq_true_eq]
  constructor
  · rintro ⟨h1,h2,⟨h3,h4⟩,h5,h6⟩
    rw [if_pos h2] at h3 h4
    rw [if_pos h1] at h5 h6
    exact ⟨by have:=b1.1 (by omega); grind,a1.1 h6⟩
  rintro ⟨h1,h2⟩
  have c1:=a1.2 h2
  have c2:=a2.1
  have c3:-64≤fl h:=a2.2 (by grind)
  have c4:=b1.2 (by grind)
  have c5:-64≤fl (-l):=b2.2 (by grind)
  have d1:FlOk h:=by unfold FlOk; omega
  have d2:FlOk (-l):=by unfold FlOk; omega
  rw [if_pos d1,if_pos d2]
  exact ⟨d1,d2,⟨by omega,by omega⟩,by omega,by omega⟩
def ival (a b:Int):List Int:=(List.range (b - a).toNat).map fun (k:Nat)=>a+(k:Int)
theorem ival_nil {a b:Int} (h:b≤a):ival a b=[]:=by
  unfold ival
  rw [show (b - a).toNat=0 by omega]
  rfl
theorem ival_snoc {a b:Int} (h:a≤b):ival a (b+1)=ival a b++[b]:=by
  unfold ival
  rw [show (b+1 - a).toNat=(b - a).toNat+1 by omega,List.range_succ,List.map_append]
  simp
  omega
theorem ival_len {a b:Int} (h:a≤b):((ival a b).length:Int)=b - a:=by
  unfold ival
  rw [List.length_map,List.length_range]
  omega
def colB (l h:Rat) (n:Int):Bool:=decide ((n:Rat)≤h)&&decide (l≤((n+1:Int):Rat))
def col (l h:Rat):Nat→List Int
  | 0=>[]
  | k+1=>if colB l h ((k:Int) - 64)=true then col l h k++[(k:Int) - 64] else col l h k
theorem col_eq {l h:Rat} (hl:l≤h) (h1:(-64:Rat) < l) (h2:h < 64):∀ k,k≤128→col l h k=ival (- fl (-l) - 1) (min ((k:Int) - 64) (fl h+1))
  | 0,_=>by
    have b1:=fl_lt (-l) 64
    simp only [Rat.intCast_ofNat] at b1
    have:=b1.2 (by grind)
    rw [ival_nil (by omega)]
    rfl
  | k+1,hk=>by
    have ih:=col_eq hl h1 h2 k (by omega)
    have a:=le_fl h ((k:Int) - 64)
    have b:=fl_neg l ((k:Int) - 64+1)
    have ab:=(fl_neg l (fl h+1)).2 (by
      have:=(le_fl h (fl h+1))
      have:=mt this.2 (by omega)
      grind)
    unfold col
    by_cases hb:colB l h ((k:Int) - 64)=true
    · rw [if_pos hb,ih]
      unfold colB at hb
      simp only [Bool.and_eq_true,decide_eq_true_eq] at hb
      have c1:=a.2 hb.1
      have c2:=b.2 hb.2
      rw [show min ((k:Int) - 64) (fl h+1)=(k:Int) - 64 by omega,show min (((k+1:Nat):Int) - 64) (fl h+1)=(k:Int) - 64+1 by omega,ival_snoc (by omega)]
    rw [if_neg hb,ih]
    unfold colB at hb
    simp only [Bool.and_eq_true,decide_eq_true_eq] at hb
    by_cases c1:(k:Int) - 64≤fl h
    · have c2:¬ (l≤(((k:Int) - 64+1:Int):Rat)):=fun hh=>hb ⟨a.1 c1,hh⟩
      have c3:=mt b.1 c2
      rw [ival_nil (by omega),ival_nil (by omega)]
    rw [show min ((k:Int) - 64) (fl h+1)=min (((k+1:Nat):Int) - 64) (fl h+1) by omega]
theorem col_all {l h:Rat} (hl:l≤h) (h1:(-64:Rat) < l) (h2:h < 64):col l h 128=ival (sF l) (flv h+1):=by
  have hs:=so_iff hl
  rw [decide_eq_true h1,decide_eq_true h2] at hs
  unfold sO at hs
  simp only [Bool.and_eq_true,decide_eq_true_eq,Bool.and_self] at hs
  rw [col_eq hl h1 h2 128 (by omega)]
  unfold sF flv
  rw [if_pos hs.1,if_pos hs.2.1]
  have:=fl_lt h 64
  simp only [Rat.intCast_ofNat] at this
  have:=this.2 h2
  congr 1
  omega
end Go.Proofs.YtkpeembfagcpcaaDoor.G
