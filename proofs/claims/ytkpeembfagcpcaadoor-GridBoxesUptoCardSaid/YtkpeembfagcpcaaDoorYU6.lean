import Derived.Test.YtkpeembfagcpcaaDoorYU5
import Derived.Laws.IdiomStrings
namespace Go.Proofs.YtkpeembfagcpcaaDoor.U
open Go.RowKit
set_option linter.unusedVariables false
structure Soft (m m':Rows):Prop where
  len:m'.length=m.length
  cells:∀ i,(row? m' i).map Row.cells=(row? m i).map Row.cells
  own:∀ i r,row? m' i=some r→r.own=true→row? m i=some r
  ro:RO m m'
theorem Soft.live {m m':Rows} (h:Soft m m') {i:Nat} (hl:live m i):live m' i:=by
  obtain ⟨r,hr⟩:=hl
  have:=h.cells i
  rw [hr] at this
  cases hx:row? m' i with
  | none=>rw [hx] at this; cases this
  | some r'=>exact ⟨r',hx⟩
theorem Soft.back {m m':Rows} (h:Soft m m') {i:Nat} {r':Row} (hr:row? m' i=some r'):∃ r,row? m i=some r∧r.cells=r'.cells:=by
  have:=h.cells i
  rw [hr] at this
  cases hx:row? m i with
  | none=>rw [hx] at this; cases this
  | some r=>rw [hx] at this; exact ⟨r,rfl,by simpa using this.symm⟩
end Go.Proofs.YtkpeembfagcpcaaDoor.U
