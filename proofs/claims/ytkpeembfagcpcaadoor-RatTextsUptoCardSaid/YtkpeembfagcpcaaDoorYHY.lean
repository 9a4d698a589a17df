import Derived.Test.YtkpeembfagcpcaaDoorYU3
import Derived.Test.YtkpeembfagcpcaaDoorYA0
import Derived.Test.YtkpeembfagcpcaaDoorYA1
import Derived.Test.YtkpeembfagcpcaaDoorYA2
import Derived.Shelf.Strings.SlTrimAscii
import Derived.KernelRfl
import Derived.Test.YtkpeembfagcpcaaDoorProg
import Derived.Shelf.Strings.Search1
set_option maxRecDepth 100000
section
namespace Go.Proofs.YtkpeembfagcpcaaDoor.H
open Go.RowKit Go.Shelf
def renTrim:Ren:=⟨fun x=>if x=119 then 208 else if x=120 then 186 else if x=137 then 83 else if x=151 then 153 else if x=152 then 185 else if x=160 then 48 else if x=197 then 152 else if x=217 then 133 else if x=224 then 195 else if x=225 then 194 else if x=227 then 106 else if x=228 then 151 else if x=231 then 104 else if x=232 then 105 else if x=233 then 107 else if x=234 then 108 else if x=235 then 109 else if x=236 then 110 else if x=260 then 184 else if x=266 then 167 else if x=271 then 154 else 0,fun x=>if x=0 then 0 else if x=3 then 3 else if x=4 then 4 else if x=5 then 5 else if x=9 then 9 else if x=21 then 21 else if x=46 then 80 else if x=105 then 158 else if x=116 then 124 else if x=117 then 125 else if x=119 then 195 else if x=124 then 128 else if x=138 then 197 else if x=139 then 198 else 0,fun x=>if x=3 then 1 else if x=4 then 2 else 0⟩
theorem renTrim_lays:Lays.n160 Tryd.prog renTrim where
 mixed:=by kernel_rfl
 f119:=by kernel_rfl
 f120:=by kernel_rfl
 f137:=by kernel_rfl
 f151:=by kernel_rfl
 f152:=by kernel_rfl
 f160:=by kernel_rfl
 f197:=by kernel_rfl
 f217:=by kernel_rfl
 f224:=by kernel_rfl
 f225:=by kernel_rfl
 f227:=by kernel_rfl
 f228:=by kernel_rfl
 f231:=by kernel_rfl
 f232:=by kernel_rfl
 f233:=by kernel_rfl
 f234:=by kernel_rfl
 f235:=by kernel_rfl
 f236:=by kernel_rfl
 f260:=by kernel_rfl
 f266:=by kernel_rfl
 f271:=by kernel_rfl
 t0:=by kernel_rfl
 a0:=fun w=>U.sval_run (by kernel_rfl) w
 z0:=fun w=>U.sval_run (by kernel_rfl) w
 v0:=fun w=>U.sval_run (by kernel_rfl) w
 t3:=by kernel_rfl
 a3:=fun w=>U.sval_run (by kernel_rfl) w
 z3:=fun w=>U.sval_run (by kernel_rfl) w
 v3:=fun w=>U.sval_run (by kernel_rfl) w
 t4:=by kernel_rfl
 a4:=fun w=>U.sval_run (by kernel_rfl) w
 z4:=fun w=>U.sval_run (by kernel_rfl) w
 v4:=fun w=>U.sval_run (by kernel_rfl) w
 t5:=by kernel_rfl
 a5:=fun w=>U.sval_run (by kernel_rfl) w
 z5:=fun w=>U.sval_run (by kernel_rfl) w
 v5:=fun w=>U.sval_run (by kernel_rfl) w
 t9:=by kernel_rfl
 a9:=fun w=>U.sval_run (by kernel_rfl) w
 z9:=fun w=>U.sval_run (by kernel_rfl) w
 v9:=fun w=>U.sval_run (by kernel_rfl) w
 t21:=by kernel_rfl
 a21:=fun w=>U.sval_run (by kernel_rfl) w
 z21:=fun w=>U.sval_run (by kernel_rfl) w
 v21:=fun w=>U.sval_run (by kernel_rfl) w
 t46:=by kernel_rfl
 a46:=fun w=>U.sval_run (by kernel_rfl) w
 z46:=fun w=>U.sval_run (by kernel_rfl) w
 v46:=fun w=>U.sval_run (by kernel_rfl) w
 t105:=by kernel_rfl
 a105:=fun w=>U.sval_run (by kernel_rfl) w
 z105:=fun w=>U.sval_run (by kernel_rfl) w
 v105:=fun w=>U.sval_run (by kernel_rfl) w
 t116:=by kernel_rfl
 a116:=fun w=>U.sval_run (by kernel_rfl) w
 z116:=fun w=>U.sval_run (by kernel_rfl) w
 t117:=by kernel_rfl
 a117:=fun w=>U.sval_run (by kernel_rfl) w
 z117:=fun w=>U.sval_run (by kernel_rfl) w
 v117:=fun w=>U.sval_run (by kernel_rfl) w
 t119:=by kernel_rfl
 a119:=fun w=>U.sval_run (by kernel_rfl) w
 z119:=fun w=>U.sval_run (by kernel_rfl) w
 t124:=by kernel_rfl
 a124:=fun w=>U.sval_run (by kernel_rfl) w
 z124:=fun w=>U.sval_run (by kernel_rfl) w
 v124:=fun w=>U.sval_run (by kernel_rfl) w
 t138:=by kernel_rfl
 a138:=fun w=>U.sval_run (by kernel_rfl) w
 z138:=fun w=>U.sval_run (by kernel_rfl) w
 v138:=fun w=>U.sval_run (by kernel_rfl) w
 t139:=by kernel_rfl
 a139:=fun w=>U.sval_run (by kernel_rfl) w
 z139:=fun w=>U.sval_run (by kernel_rfl) w
 v139:=fun w=>U.sval_run (by kernel_rfl) w
 g3:=by kernel_rfl
 g4:=by kernel_rfl
def tenDigits:ByteArray:=⟨#[48,49,50,51,52,53,54,55,56,57]⟩
def strings_Trim.f (a0 a1:ByteArray):Option ByteArray:=if a1=tenDigits∧a0.size≤9223372036854775807 then some ⟨(Lib.trimS a0.data.toList tenDigits.data.toList).toArray⟩ else none
theorem strings_Trim.calls (a0 a1:ByteArray) (r:ByteArray) (w:World) (h:strings_Trim.f a0 a1=some r) :
 Calls Tryd.prog 48 #[.string a0,.string a1] w fun e w'=>e = .returned (.string r)∧Below w.heap.size w w':=by
 unfold strings_Trim.f at h
 split at h
 ·rename_i hc
  obtain ⟨rfl,hs⟩:=hc
  obtain rfl:=Option.some.inj h
  exact Any.strings_Trim_laid renTrim_lays (by kernel_rfl) a0 tenDigits w hs (by decide) (ascii_of_all (by decide))
 cases h
end Go.Proofs.YtkpeembfagcpcaaDoor.H
end
section
namespace Go.Proofs.YtkpeembfagcpcaaDoor.G
open Go.Proofs.YtkpeembfagcpcaaDoor.U Go.Shelf Go.RowKit
set_option linter.unusedVariables false
def renIB:Ren:=⟨fun x=>if x=217 then 133 else if x=266 then 167 else 0,fun x=>if x=3 then 3 else if x=5 then 5 else if x=9 then 9 else 0,fun x=>x⟩
theorem renIB_lays:Lays.n217 Tryd.prog renIB where
 mixed:=by kernel_rfl
 f217:=by kernel_rfl
 f266:=by kernel_rfl
 t3:=by kernel_rfl
 a3:=fun w=>U.sval_run (by kernel_rfl) w
 z3:=fun w=>U.sval_run (by kernel_rfl) w
 v3:=fun w=>U.sval_run (by kernel_rfl) w
 t5:=by kernel_rfl
 a5:=fun w=>U.sval_run (by kernel_rfl) w
 z5:=fun w=>U.sval_run (by kernel_rfl) w
 v5:=fun w=>U.sval_run (by kernel_rfl) w
 t9:=by kernel_rfl
 a9:=fun w=>U.sval_run (by kernel_rfl) w
 z9:=fun w=>U.sval_run (by kernel_rfl) w
 v9:=fun w=>U.sval_run (by kernel_rfl) w
theorem ib_k {s:ByteArray} {c:Int}:CSpec Tryd.prog 133 #[.string s,.int .u8 c] (.int .i64 (Lib.indexByte s.data.toList c.toNat.toUInt8)):=fun w _ =>
 (Any.stringslite_IndexByte renIB_lays s c w).mono fun e w' h=>⟨h.1,h.2▸Below.refl _ _⟩
end Go.Proofs.YtkpeembfagcpcaaDoor.G
end
