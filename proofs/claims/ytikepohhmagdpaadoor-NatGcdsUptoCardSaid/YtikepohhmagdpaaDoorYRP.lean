import Derived.Test.YtikepohhmagdpaaDoorYU3
import Derived.Test.YtikepohhmagdpaaDoorProg
import Derived.Shelf.Strings.Repeat
import Derived.KernelRfl
namespace Go.Proofs.YtikepohhmagdpaaDoor.G
open Go.Proofs.YtikepohhmagdpaaDoor.U Go.Shelf
set_option maxRecDepth 100000
def ren:Ren:=⟨fun x=>if x = 99 then 166 else if x = 105 then 160 else if x = 165 then 185 else if x = 166 then 186 else if x = 169 then 188 else if x = 170 then 187 else if x = 206 then 198 else if x = 212 then 184 else if x = 240 then 216 else if x = 241 then 217 else if x = 263 then 214 else if x = 264 then 215 else if x = 276 then 227 else if x = 277 then 228 else 0,fun x=>if x = 0 then 0 else if x = 3 then 3 else if x = 4 then 4 else if x = 5 then 5 else if x = 9 then 9 else if x = 20 then 20 else if x = 37 then 141 else if x = 46 then 144 else if x = 51 then 145 else if x = 53 then 135 else if x = 70 then 173 else if x = 72 then 175 else if x = 75 then 178 else if x = 76 then 179 else if x = 80 then 182 else if x = 109 then 171 else if x = 127 then 207 else if x = 146 then 204 else if x = 148 then 199 else if x = 164 then 214 else 0,fun x=>x⟩
theorem ren_lays:Lays.n105 Tryd.prog ren where
  mixed:=by kernel_rfl
  f99:=by kernel_rfl
  f105:=by kernel_rfl
  f165:=by kernel_rfl
  f166:=by kernel_rfl
  f169:=by kernel_rfl
  f170:=by kernel_rfl
  f206:=by kernel_rfl
  f212:=by kernel_rfl
  f240:=by kernel_rfl
  f241:=by kernel_rfl
  f263:=by kernel_rfl
  f264:=by kernel_rfl
  f276:=by kernel_rfl
  f277:=by kernel_rfl
  t0:=by kernel_rfl
  a0:=fun w=>sval_run (by kernel_rfl) w
  z0:=fun w=>sval_run (by kernel_rfl) w
  v0:=fun w=>sval_run (by kernel_rfl) w
  t3:=by kernel_rfl
  a3:=fun w=>sval_run (by kernel_rfl) w
  z3:=fun w=>sval_run (by kernel_rfl) w
  v3:=fun w=>sval_run (by kernel_rfl) w
  t4:=by kernel_rfl
  a4:=fun w=>sval_run (by kernel_rfl) w
  z4:=fun w=>sval_run (by kernel_rfl) w
  v4:=fun w=>sval_run (by kernel_rfl) w
  t5:=by kernel_rfl
  a5:=fun w=>sval_run (by kernel_rfl) w
  z5:=fun w=>sval_run (by kernel_rfl) w
  v5:=fun w=>sval_run (by kernel_rfl) w
  t9:=by kernel_rfl
  a9:=fun w=>sval_run (by kernel_rfl) w
  z9:=fun w=>sval_run (by kernel_rfl) w
  v9:=fun w=>sval_run (by kernel_rfl) w
  t20:=by kernel_rfl
  a20:=fun w=>sval_run (by kernel_rfl) w
  z20:=fun w=>sval_run (by kernel_rfl) w
  v20:=fun w=>sval_run (by kernel_rfl) w
  t37:=by kernel_rfl
  a37:=fun w=>sval_run (by kernel_rfl) w
  z37:=fun w=>sval_run (by kernel_rfl) w
  v37:=fun w=>sval_run (by kernel_rfl) w
  t46:=by kernel_rfl
  a46:=fun w=>sval_run (by kernel_rfl) w
  z46:=fun w=>sval_run (by kernel_rfl) w
  v46:=fun w=>sval_run (by kernel_rfl) w
  t51:=by kernel_rfl
  a51:=fun w=>sval_run (by kernel_rfl) w
  z51:=fun w=>sval_run (by kernel_rfl) w
  v51:=fun w=>sval_run (by kernel_rfl) w
  t53:=by kernel_rfl
  a53:=fun w=>sval_run (by kernel_rfl) w
  z53:=fun w=>sval_run (by kernel_rfl) w
  v53:=fun w=>sval_run (by kernel_rfl) w
  t70:=by kernel_rfl
  a70:=fun w=>sval_run (by kernel_rfl) w
  z70:=fun w=>sval_run (by kernel_rfl) w
  v70:=fun w=>sval_run (by kernel_rfl) w
  t72:=by kernel_rfl
  a72:=fun w=>sval_run (by kernel_rfl) w
  z72:=fun w=>sval_run (by kernel_rfl) w
  v72:=fun w=>sval_run (by kernel_rfl) w
  t75:=by kernel_rfl
  a75:=fun w=>sval_run (by kernel_rfl) w
  z75:=fun w=>sval_run (by kernel_rfl) w
  v75:=fun w=>sval_run (by kernel_rfl) w
  t76:=by kernel_rfl
  a76:=fun w=>sval_run (by kernel_rfl) w
  z76:=fun w=>sval_run (by kernel_rfl) w
  v76:=fun w=>sval_run (by kernel_rfl) w
  t109:=by kernel_rfl
  a109:=fun w=>sval_run (by kernel_rfl) w
  z109:=fun w=>sval_run (by kernel_rfl) w
  v109:=fun w=>sval_run (by kernel_rfl) w
  t127:=by kernel_rfl
  a127:=fun w=>sval_run (by kernel_rfl) w
  z127:=fun w=>sval_run (by kernel_rfl) w
  v127:=fun w=>sval_run (by kernel_rfl) w
  t146:=by kernel_rfl
  a146:=fun w=>sval_run (by kernel_rfl) w
  z146:=fun w=>sval_run (by kernel_rfl) w
  v146:=fun w=>sval_run (by kernel_rfl) w
  t148:=by kernel_rfl
  a148:=fun w=>sval_run (by kernel_rfl) w
  z148:=fun w=>sval_run (by kernel_rfl) w
  v148:=fun w=>sval_run (by kernel_rfl) w
  t164:=by kernel_rfl
  a164:=fun w=>sval_run (by kernel_rfl) w
  z164:=fun w=>sval_run (by kernel_rfl) w
  v164:=fun w=>sval_run (by kernel_rfl) w
theorem ren_extra:Builder.Extra Tryd.prog ren where
  sizeBuilder:=by kernel_rfl
  liesBuilder:=by kernel_rfl
  t5:=by kernel_rfl
  a5:=fun w=>sval_run (by kernel_rfl) w
  z5:=fun w=>sval_run (by kernel_rfl) w
  v5:=fun w=>sval_run (by kernel_rfl) w
  infoByte:=by kernel_rfl
  cellsByte:=by kernel_rfl
  sizeByte:=by kernel_rfl
  neB5:=by decide
theorem repeat_c (s:ByteArray) (c:Nat) (hc:c ≤ 9223372036854775807) (hl:s.size * c ≤ 140737488355328):CSpec Tryd.prog 160 #[.string s,.int .i64 (c:Int)] (.string ⟨(Lib.repeatL s.data.toList c).toArray⟩):=fun w _=>Any.strings_Repeat ren_lays ren_extra s c w hc hl
end Go.Proofs.YtikepohhmagdpaaDoor.G
