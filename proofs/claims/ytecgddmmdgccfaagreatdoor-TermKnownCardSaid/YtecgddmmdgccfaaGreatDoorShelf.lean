/- YtecgddmmdgccfaaGreatDoorShelf. Texts of the proof of a law about texts: a layer of abstract values above the worlds, the types, the walks of the functions that the law reaches, the law and its card. Own work of an AI agent. -/
import Derived.Test.YtecgddmmdgccfaaGreatDoorProg
import Derived.Shelf.Abstract
import Derived.Shelf.Lays
import Derived.Shelf.Bits.Mul64
import Derived.Shelf.Strings.OnBuilder
import Derived.Shelf.Spec.SlicesGrow
import Derived.Shelf.SlGeneric
set_option linter.all false
set_option linter.unusedVariables false
set_option linter.unusedSimpArgs false
namespace Go.Proofs
open Go.Shelf
def Tryz.lays212_ren : Go.Shelf.Ren := ⟨fun | 212 => 185 | 263 => 269 | 264 => 270 | n => n, fun | 46 => 302 | 51 => 341 | 146 => 342 | 53 => 344 | 148 => 345 | n => n, fun | n => n⟩
theorem Tryz.lays212 : Go.Proofs.Lays.n212 Tryz.prog Tryz.lays212_ren := {
  mixed := by kernel_rfl
  f212 := Tryz.func185.trans (congrArg some (by kernel_rfl))
  f263 := Tryz.func269.trans (congrArg some (by kernel_rfl))
  f264 := Tryz.func270.trans (congrArg some (by kernel_rfl))
  t46 := Tryz.underlying302
  a46 := Tryz.isAgg302
  z46 := Tryz.sizeOf302
  v46 := Tryz.zeroValue302
  t51 := Tryz.underlying341
  a51 := Tryz.isAgg341
  z51 := Tryz.sizeOf341
  v51 := Tryz.zeroValue341
  t53 := Tryz.underlying344
  a53 := Tryz.isAgg344
  z53 := Tryz.sizeOf344
  v53 := Tryz.zeroValue344
  t146 := Tryz.underlying342
  a146 := Tryz.isAgg342
  z146 := Tryz.sizeOf342
  v146 := Tryz.zeroValue342
  t148 := Tryz.underlying345
  a148 := Tryz.isAgg345
  z148 := Tryz.sizeOf345
  v148 := Tryz.zeroValue345 }
def Tryz.lays156_ren : Go.Shelf.Ren := ⟨fun | 156 => 182 | 165 => 187 | 166 => 188 | 169 => 190 | 240 => 272 | 241 => 273 | 276 => 351 | 277 => 352 | n => n, fun | 31 => 75 | 9 => 9 | 3 => 3 | 4 => 4 | 0 => 0 | 20 => 20 | 72 => 308 | 76 => 311 | 70 => 306 | 37 => 22 | 75 => 310 | 127 => 347 | 164 => 409 | 5 => 5 | 80 => 286 | n => n, fun | n => n⟩
theorem Tryz.lays156 : Go.Proofs.Lays.n156 Tryz.prog Tryz.lays156_ren := {
  mixed := by kernel_rfl
  f156 := Tryz.func182.trans (congrArg some (by kernel_rfl))
  f165 := Tryz.func187.trans (congrArg some (by kernel_rfl))
  f166 := Tryz.func188.trans (congrArg some (by kernel_rfl))
  f169 := Tryz.func190.trans (congrArg some (by kernel_rfl))
  f240 := Tryz.func272.trans (congrArg some (by kernel_rfl))
  f241 := Tryz.func273.trans (congrArg some (by kernel_rfl))
  f276 := Tryz.func351.trans (congrArg some (by kernel_rfl))
  f277 := Tryz.func352.trans (congrArg some (by kernel_rfl))
  t0 := Tryz.underlying0
  a0 := Tryz.isAgg0
  z0 := Tryz.sizeOf0
  v0 := Tryz.zeroValue0
  t3 := Tryz.underlying3
  a3 := Tryz.isAgg3
  z3 := Tryz.sizeOf3
  v3 := Tryz.zeroValue3
  t4 := Tryz.underlying4
  a4 := Tryz.isAgg4
  z4 := Tryz.sizeOf4
  v4 := Tryz.zeroValue4
  t9 := Tryz.underlying9
  a9 := Tryz.isAgg9
  z9 := Tryz.sizeOf9
  v9 := Tryz.zeroValue9
  t20 := Tryz.underlying20
  a20 := Tryz.isAgg20
  z20 := Tryz.sizeOf20
  v20 := Tryz.zeroValue20
  t31 := Tryz.underlying75
  a31 := Tryz.isAgg75
  z31 := Tryz.sizeOf75
  v31 := Tryz.zeroValue75
  t37 := Tryz.underlying22
  a37 := Tryz.isAgg22
  z37 := Tryz.sizeOf22
  v37 := Tryz.zeroValue22
  t70 := Tryz.underlying306
  a70 := Tryz.isAgg306
  z70 := Tryz.sizeOf306
  v70 := Tryz.zeroValue306
  t72 := Tryz.underlying308
  a72 := Tryz.isAgg308
  z72 := Tryz.sizeOf308
  v72 := Tryz.zeroValue308
  t75 := Tryz.underlying310
  a75 := Tryz.isAgg310
  z75 := Tryz.sizeOf310
  v75 := Tryz.zeroValue310
  t76 := Tryz.underlying311
  a76 := Tryz.isAgg311
  z76 := Tryz.sizeOf311
  v76 := Tryz.zeroValue311
  t127 := Tryz.underlying347
  a127 := Tryz.isAgg347
  z127 := Tryz.sizeOf347
  v127 := Tryz.zeroValue347
  t164 := Tryz.underlying409
  a164 := Tryz.isAgg409
  z164 := Tryz.sizeOf409
  v164 := Tryz.zeroValue409 }
def Tryz.growRow_ren : Go.Shelf.Ren := ⟨fun | 4 => 230 | n => n, fun | 22 => 26 | 25 => 82 | 3 => 3 | 4 => 4 | 9 => 9 | 20 => 20 | 0 => 0 | n => n, fun | n => n⟩
theorem Tryz.growRow : Go.Proofs.Lays8.n4 Tryz.prog Tryz.growRow_ren := {
  mixed := by kernel_rfl
  f4 := ⟨Tryz.f230.name, by decide, Tryz.func230.trans (congrArg some (by kernel_rfl))⟩
  t0 := Tryz.underlying0
  a0 := Tryz.isAgg0
  z0 := Tryz.sizeOf0
  v0 := Tryz.zeroValue0
  t3 := Tryz.underlying3
  a3 := Tryz.isAgg3
  z3 := Tryz.sizeOf3
  v3 := Tryz.zeroValue3
  t4 := Tryz.underlying4
  a4 := Tryz.isAgg4
  z4 := Tryz.sizeOf4
  v4 := Tryz.zeroValue4
  t9 := Tryz.underlying9
  a9 := Tryz.isAgg9
  z9 := Tryz.sizeOf9
  v9 := Tryz.zeroValue9
  t20 := Tryz.underlying20
  a20 := Tryz.isAgg20
  z20 := Tryz.sizeOf20
  v20 := Tryz.zeroValue20
  t22 := Tryz.underlying26
  a22 := Tryz.isAgg26
  z22 := Tryz.sizeOf26
  v22 := Tryz.zeroValue26 }
end Go.Proofs
