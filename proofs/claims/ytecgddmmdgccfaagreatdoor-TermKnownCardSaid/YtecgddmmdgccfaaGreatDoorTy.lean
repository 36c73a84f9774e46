/- YtecgddmmdgccfaaGreatDoorTy. Texts of the proof of a law about texts: a layer of abstract values above the worlds, the types, the walks of the functions that the law reaches, the law and its card. Own work of an AI agent. -/
import Derived.Test.YtecgddmmdgccfaaGreatDoorProg
import Derived.Test.YtecgddmmdgccfaaGreatDoorCore1
set_option linter.all false
set_option linter.unusedVariables false
set_option linter.unusedSimpArgs false
namespace Go.Proofs.YtecgddmmdgccfaaGreatDoor
open Go.Fen
attribute [go_sem] Int.reduceBEq Int.reduceBNe Nat.reduceBEq Nat.reduceEqDiff Nat.reduceLT Nat.reduceAdd Nat.reduceSub Nat.reduceMul Nat.reduceLeDiff reduceCtorEq Int.reduceToNat Int.reduceAdd Int.reduceSub Int.reduceMul Int.reduceLT Int.reduceLE Int.reduceNeg Int.reduceEq
attribute [go_sem ↓] reduceIte
@[go_sem] theorem ag_1 : aggT Tryz.prog 1 = some false := by kernel_rfl
@[go_sem] theorem sz_1 : sizeT Tryz.prog 1 = some 1 := by kernel_rfl
@[go_sem] theorem un_1 : Tryz.prog.underlying 1 = some (.func #[] #[] false) := by kernel_rfl
@[go_sem] theorem ze_1 : zeroA Tryz.prog 1 = some [.fnil] := by kernel_rfl
@[go_sem] theorem ei_1 : einfo Tryz.prog 1 = some (1, 8, 1) := by kernel_rfl
@[go_sem] theorem zv_1 : zeroV Tryz.prog 1 = some (.fnil) := by kernel_rfl
@[go_sem] theorem ag_2 : aggT Tryz.prog 2 = some false := by kernel_rfl
@[go_sem] theorem sz_2 : sizeT Tryz.prog 2 = some 1 := by kernel_rfl
@[go_sem] theorem un_2 : Tryz.prog.underlying 2 = some (.int .i64) := by kernel_rfl
@[go_sem] theorem ze_2 : zeroA Tryz.prog 2 = some [.int .i64 0] := by kernel_rfl
@[go_sem] theorem ei_2 : einfo Tryz.prog 2 = some (1, 8, 1) := by kernel_rfl
@[go_sem] theorem zv_2 : zeroV Tryz.prog 2 = some (.int .i64 0) := by kernel_rfl
@[go_sem] theorem ag_3 : aggT Tryz.prog 3 = some false := by kernel_rfl
@[go_sem] theorem sz_3 : sizeT Tryz.prog 3 = some 1 := by kernel_rfl
@[go_sem] theorem un_3 : Tryz.prog.underlying 3 = some (.int .i64) := by kernel_rfl
@[go_sem] theorem ze_3 : zeroA Tryz.prog 3 = some [.int .i64 0] := by kernel_rfl
@[go_sem] theorem ei_3 : einfo Tryz.prog 3 = some (1, 8, 1) := by kernel_rfl
@[go_sem] theorem zv_3 : zeroV Tryz.prog 3 = some (.int .i64 0) := by kernel_rfl
@[go_sem] theorem ag_4 : aggT Tryz.prog 4 = some false := by kernel_rfl
@[go_sem] theorem sz_4 : sizeT Tryz.prog 4 = some 1 := by kernel_rfl
@[go_sem] theorem un_4 : Tryz.prog.underlying 4 = some (.bool) := by kernel_rfl
@[go_sem] theorem ze_4 : zeroA Tryz.prog 4 = some [.bool false] := by kernel_rfl
@[go_sem] theorem ei_4 : einfo Tryz.prog 4 = some (1, 1, 1) := by kernel_rfl
@[go_sem] theorem zv_4 : zeroV Tryz.prog 4 = some (.bool false) := by kernel_rfl
@[go_sem] theorem ag_5 : aggT Tryz.prog 5 = some false := by kernel_rfl
@[go_sem] theorem sz_5 : sizeT Tryz.prog 5 = some 1 := by kernel_rfl
@[go_sem] theorem un_5 : Tryz.prog.underlying 5 = some (.int .u8) := by kernel_rfl
@[go_sem] theorem ze_5 : zeroA Tryz.prog 5 = some [.int .u8 0] := by kernel_rfl
@[go_sem] theorem ei_5 : einfo Tryz.prog 5 = some (1, 1, 1) := by kernel_rfl
@[go_sem] theorem zv_5 : zeroV Tryz.prog 5 = some (.int .u8 0) := by kernel_rfl
@[go_sem] theorem ag_6 : aggT Tryz.prog 6 = some false := by kernel_rfl
@[go_sem] theorem sz_6 : sizeT Tryz.prog 6 = some 1 := by kernel_rfl
@[go_sem] theorem un_6 : Tryz.prog.underlying 6 = some (.int .u8) := by kernel_rfl
@[go_sem] theorem ze_6 : zeroA Tryz.prog 6 = some [.int .u8 0] := by kernel_rfl
@[go_sem] theorem ei_6 : einfo Tryz.prog 6 = some (1, 1, 1) := by kernel_rfl
@[go_sem] theorem zv_6 : zeroV Tryz.prog 6 = some (.int .u8 0) := by kernel_rfl
@[go_sem] theorem ag_7 : aggT Tryz.prog 7 = some true := by kernel_rfl
@[go_sem] theorem sz_7 : sizeT Tryz.prog 7 = some 4 := by kernel_rfl
@[go_sem] theorem un_7 : Tryz.prog.underlying 7 = some (.struct #[{ name := "x", type := 2, offset := 0, embedded := false, tag := "", pkgPath := "runtime", byteOffset := 0 }, { name := "y", type := 3, offset := 1, embedded := false, tag := "", pkgPath := "runtime", byteOffset := 8 }, { name := "signed", type := 4, offset := 2, embedded := false, tag := "", pkgPath := "runtime", byteOffset := 16 }, { name := "code", type := 6, offset := 3, embedded := false, tag := "", pkgPath := "runtime", byteOffset := 17 }]) := by kernel_rfl
@[go_sem] theorem ze_7 : zeroA Tryz.prog 7 = some [.int .i64 0, .int .i64 0, .bool false, .int .u8 0] := by kernel_rfl
@[go_sem] theorem ei_7 : einfo Tryz.prog 7 = some (4, 24, 4) := by kernel_rfl
@[go_sem] theorem zv_7 : zeroV Tryz.prog 7 = some (.agg [.int .i64 0, .int .i64 0, .bool false, .int .u8 0]) := by kernel_rfl
@[go_sem] theorem fo_7_0 : fieldOff Tryz.prog 7 0 = some 0 := by kernel_rfl
@[go_sem] theorem fo_7_1 : fieldOff Tryz.prog 7 1 = some 1 := by kernel_rfl
@[go_sem] theorem fo_7_2 : fieldOff Tryz.prog 7 2 = some 2 := by kernel_rfl
@[go_sem] theorem fo_7_3 : fieldOff Tryz.prog 7 3 = some 3 := by kernel_rfl
@[go_sem] theorem ag_9 : aggT Tryz.prog 9 = some false := by kernel_rfl
@[go_sem] theorem sz_9 : sizeT Tryz.prog 9 = some 1 := by kernel_rfl
@[go_sem] theorem un_9 : Tryz.prog.underlying 9 = some (.string) := by kernel_rfl
@[go_sem] theorem ze_9 : zeroA Tryz.prog 9 = some [.str []] := by kernel_rfl
@[go_sem] theorem ei_9 : einfo Tryz.prog 9 = some (1, 16, 1) := by kernel_rfl
@[go_sem] theorem zv_9 : zeroV Tryz.prog 9 = some (.str []) := by kernel_rfl
@[go_sem] theorem ag_11 : aggT Tryz.prog 11 = some false := by kernel_rfl
@[go_sem] theorem sz_11 : sizeT Tryz.prog 11 = some 1 := by kernel_rfl
@[go_sem] theorem un_11 : Tryz.prog.underlying 11 = some (.string) := by kernel_rfl
@[go_sem] theorem ze_11 : zeroA Tryz.prog 11 = some [.str []] := by kernel_rfl
@[go_sem] theorem ei_11 : einfo Tryz.prog 11 = some (1, 16, 1) := by kernel_rfl
@[go_sem] theorem zv_11 : zeroV Tryz.prog 11 = some (.str []) := by kernel_rfl
@[go_sem] theorem ag_20 : aggT Tryz.prog 20 = some false := by kernel_rfl
@[go_sem] theorem sz_20 : sizeT Tryz.prog 20 = some 1 := by kernel_rfl
@[go_sem] theorem un_20 : Tryz.prog.underlying 20 = some (.interface #[]) := by kernel_rfl
@[go_sem] theorem ze_20 : zeroA Tryz.prog 20 = some [.inil] := by kernel_rfl
@[go_sem] theorem ei_20 : einfo Tryz.prog 20 = some (1, 16, 1) := by kernel_rfl
@[go_sem] theorem zv_20 : zeroV Tryz.prog 20 = some (.inil) := by kernel_rfl
@[go_sem] theorem ag_22 : aggT Tryz.prog 22 = some false := by kernel_rfl
@[go_sem] theorem sz_22 : sizeT Tryz.prog 22 = some 1 := by kernel_rfl
@[go_sem] theorem un_22 : Tryz.prog.underlying 22 = some (.slice 5) := by kernel_rfl
@[go_sem] theorem ze_22 : zeroA Tryz.prog 22 = some [.snil] := by kernel_rfl
@[go_sem] theorem ei_22 : einfo Tryz.prog 22 = some (1, 24, 1) := by kernel_rfl
@[go_sem] theorem zv_22 : zeroV Tryz.prog 22 = some (.snil) := by kernel_rfl
@[go_sem] theorem ag_23 : aggT Tryz.prog 23 = some false := by kernel_rfl
@[go_sem] theorem sz_23 : sizeT Tryz.prog 23 = some 1 := by kernel_rfl
@[go_sem] theorem un_23 : Tryz.prog.underlying 23 = some (.slice 170) := by kernel_rfl
@[go_sem] theorem ze_23 : zeroA Tryz.prog 23 = some [.snil] := by kernel_rfl
@[go_sem] theorem ei_23 : einfo Tryz.prog 23 = some (1, 24, 1) := by kernel_rfl
@[go_sem] theorem zv_23 : zeroV Tryz.prog 23 = some (.snil) := by kernel_rfl
@[go_sem] theorem ag_24 : aggT Tryz.prog 24 = some true := by kernel_rfl
@[go_sem] theorem sz_24 : sizeT Tryz.prog 24 = some 8 := by kernel_rfl
@[go_sem] theorem un_24 : Tryz.prog.underlying 24 = some (.struct #[{ name := "State", type := 3, offset := 0, embedded := false, tag := "", pkgPath := "", byteOffset := 0 }, { name := "Utf", type := 22, offset := 1, embedded := false, tag := "", pkgPath := "", byteOffset := 8 }, { name := "Private", type := 5, offset := 2, embedded := false, tag := "", pkgPath := "", byteOffset := 32 }, { name := "Final", type := 5, offset := 3, embedded := false, tag := "", pkgPath := "", byteOffset := 33 }, { name := "Params", type := 23, offset := 4, embedded := false, tag := "", pkgPath := "", byteOffset := 40 }, { name := "Inter", type := 9, offset := 5, embedded := false, tag := "", pkgPath := "", byteOffset := 64 }, { name := "Text", type := 9, offset := 6, embedded := false, tag := "", pkgPath := "", byteOffset := 80 }, { name := "Bad", type := 4, offset := 7, embedded := false, tag := "", pkgPath := "", byteOffset := 96 }]) := by kernel_rfl
@[go_sem] theorem ze_24 : zeroA Tryz.prog 24 = some [.int .i64 0, .snil, .int .u8 0, .int .u8 0, .snil, .str [], .str [], .bool false] := by kernel_rfl
@[go_sem] theorem ei_24 : einfo Tryz.prog 24 = some (8, 104, 8) := by kernel_rfl
@[go_sem] theorem zv_24 : zeroV Tryz.prog 24 = some (.agg [.int .i64 0, .snil, .int .u8 0, .int .u8 0, .snil, .str [], .str [], .bool false]) := by kernel_rfl
@[go_sem] theorem fo_24_0 : fieldOff Tryz.prog 24 0 = some 0 := by kernel_rfl
@[go_sem] theorem fo_24_1 : fieldOff Tryz.prog 24 1 = some 1 := by kernel_rfl
@[go_sem] theorem fo_24_2 : fieldOff Tryz.prog 24 2 = some 2 := by kernel_rfl
@[go_sem] theorem fo_24_3 : fieldOff Tryz.prog 24 3 = some 3 := by kernel_rfl
@[go_sem] theorem fo_24_4 : fieldOff Tryz.prog 24 4 = some 4 := by kernel_rfl
@[go_sem] theorem fo_24_5 : fieldOff Tryz.prog 24 5 = some 5 := by kernel_rfl
@[go_sem] theorem fo_24_6 : fieldOff Tryz.prog 24 6 = some 6 := by kernel_rfl
@[go_sem] theorem fo_24_7 : fieldOff Tryz.prog 24 7 = some 7 := by kernel_rfl
@[go_sem] theorem ag_25 : aggT Tryz.prog 25 = some true := by kernel_rfl
@[go_sem] theorem sz_25 : sizeT Tryz.prog 25 = some 8 := by kernel_rfl
@[go_sem] theorem un_25 : Tryz.prog.underlying 25 = some (.struct #[{ name := "State", type := 3, offset := 0, embedded := false, tag := "", pkgPath := "", byteOffset := 0 }, { name := "Utf", type := 22, offset := 1, embedded := false, tag := "", pkgPath := "", byteOffset := 8 }, { name := "Private", type := 5, offset := 2, embedded := false, tag := "", pkgPath := "", byteOffset := 32 }, { name := "Final", type := 5, offset := 3, embedded := false, tag := "", pkgPath := "", byteOffset := 33 }, { name := "Params", type := 23, offset := 4, embedded := false, tag := "", pkgPath := "", byteOffset := 40 }, { name := "Inter", type := 9, offset := 5, embedded := false, tag := "", pkgPath := "", byteOffset := 64 }, { name := "Text", type := 9, offset := 6, embedded := false, tag := "", pkgPath := "", byteOffset := 80 }, { name := "Bad", type := 4, offset := 7, embedded := false, tag := "", pkgPath := "", byteOffset := 96 }]) := by kernel_rfl
@[go_sem] theorem ze_25 : zeroA Tryz.prog 25 = some [.int .i64 0, .snil, .int .u8 0, .int .u8 0, .snil, .str [], .str [], .bool false] := by kernel_rfl
@[go_sem] theorem ei_25 : einfo Tryz.prog 25 = some (8, 104, 8) := by kernel_rfl
@[go_sem] theorem zv_25 : zeroV Tryz.prog 25 = some (.agg [.int .i64 0, .snil, .int .u8 0, .int .u8 0, .snil, .str [], .str [], .bool false]) := by kernel_rfl
@[go_sem] theorem fo_25_0 : fieldOff Tryz.prog 25 0 = some 0 := by kernel_rfl
@[go_sem] theorem fo_25_1 : fieldOff Tryz.prog 25 1 = some 1 := by kernel_rfl
@[go_sem] theorem fo_25_2 : fieldOff Tryz.prog 25 2 = some 2 := by kernel_rfl
@[go_sem] theorem fo_25_3 : fieldOff Tryz.prog 25 3 = some 3 := by kernel_rfl
@[go_sem] theorem fo_25_4 : fieldOff Tryz.prog 25 4 = some 4 := by kernel_rfl
@[go_sem] theorem fo_25_5 : fieldOff Tryz.prog 25 5 = some 5 := by kernel_rfl
@[go_sem] theorem fo_25_6 : fieldOff Tryz.prog 25 6 = some 6 := by kernel_rfl
@[go_sem] theorem fo_25_7 : fieldOff Tryz.prog 25 7 = some 7 := by kernel_rfl
@[go_sem] theorem ag_26 : aggT Tryz.prog 26 = some false := by kernel_rfl
@[go_sem] theorem sz_26 : sizeT Tryz.prog 26 = some 1 := by kernel_rfl
@[go_sem] theorem un_26 : Tryz.prog.underlying 26 = some (.slice 82) := by kernel_rfl
@[go_sem] theorem ze_26 : zeroA Tryz.prog 26 = some [.snil] := by kernel_rfl
@[go_sem] theorem ei_26 : einfo Tryz.prog 26 = some (1, 24, 1) := by kernel_rfl
@[go_sem] theorem zv_26 : zeroV Tryz.prog 26 = some (.snil) := by kernel_rfl
@[go_sem] theorem ag_27 : aggT Tryz.prog 27 = some true := by kernel_rfl
@[go_sem] theorem sz_27 : sizeT Tryz.prog 27 = some 3 := by kernel_rfl
@[go_sem] theorem un_27 : Tryz.prog.underlying 27 = some (.struct #[{ name := "Row", type := 3, offset := 0, embedded := false, tag := "", pkgPath := "", byteOffset := 0 }, { name := "Col", type := 3, offset := 1, embedded := false, tag := "", pkgPath := "", byteOffset := 8 }, { name := "Wrap", type := 4, offset := 2, embedded := false, tag := "", pkgPath := "", byteOffset := 16 }]) := by kernel_rfl
@[go_sem] theorem ze_27 : zeroA Tryz.prog 27 = some [.int .i64 0, .int .i64 0, .bool false] := by kernel_rfl
@[go_sem] theorem ei_27 : einfo Tryz.prog 27 = some (3, 24, 3) := by kernel_rfl
@[go_sem] theorem zv_27 : zeroV Tryz.prog 27 = some (.agg [.int .i64 0, .int .i64 0, .bool false]) := by kernel_rfl
@[go_sem] theorem eg_27 : Tryz.prog.eqGuardType Tryz.prog.depth 27 = false := by kernel_rfl
@[go_sem] theorem sh_27 : Tryz.prog.stoodInHeld 27 = false := by kernel_rfl
@[go_sem] theorem fo_27_0 : fieldOff Tryz.prog 27 0 = some 0 := by kernel_rfl
@[go_sem] theorem fo_27_1 : fieldOff Tryz.prog 27 1 = some 1 := by kernel_rfl
@[go_sem] theorem fo_27_2 : fieldOff Tryz.prog 27 2 = some 2 := by kernel_rfl
@[go_sem] theorem ag_28 : aggT Tryz.prog 28 = some true := by kernel_rfl
@[go_sem] theorem sz_28 : sizeT Tryz.prog 28 = some 3 := by kernel_rfl
@[go_sem] theorem un_28 : Tryz.prog.underlying 28 = some (.struct #[{ name := "Row", type := 3, offset := 0, embedded := false, tag := "", pkgPath := "", byteOffset := 0 }, { name := "Col", type := 3, offset := 1, embedded := false, tag := "", pkgPath := "", byteOffset := 8 }, { name := "Wrap", type := 4, offset := 2, embedded := false, tag := "", pkgPath := "", byteOffset := 16 }]) := by kernel_rfl
@[go_sem] theorem ze_28 : zeroA Tryz.prog 28 = some [.int .i64 0, .int .i64 0, .bool false] := by kernel_rfl
@[go_sem] theorem ei_28 : einfo Tryz.prog 28 = some (3, 24, 3) := by kernel_rfl
@[go_sem] theorem zv_28 : zeroV Tryz.prog 28 = some (.agg [.int .i64 0, .int .i64 0, .bool false]) := by kernel_rfl
@[go_sem] theorem eg_28 : Tryz.prog.eqGuardType Tryz.prog.depth 28 = false := by kernel_rfl
@[go_sem] theorem sh_28 : Tryz.prog.stoodInHeld 28 = false := by kernel_rfl
@[go_sem] theorem fo_28_0 : fieldOff Tryz.prog 28 0 = some 0 := by kernel_rfl
@[go_sem] theorem fo_28_1 : fieldOff Tryz.prog 28 1 = some 1 := by kernel_rfl
@[go_sem] theorem fo_28_2 : fieldOff Tryz.prog 28 2 = some 2 := by kernel_rfl
@[go_sem] theorem ag_29 : aggT Tryz.prog 29 = some true := by kernel_rfl
@[go_sem] theorem sz_29 : sizeT Tryz.prog 29 = some 2 := by kernel_rfl
@[go_sem] theorem un_29 : Tryz.prog.underlying 29 = some (.struct #[{ name := "Kind", type := 3, offset := 0, embedded := false, tag := "", pkgPath := "", byteOffset := 0 }, { name := "N", type := 3, offset := 1, embedded := false, tag := "", pkgPath := "", byteOffset := 8 }]) := by kernel_rfl
@[go_sem] theorem ze_29 : zeroA Tryz.prog 29 = some [.int .i64 0, .int .i64 0] := by kernel_rfl
@[go_sem] theorem ei_29 : einfo Tryz.prog 29 = some (2, 16, 2) := by kernel_rfl
@[go_sem] theorem zv_29 : zeroV Tryz.prog 29 = some (.agg [.int .i64 0, .int .i64 0]) := by kernel_rfl
@[go_sem] theorem eg_29 : Tryz.prog.eqGuardType Tryz.prog.depth 29 = false := by kernel_rfl
@[go_sem] theorem sh_29 : Tryz.prog.stoodInHeld 29 = false := by kernel_rfl
@[go_sem] theorem fo_29_0 : fieldOff Tryz.prog 29 0 = some 0 := by kernel_rfl
@[go_sem] theorem fo_29_1 : fieldOff Tryz.prog 29 1 = some 1 := by kernel_rfl
@[go_sem] theorem ag_30 : aggT Tryz.prog 30 = some true := by kernel_rfl
@[go_sem] theorem sz_30 : sizeT Tryz.prog 30 = some 2 := by kernel_rfl
@[go_sem] theorem un_30 : Tryz.prog.underlying 30 = some (.struct #[{ name := "Kind", type := 3, offset := 0, embedded := false, tag := "", pkgPath := "", byteOffset := 0 }, { name := "N", type := 3, offset := 1, embedded := false, tag := "", pkgPath := "", byteOffset := 8 }]) := by kernel_rfl
@[go_sem] theorem ze_30 : zeroA Tryz.prog 30 = some [.int .i64 0, .int .i64 0] := by kernel_rfl
@[go_sem] theorem ei_30 : einfo Tryz.prog 30 = some (2, 16, 2) := by kernel_rfl
@[go_sem] theorem zv_30 : zeroV Tryz.prog 30 = some (.agg [.int .i64 0, .int .i64 0]) := by kernel_rfl
@[go_sem] theorem eg_30 : Tryz.prog.eqGuardType Tryz.prog.depth 30 = false := by kernel_rfl
@[go_sem] theorem sh_30 : Tryz.prog.stoodInHeld 30 = false := by kernel_rfl
@[go_sem] theorem fo_30_0 : fieldOff Tryz.prog 30 0 = some 0 := by kernel_rfl
@[go_sem] theorem fo_30_1 : fieldOff Tryz.prog 30 1 = some 1 := by kernel_rfl
@[go_sem] theorem ag_31 : aggT Tryz.prog 31 = some true := by kernel_rfl
@[go_sem] theorem sz_31 : sizeT Tryz.prog 31 = some 8 := by kernel_rfl
@[go_sem] theorem un_31 : Tryz.prog.underlying 31 = some (.struct #[{ name := "Attr", type := 3, offset := 0, embedded := false, tag := "", pkgPath := "", byteOffset := 0 }, { name := "Under", type := 3, offset := 1, embedded := false, tag := "", pkgPath := "", byteOffset := 8 }, { name := "Fore", type := 30, offset := 2, embedded := false, tag := "", pkgPath := "", byteOffset := 16 }, { name := "Back", type := 30, offset := 4, embedded := false, tag := "", pkgPath := "", byteOffset := 32 }, { name := "Line", type := 30, offset := 6, embedded := false, tag := "", pkgPath := "", byteOffset := 48 }]) := by kernel_rfl
@[go_sem] theorem ze_31 : zeroA Tryz.prog 31 = some [.int .i64 0, .int .i64 0, .int .i64 0, .int .i64 0, .int .i64 0, .int .i64 0, .int .i64 0, .int .i64 0] := by kernel_rfl
@[go_sem] theorem ei_31 : einfo Tryz.prog 31 = some (8, 64, 8) := by kernel_rfl
@[go_sem] theorem zv_31 : zeroV Tryz.prog 31 = some (.agg [.int .i64 0, .int .i64 0, .int .i64 0, .int .i64 0, .int .i64 0, .int .i64 0, .int .i64 0, .int .i64 0]) := by kernel_rfl
@[go_sem] theorem eg_31 : Tryz.prog.eqGuardType Tryz.prog.depth 31 = false := by kernel_rfl
@[go_sem] theorem sh_31 : Tryz.prog.stoodInHeld 31 = false := by kernel_rfl
@[go_sem] theorem fo_31_0 : fieldOff Tryz.prog 31 0 = some 0 := by kernel_rfl
@[go_sem] theorem fo_31_1 : fieldOff Tryz.prog 31 1 = some 1 := by kernel_rfl
@[go_sem] theorem fo_31_2 : fieldOff Tryz.prog 31 2 = some 2 := by kernel_rfl
@[go_sem] theorem fo_31_3 : fieldOff Tryz.prog 31 3 = some 4 := by kernel_rfl
@[go_sem] theorem fo_31_4 : fieldOff Tryz.prog 31 4 = some 6 := by kernel_rfl
@[go_sem] theorem ag_32 : aggT Tryz.prog 32 = some true := by kernel_rfl
@[go_sem] theorem sz_32 : sizeT Tryz.prog 32 = some 8 := by kernel_rfl
@[go_sem] theorem un_32 : Tryz.prog.underlying 32 = some (.struct #[{ name := "Attr", type := 3, offset := 0, embedded := false, tag := "", pkgPath := "", byteOffset := 0 }, { name := "Under", type := 3, offset := 1, embedded := false, tag := "", pkgPath := "", byteOffset := 8 }, { name := "Fore", type := 30, offset := 2, embedded := false, tag := "", pkgPath := "", byteOffset := 16 }, { name := "Back", type := 30, offset := 4, embedded := false, tag := "", pkgPath := "", byteOffset := 32 }, { name := "Line", type := 30, offset := 6, embedded := false, tag := "", pkgPath := "", byteOffset := 48 }]) := by kernel_rfl
@[go_sem] theorem ze_32 : zeroA Tryz.prog 32 = some [.int .i64 0, .int .i64 0, .int .i64 0, .int .i64 0, .int .i64 0, .int .i64 0, .int .i64 0, .int .i64 0] := by kernel_rfl
@[go_sem] theorem ei_32 : einfo Tryz.prog 32 = some (8, 64, 8) := by kernel_rfl
@[go_sem] theorem zv_32 : zeroV Tryz.prog 32 = some (.agg [.int .i64 0, .int .i64 0, .int .i64 0, .int .i64 0, .int .i64 0, .int .i64 0, .int .i64 0, .int .i64 0]) := by kernel_rfl
@[go_sem] theorem eg_32 : Tryz.prog.eqGuardType Tryz.prog.depth 32 = false := by kernel_rfl
@[go_sem] theorem sh_32 : Tryz.prog.stoodInHeld 32 = false := by kernel_rfl
@[go_sem] theorem fo_32_0 : fieldOff Tryz.prog 32 0 = some 0 := by kernel_rfl
@[go_sem] theorem fo_32_1 : fieldOff Tryz.prog 32 1 = some 1 := by kernel_rfl
@[go_sem] theorem fo_32_2 : fieldOff Tryz.prog 32 2 = some 2 := by kernel_rfl
@[go_sem] theorem fo_32_3 : fieldOff Tryz.prog 32 3 = some 4 := by kernel_rfl
@[go_sem] theorem fo_32_4 : fieldOff Tryz.prog 32 4 = some 6 := by kernel_rfl
@[go_sem] theorem ag_33 : aggT Tryz.prog 33 = some true := by kernel_rfl
@[go_sem] theorem sz_33 : sizeT Tryz.prog 33 = some 4 := by kernel_rfl
@[go_sem] theorem un_33 : Tryz.prog.underlying 33 = some (.array 4 3) := by kernel_rfl
@[go_sem] theorem ze_33 : zeroA Tryz.prog 33 = some [.int .i64 0, .int .i64 0, .int .i64 0, .int .i64 0] := by kernel_rfl
@[go_sem] theorem ei_33 : einfo Tryz.prog 33 = some (4, 32, 4) := by kernel_rfl
@[go_sem] theorem zv_33 : zeroV Tryz.prog 33 = some (.agg [.int .i64 0, .int .i64 0, .int .i64 0, .int .i64 0]) := by kernel_rfl
@[go_sem] theorem ag_34 : aggT Tryz.prog 34 = some true := by kernel_rfl
@[go_sem] theorem sz_34 : sizeT Tryz.prog 34 = some 6 := by kernel_rfl
@[go_sem] theorem un_34 : Tryz.prog.underlying 34 = some (.struct #[{ name := "G", type := 33, offset := 0, embedded := false, tag := "", pkgPath := "", byteOffset := 0 }, { name := "Used", type := 3, offset := 4, embedded := false, tag := "", pkgPath := "", byteOffset := 32 }, { name := "Once", type := 3, offset := 5, embedded := false, tag := "", pkgPath := "", byteOffset := 40 }]) := by kernel_rfl
@[go_sem] theorem ze_34 : zeroA Tryz.prog 34 = some [.int .i64 0, .int .i64 0, .int .i64 0, .int .i64 0, .int .i64 0, .int .i64 0] := by kernel_rfl
@[go_sem] theorem ei_34 : einfo Tryz.prog 34 = some (6, 48, 6) := by kernel_rfl
@[go_sem] theorem zv_34 : zeroV Tryz.prog 34 = some (.agg [.int .i64 0, .int .i64 0, .int .i64 0, .int .i64 0, .int .i64 0, .int .i64 0]) := by kernel_rfl
@[go_sem] theorem fo_34_0 : fieldOff Tryz.prog 34 0 = some 0 := by kernel_rfl
@[go_sem] theorem fo_34_1 : fieldOff Tryz.prog 34 1 = some 4 := by kernel_rfl
@[go_sem] theorem fo_34_2 : fieldOff Tryz.prog 34 2 = some 5 := by kernel_rfl
@[go_sem] theorem ag_35 : aggT Tryz.prog 35 = some true := by kernel_rfl
@[go_sem] theorem sz_35 : sizeT Tryz.prog 35 = some 6 := by kernel_rfl
@[go_sem] theorem un_35 : Tryz.prog.underlying 35 = some (.struct #[{ name := "G", type := 33, offset := 0, embedded := false, tag := "", pkgPath := "", byteOffset := 0 }, { name := "Used", type := 3, offset := 4, embedded := false, tag := "", pkgPath := "", byteOffset := 32 }, { name := "Once", type := 3, offset := 5, embedded := false, tag := "", pkgPath := "", byteOffset := 40 }]) := by kernel_rfl
@[go_sem] theorem ze_35 : zeroA Tryz.prog 35 = some [.int .i64 0, .int .i64 0, .int .i64 0, .int .i64 0, .int .i64 0, .int .i64 0] := by kernel_rfl
@[go_sem] theorem ei_35 : einfo Tryz.prog 35 = some (6, 48, 6) := by kernel_rfl
@[go_sem] theorem zv_35 : zeroV Tryz.prog 35 = some (.agg [.int .i64 0, .int .i64 0, .int .i64 0, .int .i64 0, .int .i64 0, .int .i64 0]) := by kernel_rfl
@[go_sem] theorem fo_35_0 : fieldOff Tryz.prog 35 0 = some 0 := by kernel_rfl
@[go_sem] theorem fo_35_1 : fieldOff Tryz.prog 35 1 = some 4 := by kernel_rfl
@[go_sem] theorem fo_35_2 : fieldOff Tryz.prog 35 2 = some 5 := by kernel_rfl
@[go_sem] theorem ag_36 : aggT Tryz.prog 36 = some true := by kernel_rfl
@[go_sem] theorem sz_36 : sizeT Tryz.prog 36 = some 13 := by kernel_rfl
@[go_sem] theorem un_36 : Tryz.prog.underlying 36 = some (.struct #[{ name := "Insert", type := 4, offset := 0, embedded := false, tag := "", pkgPath := "", byteOffset := 0 }, { name := "Newline", type := 4, offset := 1, embedded := false, tag := "", pkgPath := "", byteOffset := 1 }, { name := "CursorKeys", type := 4, offset := 2, embedded := false, tag := "", pkgPath := "", byteOffset := 2 }, { name := "Inverse", type := 4, offset := 3, embedded := false, tag := "", pkgPath := "", byteOffset := 3 }, { name := "Origin", type := 4, offset := 4, embedded := false, tag := "", pkgPath := "", byteOffset := 4 }, { name := "Auto", type := 4, offset := 5, embedded := false, tag := "", pkgPath := "", byteOffset := 5 }, { name := "Visible", type := 4, offset := 6, embedded := false, tag := "", pkgPath := "", byteOffset := 6 }, { name := "Paste", type := 4, offset := 7, embedded := false, tag := "", pkgPath := "", byteOffset := 7 }, { name := "Focus", type := 4, offset := 8, embedded := false, tag := "", pkgPath := "", byteOffset := 8 }, { name := "Sync", type := 4, offset := 9, embedded := false, tag := "", pkgPath := "", byteOffset := 9 }, { name := "Keypad", type := 4, offset := 10, embedded := false, tag := "", pkgPath := "", byteOffset := 10 }, { name := "Mouse", type := 3, offset := 11, embedded := false, tag := "", pkgPath := "", byteOffset := 16 }, { name := "MouseSgr", type := 4, offset := 12, embedded := false, tag := "", pkgPath := "", byteOffset := 24 }]) := by kernel_rfl
@[go_sem] theorem ze_36 : zeroA Tryz.prog 36 = some [.bool false, .bool false, .bool false, .bool false, .bool false, .bool false, .bool false, .bool false, .bool false, .bool false, .bool false, .int .i64 0, .bool false] := by kernel_rfl
@[go_sem] theorem ei_36 : einfo Tryz.prog 36 = some (13, 32, 13) := by kernel_rfl
@[go_sem] theorem zv_36 : zeroV Tryz.prog 36 = some (.agg [.bool false, .bool false, .bool false, .bool false, .bool false, .bool false, .bool false, .bool false, .bool false, .bool false, .bool false, .int .i64 0, .bool false]) := by kernel_rfl
@[go_sem] theorem eg_36 : Tryz.prog.eqGuardType Tryz.prog.depth 36 = false := by kernel_rfl
@[go_sem] theorem sh_36 : Tryz.prog.stoodInHeld 36 = false := by kernel_rfl
@[go_sem] theorem fo_36_0 : fieldOff Tryz.prog 36 0 = some 0 := by kernel_rfl
@[go_sem] theorem fo_36_1 : fieldOff Tryz.prog 36 1 = some 1 := by kernel_rfl
@[go_sem] theorem fo_36_2 : fieldOff Tryz.prog 36 2 = some 2 := by kernel_rfl
@[go_sem] theorem fo_36_3 : fieldOff Tryz.prog 36 3 = some 3 := by kernel_rfl
@[go_sem] theorem fo_36_4 : fieldOff Tryz.prog 36 4 = some 4 := by kernel_rfl
@[go_sem] theorem fo_36_5 : fieldOff Tryz.prog 36 5 = some 5 := by kernel_rfl
@[go_sem] theorem fo_36_6 : fieldOff Tryz.prog 36 6 = some 6 := by kernel_rfl
@[go_sem] theorem fo_36_7 : fieldOff Tryz.prog 36 7 = some 7 := by kernel_rfl
@[go_sem] theorem fo_36_8 : fieldOff Tryz.prog 36 8 = some 8 := by kernel_rfl
@[go_sem] theorem fo_36_9 : fieldOff Tryz.prog 36 9 = some 9 := by kernel_rfl
@[go_sem] theorem fo_36_10 : fieldOff Tryz.prog 36 10 = some 10 := by kernel_rfl
@[go_sem] theorem fo_36_11 : fieldOff Tryz.prog 36 11 = some 11 := by kernel_rfl
@[go_sem] theorem fo_36_12 : fieldOff Tryz.prog 36 12 = some 12 := by kernel_rfl
@[go_sem] theorem ag_37 : aggT Tryz.prog 37 = some true := by kernel_rfl
@[go_sem] theorem sz_37 : sizeT Tryz.prog 37 = some 13 := by kernel_rfl
@[go_sem] theorem un_37 : Tryz.prog.underlying 37 = some (.struct #[{ name := "Insert", type := 4, offset := 0, embedded := false, tag := "", pkgPath := "", byteOffset := 0 }, { name := "Newline", type := 4, offset := 1, embedded := false, tag := "", pkgPath := "", byteOffset := 1 }, { name := "CursorKeys", type := 4, offset := 2, embedded := false, tag := "", pkgPath := "", byteOffset := 2 }, { name := "Inverse", type := 4, offset := 3, embedded := false, tag := "", pkgPath := "", byteOffset := 3 }, { name := "Origin", type := 4, offset := 4, embedded := false, tag := "", pkgPath := "", byteOffset := 4 }, { name := "Auto", type := 4, offset := 5, embedded := false, tag := "", pkgPath := "", byteOffset := 5 }, { name := "Visible", type := 4, offset := 6, embedded := false, tag := "", pkgPath := "", byteOffset := 6 }, { name := "Paste", type := 4, offset := 7, embedded := false, tag := "", pkgPath := "", byteOffset := 7 }, { name := "Focus", type := 4, offset := 8, embedded := false, tag := "", pkgPath := "", byteOffset := 8 }, { name := "Sync", type := 4, offset := 9, embedded := false, tag := "", pkgPath := "", byteOffset := 9 }, { name := "Keypad", type := 4, offset := 10, embedded := false, tag := "", pkgPath := "", byteOffset := 10 }, { name := "Mouse", type := 3, offset := 11, embedded := false, tag := "", pkgPath := "", byteOffset := 16 }, { name := "MouseSgr", type := 4, offset := 12, embedded := false, tag := "", pkgPath := "", byteOffset := 24 }]) := by kernel_rfl
@[go_sem] theorem ze_37 : zeroA Tryz.prog 37 = some [.bool false, .bool false, .bool false, .bool false, .bool false, .bool false, .bool false, .bool false, .bool false, .bool false, .bool false, .int .i64 0, .bool false] := by kernel_rfl
@[go_sem] theorem ei_37 : einfo Tryz.prog 37 = some (13, 32, 13) := by kernel_rfl
@[go_sem] theorem zv_37 : zeroV Tryz.prog 37 = some (.agg [.bool false, .bool false, .bool false, .bool false, .bool false, .bool false, .bool false, .bool false, .bool false, .bool false, .bool false, .int .i64 0, .bool false]) := by kernel_rfl
@[go_sem] theorem eg_37 : Tryz.prog.eqGuardType Tryz.prog.depth 37 = false := by kernel_rfl
@[go_sem] theorem sh_37 : Tryz.prog.stoodInHeld 37 = false := by kernel_rfl
@[go_sem] theorem fo_37_0 : fieldOff Tryz.prog 37 0 = some 0 := by kernel_rfl
@[go_sem] theorem fo_37_1 : fieldOff Tryz.prog 37 1 = some 1 := by kernel_rfl
@[go_sem] theorem fo_37_2 : fieldOff Tryz.prog 37 2 = some 2 := by kernel_rfl
@[go_sem] theorem fo_37_3 : fieldOff Tryz.prog 37 3 = some 3 := by kernel_rfl
@[go_sem] theorem fo_37_4 : fieldOff Tryz.prog 37 4 = some 4 := by kernel_rfl
@[go_sem] theorem fo_37_5 : fieldOff Tryz.prog 37 5 = some 5 := by kernel_rfl
@[go_sem] theorem fo_37_6 : fieldOff Tryz.prog 37 6 = some 6 := by kernel_rfl
@[go_sem] theorem fo_37_7 : fieldOff Tryz.prog 37 7 = some 7 := by kernel_rfl
@[go_sem] theorem fo_37_8 : fieldOff Tryz.prog 37 8 = some 8 := by kernel_rfl
@[go_sem] theorem fo_37_9 : fieldOff Tryz.prog 37 9 = some 9 := by kernel_rfl
@[go_sem] theorem fo_37_10 : fieldOff Tryz.prog 37 10 = some 10 := by kernel_rfl
@[go_sem] theorem fo_37_11 : fieldOff Tryz.prog 37 11 = some 11 := by kernel_rfl
@[go_sem] theorem fo_37_12 : fieldOff Tryz.prog 37 12 = some 12 := by kernel_rfl
@[go_sem] theorem ag_38 : aggT Tryz.prog 38 = some false := by kernel_rfl
@[go_sem] theorem sz_38 : sizeT Tryz.prog 38 = some 1 := by kernel_rfl
@[go_sem] theorem un_38 : Tryz.prog.underlying 38 = some (.slice 4) := by kernel_rfl
@[go_sem] theorem ze_38 : zeroA Tryz.prog 38 = some [.snil] := by kernel_rfl
@[go_sem] theorem ei_38 : einfo Tryz.prog 38 = some (1, 24, 1) := by kernel_rfl
@[go_sem] theorem zv_38 : zeroV Tryz.prog 38 = some (.snil) := by kernel_rfl
@[go_sem] theorem ag_39 : aggT Tryz.prog 39 = some true := by kernel_rfl
@[go_sem] theorem sz_39 : sizeT Tryz.prog 39 = some 19 := by kernel_rfl
@[go_sem] theorem un_39 : Tryz.prog.underlying 39 = some (.struct #[{ name := "Is", type := 4, offset := 0, embedded := false, tag := "", pkgPath := "", byteOffset := 0 }, { name := "Cursor", type := 28, offset := 1, embedded := false, tag := "", pkgPath := "", byteOffset := 8 }, { name := "Style", type := 32, offset := 4, embedded := false, tag := "", pkgPath := "", byteOffset := 32 }, { name := "Sets", type := 35, offset := 12, embedded := false, tag := "", pkgPath := "", byteOffset := 96 }, { name := "Origin", type := 4, offset := 18, embedded := false, tag := "", pkgPath := "", byteOffset := 144 }]) := by kernel_rfl
@[go_sem] theorem ze_39 : zeroA Tryz.prog 39 = some [.bool false, .int .i64 0, .int .i64 0, .bool false, .int .i64 0, .int .i64 0, .int .i64 0, .int .i64 0, .int .i64 0, .int .i64 0, .int .i64 0, .int .i64 0, .int .i64 0, .int .i64 0, .int .i64 0, .int .i64 0, .int .i64 0, .int .i64 0, .bool false] := by kernel_rfl
@[go_sem] theorem ei_39 : einfo Tryz.prog 39 = some (19, 152, 19) := by kernel_rfl
@[go_sem] theorem zv_39 : zeroV Tryz.prog 39 = some (.agg [.bool false, .int .i64 0, .int .i64 0, .bool false, .int .i64 0, .int .i64 0, .int .i64 0, .int .i64 0, .int .i64 0, .int .i64 0, .int .i64 0, .int .i64 0, .int .i64 0, .int .i64 0, .int .i64 0, .int .i64 0, .int .i64 0, .int .i64 0, .bool false]) := by kernel_rfl
@[go_sem] theorem fo_39_0 : fieldOff Tryz.prog 39 0 = some 0 := by kernel_rfl
@[go_sem] theorem fo_39_1 : fieldOff Tryz.prog 39 1 = some 1 := by kernel_rfl
@[go_sem] theorem fo_39_2 : fieldOff Tryz.prog 39 2 = some 4 := by kernel_rfl
@[go_sem] theorem fo_39_3 : fieldOff Tryz.prog 39 3 = some 12 := by kernel_rfl
@[go_sem] theorem fo_39_4 : fieldOff Tryz.prog 39 4 = some 18 := by kernel_rfl
@[go_sem] theorem ag_40 : aggT Tryz.prog 40 = some true := by kernel_rfl
@[go_sem] theorem sz_40 : sizeT Tryz.prog 40 = some 19 := by kernel_rfl
@[go_sem] theorem un_40 : Tryz.prog.underlying 40 = some (.struct #[{ name := "Is", type := 4, offset := 0, embedded := false, tag := "", pkgPath := "", byteOffset := 0 }, { name := "Cursor", type := 28, offset := 1, embedded := false, tag := "", pkgPath := "", byteOffset := 8 }, { name := "Style", type := 32, offset := 4, embedded := false, tag := "", pkgPath := "", byteOffset := 32 }, { name := "Sets", type := 35, offset := 12, embedded := false, tag := "", pkgPath := "", byteOffset := 96 }, { name := "Origin", type := 4, offset := 18, embedded := false, tag := "", pkgPath := "", byteOffset := 144 }]) := by kernel_rfl
@[go_sem] theorem ze_40 : zeroA Tryz.prog 40 = some [.bool false, .int .i64 0, .int .i64 0, .bool false, .int .i64 0, .int .i64 0, .int .i64 0, .int .i64 0, .int .i64 0, .int .i64 0, .int .i64 0, .int .i64 0, .int .i64 0, .int .i64 0, .int .i64 0, .int .i64 0, .int .i64 0, .int .i64 0, .bool false] := by kernel_rfl
@[go_sem] theorem ei_40 : einfo Tryz.prog 40 = some (19, 152, 19) := by kernel_rfl
@[go_sem] theorem zv_40 : zeroV Tryz.prog 40 = some (.agg [.bool false, .int .i64 0, .int .i64 0, .bool false, .int .i64 0, .int .i64 0, .int .i64 0, .int .i64 0, .int .i64 0, .int .i64 0, .int .i64 0, .int .i64 0, .int .i64 0, .int .i64 0, .int .i64 0, .int .i64 0, .int .i64 0, .int .i64 0, .bool false]) := by kernel_rfl
@[go_sem] theorem fo_40_0 : fieldOff Tryz.prog 40 0 = some 0 := by kernel_rfl
@[go_sem] theorem fo_40_1 : fieldOff Tryz.prog 40 1 = some 1 := by kernel_rfl
@[go_sem] theorem fo_40_2 : fieldOff Tryz.prog 40 2 = some 4 := by kernel_rfl
@[go_sem] theorem fo_40_3 : fieldOff Tryz.prog 40 3 = some 12 := by kernel_rfl
@[go_sem] theorem fo_40_4 : fieldOff Tryz.prog 40 4 = some 18 := by kernel_rfl
@[go_sem] theorem ag_41 : aggT Tryz.prog 41 = some true := by kernel_rfl
@[go_sem] theorem sz_41 : sizeT Tryz.prog 41 = some 80 := by kernel_rfl
@[go_sem] theorem un_41 : Tryz.prog.underlying 41 = some (.struct #[{ name := "Cols", type := 3, offset := 0, embedded := false, tag := "", pkgPath := "", byteOffset := 0 }, { name := "Rows", type := 3, offset := 1, embedded := false, tag := "", pkgPath := "", byteOffset := 8 }, { name := "Main", type := 26, offset := 2, embedded := false, tag := "", pkgPath := "", byteOffset := 16 }, { name := "Alt", type := 26, offset := 3, embedded := false, tag := "", pkgPath := "", byteOffset := 40 }, { name := "OnAlt", type := 4, offset := 4, embedded := false, tag := "", pkgPath := "", byteOffset := 64 }, { name := "Past", type := 26, offset := 5, embedded := false, tag := "", pkgPath := "", byteOffset := 72 }, { name := "Cursor", type := 28, offset := 6, embedded := false, tag := "", pkgPath := "", byteOffset := 96 }, { name := "Style", type := 32, offset := 9, embedded := false, tag := "", pkgPath := "", byteOffset := 120 }, { name := "Sets", type := 35, offset := 17, embedded := false, tag := "", pkgPath := "", byteOffset := 184 }, { name := "Modes", type := 37, offset := 23, embedded := false, tag := "", pkgPath := "", byteOffset := 232 }, { name := "Top", type := 3, offset := 36, embedded := false, tag := "", pkgPath := "", byteOffset := 264 }, { name := "Bottom", type := 3, offset := 37, embedded := false, tag := "", pkgPath := "", byteOffset := 272 }, { name := "Tabs", type := 38, offset := 38, embedded := false, tag := "", pkgPath := "", byteOffset := 280 }, { name := "Kept", type := 40, offset := 39, embedded := false, tag := "", pkgPath := "", byteOffset := 304 }, { name := "KeptAlt", type := 40, offset := 58, embedded := false, tag := "", pkgPath := "", byteOffset := 456 }, { name := "Shape", type := 3, offset := 77, embedded := false, tag := "", pkgPath := "", byteOffset := 608 }, { name := "Title", type := 9, offset := 78, embedded := false, tag := "", pkgPath := "", byteOffset := 616 }, { name := "Last", type := 3, offset := 79, embedded := false, tag := "", pkgPath := "", byteOffset := 632 }]) := by kernel_rfl
@[go_sem] theorem fo_41_0 : fieldOff Tryz.prog 41 0 = some 0 := by kernel_rfl
@[go_sem] theorem fo_41_1 : fieldOff Tryz.prog 41 1 = some 1 := by kernel_rfl
@[go_sem] theorem fo_41_2 : fieldOff Tryz.prog 41 2 = some 2 := by kernel_rfl
@[go_sem] theorem fo_41_3 : fieldOff Tryz.prog 41 3 = some 3 := by kernel_rfl
@[go_sem] theorem fo_41_4 : fieldOff Tryz.prog 41 4 = some 4 := by kernel_rfl
@[go_sem] theorem fo_41_5 : fieldOff Tryz.prog 41 5 = some 5 := by kernel_rfl
@[go_sem] theorem fo_41_6 : fieldOff Tryz.prog 41 6 = some 6 := by kernel_rfl
@[go_sem] theorem fo_41_7 : fieldOff Tryz.prog 41 7 = some 9 := by kernel_rfl
@[go_sem] theorem fo_41_8 : fieldOff Tryz.prog 41 8 = some 17 := by kernel_rfl
@[go_sem] theorem fo_41_9 : fieldOff Tryz.prog 41 9 = some 23 := by kernel_rfl
@[go_sem] theorem fo_41_10 : fieldOff Tryz.prog 41 10 = some 36 := by kernel_rfl
@[go_sem] theorem fo_41_11 : fieldOff Tryz.prog 41 11 = some 37 := by kernel_rfl
@[go_sem] theorem fo_41_12 : fieldOff Tryz.prog 41 12 = some 38 := by kernel_rfl
@[go_sem] theorem fo_41_13 : fieldOff Tryz.prog 41 13 = some 39 := by kernel_rfl
@[go_sem] theorem fo_41_14 : fieldOff Tryz.prog 41 14 = some 58 := by kernel_rfl
@[go_sem] theorem fo_41_15 : fieldOff Tryz.prog 41 15 = some 77 := by kernel_rfl
@[go_sem] theorem fo_41_16 : fieldOff Tryz.prog 41 16 = some 78 := by kernel_rfl
@[go_sem] theorem fo_41_17 : fieldOff Tryz.prog 41 17 = some 79 := by kernel_rfl
@[go_sem] theorem ag_42 : aggT Tryz.prog 42 = some true := by kernel_rfl
@[go_sem] theorem sz_42 : sizeT Tryz.prog 42 = some 80 := by kernel_rfl
@[go_sem] theorem un_42 : Tryz.prog.underlying 42 = some (.struct #[{ name := "Cols", type := 3, offset := 0, embedded := false, tag := "", pkgPath := "", byteOffset := 0 }, { name := "Rows", type := 3, offset := 1, embedded := false, tag := "", pkgPath := "", byteOffset := 8 }, { name := "Main", type := 26, offset := 2, embedded := false, tag := "", pkgPath := "", byteOffset := 16 }, { name := "Alt", type := 26, offset := 3, embedded := false, tag := "", pkgPath := "", byteOffset := 40 }, { name := "OnAlt", type := 4, offset := 4, embedded := false, tag := "", pkgPath := "", byteOffset := 64 }, { name := "Past", type := 26, offset := 5, embedded := false, tag := "", pkgPath := "", byteOffset := 72 }, { name := "Cursor", type := 28, offset := 6, embedded := false, tag := "", pkgPath := "", byteOffset := 96 }, { name := "Style", type := 32, offset := 9, embedded := false, tag := "", pkgPath := "", byteOffset := 120 }, { name := "Sets", type := 35, offset := 17, embedded := false, tag := "", pkgPath := "", byteOffset := 184 }, { name := "Modes", type := 37, offset := 23, embedded := false, tag := "", pkgPath := "", byteOffset := 232 }, { name := "Top", type := 3, offset := 36, embedded := false, tag := "", pkgPath := "", byteOffset := 264 }, { name := "Bottom", type := 3, offset := 37, embedded := false, tag := "", pkgPath := "", byteOffset := 272 }, { name := "Tabs", type := 38, offset := 38, embedded := false, tag := "", pkgPath := "", byteOffset := 280 }, { name := "Kept", type := 40, offset := 39, embedded := false, tag := "", pkgPath := "", byteOffset := 304 }, { name := "KeptAlt", type := 40, offset := 58, embedded := false, tag := "", pkgPath := "", byteOffset := 456 }, { name := "Shape", type := 3, offset := 77, embedded := false, tag := "", pkgPath := "", byteOffset := 608 }, { name := "Title", type := 9, offset := 78, embedded := false, tag := "", pkgPath := "", byteOffset := 616 }, { name := "Last", type := 3, offset := 79, embedded := false, tag := "", pkgPath := "", byteOffset := 632 }]) := by kernel_rfl
@[go_sem] theorem fo_42_0 : fieldOff Tryz.prog 42 0 = some 0 := by kernel_rfl
@[go_sem] theorem fo_42_1 : fieldOff Tryz.prog 42 1 = some 1 := by kernel_rfl
@[go_sem] theorem fo_42_2 : fieldOff Tryz.prog 42 2 = some 2 := by kernel_rfl
@[go_sem] theorem fo_42_3 : fieldOff Tryz.prog 42 3 = some 3 := by kernel_rfl
@[go_sem] theorem fo_42_4 : fieldOff Tryz.prog 42 4 = some 4 := by kernel_rfl
@[go_sem] theorem fo_42_5 : fieldOff Tryz.prog 42 5 = some 5 := by kernel_rfl
@[go_sem] theorem fo_42_6 : fieldOff Tryz.prog 42 6 = some 6 := by kernel_rfl
@[go_sem] theorem fo_42_7 : fieldOff Tryz.prog 42 7 = some 9 := by kernel_rfl
@[go_sem] theorem fo_42_8 : fieldOff Tryz.prog 42 8 = some 17 := by kernel_rfl
@[go_sem] theorem fo_42_9 : fieldOff Tryz.prog 42 9 = some 23 := by kernel_rfl
@[go_sem] theorem fo_42_10 : fieldOff Tryz.prog 42 10 = some 36 := by kernel_rfl
@[go_sem] theorem fo_42_11 : fieldOff Tryz.prog 42 11 = some 37 := by kernel_rfl
@[go_sem] theorem fo_42_12 : fieldOff Tryz.prog 42 12 = some 38 := by kernel_rfl
@[go_sem] theorem fo_42_13 : fieldOff Tryz.prog 42 13 = some 39 := by kernel_rfl
@[go_sem] theorem fo_42_14 : fieldOff Tryz.prog 42 14 = some 58 := by kernel_rfl
@[go_sem] theorem fo_42_15 : fieldOff Tryz.prog 42 15 = some 77 := by kernel_rfl
@[go_sem] theorem fo_42_16 : fieldOff Tryz.prog 42 16 = some 78 := by kernel_rfl
@[go_sem] theorem fo_42_17 : fieldOff Tryz.prog 42 17 = some 79 := by kernel_rfl
@[go_sem] theorem ag_43 : aggT Tryz.prog 43 = some true := by kernel_rfl
@[go_sem] theorem sz_43 : sizeT Tryz.prog 43 = some 88 := by kernel_rfl
@[go_sem] theorem un_43 : Tryz.prog.underlying 43 = some (.struct #[{ name := "Parse", type := 25, offset := 0, embedded := false, tag := "", pkgPath := "", byteOffset := 0 }, { name := "Screen", type := 42, offset := 8, embedded := false, tag := "", pkgPath := "", byteOffset := 104 }]) := by kernel_rfl
@[go_sem] theorem fo_43_0 : fieldOff Tryz.prog 43 0 = some 0 := by kernel_rfl
@[go_sem] theorem fo_43_1 : fieldOff Tryz.prog 43 1 = some 8 := by kernel_rfl
@[go_sem] theorem ag_44 : aggT Tryz.prog 44 = some true := by kernel_rfl
@[go_sem] theorem sz_44 : sizeT Tryz.prog 44 = some 88 := by kernel_rfl
@[go_sem] theorem un_44 : Tryz.prog.underlying 44 = some (.struct #[{ name := "Parse", type := 25, offset := 0, embedded := false, tag := "", pkgPath := "", byteOffset := 0 }, { name := "Screen", type := 42, offset := 8, embedded := false, tag := "", pkgPath := "", byteOffset := 104 }]) := by kernel_rfl
@[go_sem] theorem fo_44_0 : fieldOff Tryz.prog 44 0 = some 0 := by kernel_rfl
@[go_sem] theorem fo_44_1 : fieldOff Tryz.prog 44 1 = some 8 := by kernel_rfl
@[go_sem] theorem ag_45 : aggT Tryz.prog 45 = some false := by kernel_rfl
@[go_sem] theorem sz_45 : sizeT Tryz.prog 45 = some 1 := by kernel_rfl
@[go_sem] theorem un_45 : Tryz.prog.underlying 45 = some (.int .i64) := by kernel_rfl
@[go_sem] theorem ze_45 : zeroA Tryz.prog 45 = some [.int .i64 0] := by kernel_rfl
@[go_sem] theorem ei_45 : einfo Tryz.prog 45 = some (1, 8, 1) := by kernel_rfl
@[go_sem] theorem zv_45 : zeroV Tryz.prog 45 = some (.int .i64 0) := by kernel_rfl
@[go_sem] theorem ag_53 : aggT Tryz.prog 53 = some false := by kernel_rfl
@[go_sem] theorem sz_53 : sizeT Tryz.prog 53 = some 1 := by kernel_rfl
@[go_sem] theorem un_53 : Tryz.prog.underlying 53 = some (.slice 73) := by kernel_rfl
@[go_sem] theorem ze_53 : zeroA Tryz.prog 53 = some [.snil] := by kernel_rfl
@[go_sem] theorem ei_53 : einfo Tryz.prog 53 = some (1, 24, 1) := by kernel_rfl
@[go_sem] theorem zv_53 : zeroV Tryz.prog 53 = some (.snil) := by kernel_rfl
@[go_sem] theorem ag_72 : aggT Tryz.prog 72 = some true := by kernel_rfl
@[go_sem] theorem sz_72 : sizeT Tryz.prog 72 = some 6 := by kernel_rfl
@[go_sem] theorem un_72 : Tryz.prog.underlying 72 = some (.struct #[{ name := "Kind", type := 3, offset := 0, embedded := false, tag := "", pkgPath := "", byteOffset := 0 }, { name := "N", type := 3, offset := 1, embedded := false, tag := "", pkgPath := "", byteOffset := 8 }, { name := "M", type := 3, offset := 2, embedded := false, tag := "", pkgPath := "", byteOffset := 16 }, { name := "Color", type := 30, offset := 3, embedded := false, tag := "", pkgPath := "", byteOffset := 24 }, { name := "Text", type := 9, offset := 5, embedded := false, tag := "", pkgPath := "", byteOffset := 40 }]) := by kernel_rfl
@[go_sem] theorem ze_72 : zeroA Tryz.prog 72 = some [.int .i64 0, .int .i64 0, .int .i64 0, .int .i64 0, .int .i64 0, .str []] := by kernel_rfl
@[go_sem] theorem ei_72 : einfo Tryz.prog 72 = some (6, 56, 6) := by kernel_rfl
@[go_sem] theorem zv_72 : zeroV Tryz.prog 72 = some (.agg [.int .i64 0, .int .i64 0, .int .i64 0, .int .i64 0, .int .i64 0, .str []]) := by kernel_rfl
@[go_sem] theorem eg_72 : Tryz.prog.eqGuardType Tryz.prog.depth 72 = false := by kernel_rfl
@[go_sem] theorem sh_72 : Tryz.prog.stoodInHeld 72 = false := by kernel_rfl
@[go_sem] theorem fo_72_0 : fieldOff Tryz.prog 72 0 = some 0 := by kernel_rfl
@[go_sem] theorem fo_72_1 : fieldOff Tryz.prog 72 1 = some 1 := by kernel_rfl
@[go_sem] theorem fo_72_2 : fieldOff Tryz.prog 72 2 = some 2 := by kernel_rfl
@[go_sem] theorem fo_72_3 : fieldOff Tryz.prog 72 3 = some 3 := by kernel_rfl
@[go_sem] theorem fo_72_4 : fieldOff Tryz.prog 72 4 = some 5 := by kernel_rfl
@[go_sem] theorem ag_73 : aggT Tryz.prog 73 = some true := by kernel_rfl
@[go_sem] theorem sz_73 : sizeT Tryz.prog 73 = some 6 := by kernel_rfl
@[go_sem] theorem un_73 : Tryz.prog.underlying 73 = some (.struct #[{ name := "Kind", type := 3, offset := 0, embedded := false, tag := "", pkgPath := "", byteOffset := 0 }, { name := "N", type := 3, offset := 1, embedded := false, tag := "", pkgPath := "", byteOffset := 8 }, { name := "M", type := 3, offset := 2, embedded := false, tag := "", pkgPath := "", byteOffset := 16 }, { name := "Color", type := 30, offset := 3, embedded := false, tag := "", pkgPath := "", byteOffset := 24 }, { name := "Text", type := 9, offset := 5, embedded := false, tag := "", pkgPath := "", byteOffset := 40 }]) := by kernel_rfl
@[go_sem] theorem ze_73 : zeroA Tryz.prog 73 = some [.int .i64 0, .int .i64 0, .int .i64 0, .int .i64 0, .int .i64 0, .str []] := by kernel_rfl
@[go_sem] theorem ei_73 : einfo Tryz.prog 73 = some (6, 56, 6) := by kernel_rfl
@[go_sem] theorem zv_73 : zeroV Tryz.prog 73 = some (.agg [.int .i64 0, .int .i64 0, .int .i64 0, .int .i64 0, .int .i64 0, .str []]) := by kernel_rfl
@[go_sem] theorem eg_73 : Tryz.prog.eqGuardType Tryz.prog.depth 73 = false := by kernel_rfl
@[go_sem] theorem sh_73 : Tryz.prog.stoodInHeld 73 = false := by kernel_rfl
@[go_sem] theorem fo_73_0 : fieldOff Tryz.prog 73 0 = some 0 := by kernel_rfl
@[go_sem] theorem fo_73_1 : fieldOff Tryz.prog 73 1 = some 1 := by kernel_rfl
@[go_sem] theorem fo_73_2 : fieldOff Tryz.prog 73 2 = some 2 := by kernel_rfl
@[go_sem] theorem fo_73_3 : fieldOff Tryz.prog 73 3 = some 3 := by kernel_rfl
@[go_sem] theorem fo_73_4 : fieldOff Tryz.prog 73 4 = some 5 := by kernel_rfl
@[go_sem] theorem ag_75 : aggT Tryz.prog 75 = some false := by kernel_rfl
@[go_sem] theorem sz_75 : sizeT Tryz.prog 75 = some 1 := by kernel_rfl
@[go_sem] theorem un_75 : Tryz.prog.underlying 75 = some (.slice 9) := by kernel_rfl
@[go_sem] theorem ze_75 : zeroA Tryz.prog 75 = some [.snil] := by kernel_rfl
@[go_sem] theorem ei_75 : einfo Tryz.prog 75 = some (1, 24, 1) := by kernel_rfl
@[go_sem] theorem zv_75 : zeroV Tryz.prog 75 = some (.snil) := by kernel_rfl
@[go_sem] theorem ag_79 : aggT Tryz.prog 79 = some false := by kernel_rfl
@[go_sem] theorem sz_79 : sizeT Tryz.prog 79 = some 1 := by kernel_rfl
@[go_sem] theorem un_79 : Tryz.prog.underlying 79 = some (.slice 3) := by kernel_rfl
@[go_sem] theorem ze_79 : zeroA Tryz.prog 79 = some [.snil] := by kernel_rfl
@[go_sem] theorem ei_79 : einfo Tryz.prog 79 = some (1, 24, 1) := by kernel_rfl
@[go_sem] theorem zv_79 : zeroV Tryz.prog 79 = some (.snil) := by kernel_rfl
@[go_sem] theorem ag_80 : aggT Tryz.prog 80 = some false := by kernel_rfl
@[go_sem] theorem sz_80 : sizeT Tryz.prog 80 = some 1 := by kernel_rfl
@[go_sem] theorem un_80 : Tryz.prog.underlying 80 = some (.slice 85) := by kernel_rfl
@[go_sem] theorem ze_80 : zeroA Tryz.prog 80 = some [.snil] := by kernel_rfl
@[go_sem] theorem ei_80 : einfo Tryz.prog 80 = some (1, 24, 1) := by kernel_rfl
@[go_sem] theorem zv_80 : zeroV Tryz.prog 80 = some (.snil) := by kernel_rfl
@[go_sem] theorem ag_81 : aggT Tryz.prog 81 = some true := by kernel_rfl
@[go_sem] theorem sz_81 : sizeT Tryz.prog 81 = some 2 := by kernel_rfl
@[go_sem] theorem un_81 : Tryz.prog.underlying 81 = some (.struct #[{ name := "Cells", type := 80, offset := 0, embedded := false, tag := "", pkgPath := "", byteOffset := 0 }, { name := "Wrapped", type := 4, offset := 1, embedded := false, tag := "", pkgPath := "", byteOffset := 24 }]) := by kernel_rfl
@[go_sem] theorem ze_81 : zeroA Tryz.prog 81 = some [.snil, .bool false] := by kernel_rfl
@[go_sem] theorem ei_81 : einfo Tryz.prog 81 = some (2, 32, 2) := by kernel_rfl
@[go_sem] theorem zv_81 : zeroV Tryz.prog 81 = some (.agg [.snil, .bool false]) := by kernel_rfl
@[go_sem] theorem fo_81_0 : fieldOff Tryz.prog 81 0 = some 0 := by kernel_rfl
@[go_sem] theorem fo_81_1 : fieldOff Tryz.prog 81 1 = some 1 := by kernel_rfl
@[go_sem] theorem ag_82 : aggT Tryz.prog 82 = some true := by kernel_rfl
@[go_sem] theorem sz_82 : sizeT Tryz.prog 82 = some 2 := by kernel_rfl
@[go_sem] theorem un_82 : Tryz.prog.underlying 82 = some (.struct #[{ name := "Cells", type := 80, offset := 0, embedded := false, tag := "", pkgPath := "", byteOffset := 0 }, { name := "Wrapped", type := 4, offset := 1, embedded := false, tag := "", pkgPath := "", byteOffset := 24 }]) := by kernel_rfl
@[go_sem] theorem ze_82 : zeroA Tryz.prog 82 = some [.snil, .bool false] := by kernel_rfl
@[go_sem] theorem ei_82 : einfo Tryz.prog 82 = some (2, 32, 2) := by kernel_rfl
@[go_sem] theorem zv_82 : zeroV Tryz.prog 82 = some (.agg [.snil, .bool false]) := by kernel_rfl
@[go_sem] theorem fo_82_0 : fieldOff Tryz.prog 82 0 = some 0 := by kernel_rfl
@[go_sem] theorem fo_82_1 : fieldOff Tryz.prog 82 1 = some 1 := by kernel_rfl
@[go_sem] theorem ag_83 : aggT Tryz.prog 83 = some true := by kernel_rfl
@[go_sem] theorem sz_83 : sizeT Tryz.prog 83 = some 2 := by kernel_rfl
@[go_sem] theorem un_83 : Tryz.prog.underlying 83 = some (.array 2 3) := by kernel_rfl
@[go_sem] theorem ze_83 : zeroA Tryz.prog 83 = some [.int .i64 0, .int .i64 0] := by kernel_rfl
@[go_sem] theorem ei_83 : einfo Tryz.prog 83 = some (2, 16, 2) := by kernel_rfl
@[go_sem] theorem zv_83 : zeroV Tryz.prog 83 = some (.agg [.int .i64 0, .int .i64 0]) := by kernel_rfl
@[go_sem] theorem ag_84 : aggT Tryz.prog 84 = some true := by kernel_rfl
@[go_sem] theorem sz_84 : sizeT Tryz.prog 84 = some 12 := by kernel_rfl
@[go_sem] theorem un_84 : Tryz.prog.underlying 84 = some (.struct #[{ name := "Base", type := 3, offset := 0, embedded := false, tag := "", pkgPath := "", byteOffset := 0 }, { name := "Marks", type := 83, offset := 1, embedded := false, tag := "", pkgPath := "", byteOffset := 8 }, { name := "Wide", type := 3, offset := 3, embedded := false, tag := "", pkgPath := "", byteOffset := 24 }, { name := "Style", type := 32, offset := 4, embedded := false, tag := "", pkgPath := "", byteOffset := 32 }]) := by kernel_rfl
@[go_sem] theorem ze_84 : zeroA Tryz.prog 84 = some [.int .i64 0, .int .i64 0, .int .i64 0, .int .i64 0, .int .i64 0, .int .i64 0, .int .i64 0, .int .i64 0, .int .i64 0, .int .i64 0, .int .i64 0, .int .i64 0] := by kernel_rfl
@[go_sem] theorem ei_84 : einfo Tryz.prog 84 = some (12, 96, 12) := by kernel_rfl
@[go_sem] theorem zv_84 : zeroV Tryz.prog 84 = some (.agg [.int .i64 0, .int .i64 0, .int .i64 0, .int .i64 0, .int .i64 0, .int .i64 0, .int .i64 0, .int .i64 0, .int .i64 0, .int .i64 0, .int .i64 0, .int .i64 0]) := by kernel_rfl
@[go_sem] theorem fo_84_0 : fieldOff Tryz.prog 84 0 = some 0 := by kernel_rfl
@[go_sem] theorem fo_84_1 : fieldOff Tryz.prog 84 1 = some 1 := by kernel_rfl
@[go_sem] theorem fo_84_2 : fieldOff Tryz.prog 84 2 = some 3 := by kernel_rfl
@[go_sem] theorem fo_84_3 : fieldOff Tryz.prog 84 3 = some 4 := by kernel_rfl
@[go_sem] theorem ag_85 : aggT Tryz.prog 85 = some true := by kernel_rfl
@[go_sem] theorem sz_85 : sizeT Tryz.prog 85 = some 12 := by kernel_rfl
@[go_sem] theorem un_85 : Tryz.prog.underlying 85 = some (.struct #[{ name := "Base", type := 3, offset := 0, embedded := false, tag := "", pkgPath := "", byteOffset := 0 }, { name := "Marks", type := 83, offset := 1, embedded := false, tag := "", pkgPath := "", byteOffset := 8 }, { name := "Wide", type := 3, offset := 3, embedded := false, tag := "", pkgPath := "", byteOffset := 24 }, { name := "Style", type := 32, offset := 4, embedded := false, tag := "", pkgPath := "", byteOffset := 32 }]) := by kernel_rfl
@[go_sem] theorem ze_85 : zeroA Tryz.prog 85 = some [.int .i64 0, .int .i64 0, .int .i64 0, .int .i64 0, .int .i64 0, .int .i64 0, .int .i64 0, .int .i64 0, .int .i64 0, .int .i64 0, .int .i64 0, .int .i64 0] := by kernel_rfl
@[go_sem] theorem ei_85 : einfo Tryz.prog 85 = some (12, 96, 12) := by kernel_rfl
@[go_sem] theorem zv_85 : zeroV Tryz.prog 85 = some (.agg [.int .i64 0, .int .i64 0, .int .i64 0, .int .i64 0, .int .i64 0, .int .i64 0, .int .i64 0, .int .i64 0, .int .i64 0, .int .i64 0, .int .i64 0, .int .i64 0]) := by kernel_rfl
@[go_sem] theorem fo_85_0 : fieldOff Tryz.prog 85 0 = some 0 := by kernel_rfl
@[go_sem] theorem fo_85_1 : fieldOff Tryz.prog 85 1 = some 1 := by kernel_rfl
@[go_sem] theorem fo_85_2 : fieldOff Tryz.prog 85 2 = some 3 := by kernel_rfl
@[go_sem] theorem fo_85_3 : fieldOff Tryz.prog 85 3 = some 4 := by kernel_rfl
@[go_sem] theorem ag_105 : aggT Tryz.prog 105 = some false := by kernel_rfl
@[go_sem] theorem sz_105 : sizeT Tryz.prog 105 = some 1 := by kernel_rfl
@[go_sem] theorem un_105 : Tryz.prog.underlying 105 = some (.pointer 107) := by kernel_rfl
@[go_sem] theorem ze_105 : zeroA Tryz.prog 105 = some [.nilp] := by kernel_rfl
@[go_sem] theorem ei_105 : einfo Tryz.prog 105 = some (1, 8, 1) := by kernel_rfl
@[go_sem] theorem zv_105 : zeroV Tryz.prog 105 = some (.nilp) := by kernel_rfl
@[go_sem] theorem ag_106 : aggT Tryz.prog 106 = some true := by kernel_rfl
@[go_sem] theorem sz_106 : sizeT Tryz.prog 106 = some 80 := by kernel_rfl
@[go_sem] theorem un_106 : Tryz.prog.underlying 106 = some (.struct #[{ name := "Screen", type := 42, offset := 0, embedded := true, tag := "", pkgPath := "", byteOffset := 0 }]) := by kernel_rfl
@[go_sem] theorem fo_106_0 : fieldOff Tryz.prog 106 0 = some 0 := by kernel_rfl
@[go_sem] theorem ag_107 : aggT Tryz.prog 107 = some true := by kernel_rfl
@[go_sem] theorem sz_107 : sizeT Tryz.prog 107 = some 80 := by kernel_rfl
@[go_sem] theorem un_107 : Tryz.prog.underlying 107 = some (.struct #[{ name := "Screen", type := 42, offset := 0, embedded := true, tag := "", pkgPath := "", byteOffset := 0 }]) := by kernel_rfl
@[go_sem] theorem fo_107_0 : fieldOff Tryz.prog 107 0 = some 0 := by kernel_rfl
@[go_sem] theorem ag_109 : aggT Tryz.prog 109 = some true := by kernel_rfl
@[go_sem] theorem sz_109 : sizeT Tryz.prog 109 = some 2 := by kernel_rfl
@[go_sem] theorem un_109 : Tryz.prog.underlying 109 = some (.struct #[{ name := "Row", type := 3, offset := 0, embedded := false, tag := "", pkgPath := "", byteOffset := 0 }, { name := "Col", type := 3, offset := 1, embedded := false, tag := "", pkgPath := "", byteOffset := 8 }]) := by kernel_rfl
@[go_sem] theorem ze_109 : zeroA Tryz.prog 109 = some [.int .i64 0, .int .i64 0] := by kernel_rfl
@[go_sem] theorem ei_109 : einfo Tryz.prog 109 = some (2, 16, 2) := by kernel_rfl
@[go_sem] theorem zv_109 : zeroV Tryz.prog 109 = some (.agg [.int .i64 0, .int .i64 0]) := by kernel_rfl
@[go_sem] theorem eg_109 : Tryz.prog.eqGuardType Tryz.prog.depth 109 = false := by kernel_rfl
@[go_sem] theorem sh_109 : Tryz.prog.stoodInHeld 109 = false := by kernel_rfl
@[go_sem] theorem fo_109_0 : fieldOff Tryz.prog 109 0 = some 0 := by kernel_rfl
@[go_sem] theorem fo_109_1 : fieldOff Tryz.prog 109 1 = some 1 := by kernel_rfl
@[go_sem] theorem ag_110 : aggT Tryz.prog 110 = some true := by kernel_rfl
@[go_sem] theorem sz_110 : sizeT Tryz.prog 110 = some 2 := by kernel_rfl
@[go_sem] theorem un_110 : Tryz.prog.underlying 110 = some (.struct #[{ name := "Row", type := 3, offset := 0, embedded := false, tag := "", pkgPath := "", byteOffset := 0 }, { name := "Col", type := 3, offset := 1, embedded := false, tag := "", pkgPath := "", byteOffset := 8 }]) := by kernel_rfl
@[go_sem] theorem ze_110 : zeroA Tryz.prog 110 = some [.int .i64 0, .int .i64 0] := by kernel_rfl
@[go_sem] theorem ei_110 : einfo Tryz.prog 110 = some (2, 16, 2) := by kernel_rfl
@[go_sem] theorem zv_110 : zeroV Tryz.prog 110 = some (.agg [.int .i64 0, .int .i64 0]) := by kernel_rfl
@[go_sem] theorem eg_110 : Tryz.prog.eqGuardType Tryz.prog.depth 110 = false := by kernel_rfl
@[go_sem] theorem sh_110 : Tryz.prog.stoodInHeld 110 = false := by kernel_rfl
@[go_sem] theorem fo_110_0 : fieldOff Tryz.prog 110 0 = some 0 := by kernel_rfl
@[go_sem] theorem fo_110_1 : fieldOff Tryz.prog 110 1 = some 1 := by kernel_rfl
@[go_sem] theorem ag_111 : aggT Tryz.prog 111 = some true := by kernel_rfl
@[go_sem] theorem sz_111 : sizeT Tryz.prog 111 = some 4 := by kernel_rfl
@[go_sem] theorem un_111 : Tryz.prog.underlying 111 = some (.struct #[{ name := "Past", type := 26, offset := 0, embedded := false, tag := "", pkgPath := "", byteOffset := 0 }, { name := "Rows", type := 26, offset := 1, embedded := false, tag := "", pkgPath := "", byteOffset := 24 }, { name := "At", type := 110, offset := 2, embedded := false, tag := "", pkgPath := "", byteOffset := 48 }]) := by kernel_rfl
@[go_sem] theorem ze_111 : zeroA Tryz.prog 111 = some [.snil, .snil, .int .i64 0, .int .i64 0] := by kernel_rfl
@[go_sem] theorem ei_111 : einfo Tryz.prog 111 = some (4, 64, 4) := by kernel_rfl
@[go_sem] theorem zv_111 : zeroV Tryz.prog 111 = some (.agg [.snil, .snil, .int .i64 0, .int .i64 0]) := by kernel_rfl
@[go_sem] theorem fo_111_0 : fieldOff Tryz.prog 111 0 = some 0 := by kernel_rfl
@[go_sem] theorem fo_111_1 : fieldOff Tryz.prog 111 1 = some 1 := by kernel_rfl
@[go_sem] theorem fo_111_2 : fieldOff Tryz.prog 111 2 = some 2 := by kernel_rfl
@[go_sem] theorem ag_112 : aggT Tryz.prog 112 = some true := by kernel_rfl
@[go_sem] theorem sz_112 : sizeT Tryz.prog 112 = some 4 := by kernel_rfl
@[go_sem] theorem un_112 : Tryz.prog.underlying 112 = some (.struct #[{ name := "Past", type := 26, offset := 0, embedded := false, tag := "", pkgPath := "", byteOffset := 0 }, { name := "Rows", type := 26, offset := 1, embedded := false, tag := "", pkgPath := "", byteOffset := 24 }, { name := "At", type := 110, offset := 2, embedded := false, tag := "", pkgPath := "", byteOffset := 48 }]) := by kernel_rfl
@[go_sem] theorem ze_112 : zeroA Tryz.prog 112 = some [.snil, .snil, .int .i64 0, .int .i64 0] := by kernel_rfl
@[go_sem] theorem ei_112 : einfo Tryz.prog 112 = some (4, 64, 4) := by kernel_rfl
@[go_sem] theorem zv_112 : zeroV Tryz.prog 112 = some (.agg [.snil, .snil, .int .i64 0, .int .i64 0]) := by kernel_rfl
@[go_sem] theorem fo_112_0 : fieldOff Tryz.prog 112 0 = some 0 := by kernel_rfl
@[go_sem] theorem fo_112_1 : fieldOff Tryz.prog 112 1 = some 1 := by kernel_rfl
@[go_sem] theorem fo_112_2 : fieldOff Tryz.prog 112 2 = some 2 := by kernel_rfl
@[go_sem] theorem ag_118 : aggT Tryz.prog 118 = some true := by kernel_rfl
@[go_sem] theorem sz_118 : sizeT Tryz.prog 118 = some 5 := by kernel_rfl
@[go_sem] theorem un_118 : Tryz.prog.underlying 118 = some (.struct #[{ name := "Rows", type := 3, offset := 0, embedded := false, tag := "", pkgPath := "", byteOffset := 0 }, { name := "Cols", type := 3, offset := 1, embedded := false, tag := "", pkgPath := "", byteOffset := 8 }, { name := "Top", type := 3, offset := 2, embedded := false, tag := "", pkgPath := "", byteOffset := 16 }, { name := "Bottom", type := 3, offset := 3, embedded := false, tag := "", pkgPath := "", byteOffset := 24 }, { name := "Origin", type := 4, offset := 4, embedded := false, tag := "", pkgPath := "", byteOffset := 32 }]) := by kernel_rfl
@[go_sem] theorem ze_118 : zeroA Tryz.prog 118 = some [.int .i64 0, .int .i64 0, .int .i64 0, .int .i64 0, .bool false] := by kernel_rfl
@[go_sem] theorem ei_118 : einfo Tryz.prog 118 = some (5, 40, 5) := by kernel_rfl
@[go_sem] theorem zv_118 : zeroV Tryz.prog 118 = some (.agg [.int .i64 0, .int .i64 0, .int .i64 0, .int .i64 0, .bool false]) := by kernel_rfl
@[go_sem] theorem eg_118 : Tryz.prog.eqGuardType Tryz.prog.depth 118 = false := by kernel_rfl
@[go_sem] theorem sh_118 : Tryz.prog.stoodInHeld 118 = false := by kernel_rfl
@[go_sem] theorem fo_118_0 : fieldOff Tryz.prog 118 0 = some 0 := by kernel_rfl
@[go_sem] theorem fo_118_1 : fieldOff Tryz.prog 118 1 = some 1 := by kernel_rfl
@[go_sem] theorem fo_118_2 : fieldOff Tryz.prog 118 2 = some 2 := by kernel_rfl
@[go_sem] theorem fo_118_3 : fieldOff Tryz.prog 118 3 = some 3 := by kernel_rfl
@[go_sem] theorem fo_118_4 : fieldOff Tryz.prog 118 4 = some 4 := by kernel_rfl
@[go_sem] theorem ag_119 : aggT Tryz.prog 119 = some true := by kernel_rfl
@[go_sem] theorem sz_119 : sizeT Tryz.prog 119 = some 5 := by kernel_rfl
@[go_sem] theorem un_119 : Tryz.prog.underlying 119 = some (.struct #[{ name := "Rows", type := 3, offset := 0, embedded := false, tag := "", pkgPath := "", byteOffset := 0 }, { name := "Cols", type := 3, offset := 1, embedded := false, tag := "", pkgPath := "", byteOffset := 8 }, { name := "Top", type := 3, offset := 2, embedded := false, tag := "", pkgPath := "", byteOffset := 16 }, { name := "Bottom", type := 3, offset := 3, embedded := false, tag := "", pkgPath := "", byteOffset := 24 }, { name := "Origin", type := 4, offset := 4, embedded := false, tag := "", pkgPath := "", byteOffset := 32 }]) := by kernel_rfl
@[go_sem] theorem ze_119 : zeroA Tryz.prog 119 = some [.int .i64 0, .int .i64 0, .int .i64 0, .int .i64 0, .bool false] := by kernel_rfl
@[go_sem] theorem ei_119 : einfo Tryz.prog 119 = some (5, 40, 5) := by kernel_rfl
@[go_sem] theorem zv_119 : zeroV Tryz.prog 119 = some (.agg [.int .i64 0, .int .i64 0, .int .i64 0, .int .i64 0, .bool false]) := by kernel_rfl
@[go_sem] theorem eg_119 : Tryz.prog.eqGuardType Tryz.prog.depth 119 = false := by kernel_rfl
@[go_sem] theorem sh_119 : Tryz.prog.stoodInHeld 119 = false := by kernel_rfl
@[go_sem] theorem fo_119_0 : fieldOff Tryz.prog 119 0 = some 0 := by kernel_rfl
@[go_sem] theorem fo_119_1 : fieldOff Tryz.prog 119 1 = some 1 := by kernel_rfl
@[go_sem] theorem fo_119_2 : fieldOff Tryz.prog 119 2 = some 2 := by kernel_rfl
@[go_sem] theorem fo_119_3 : fieldOff Tryz.prog 119 3 = some 3 := by kernel_rfl
@[go_sem] theorem fo_119_4 : fieldOff Tryz.prog 119 4 = some 4 := by kernel_rfl
@[go_sem] theorem ag_133 : aggT Tryz.prog 133 = some true := by kernel_rfl
@[go_sem] theorem sz_133 : sizeT Tryz.prog 133 = some 15 := by kernel_rfl
@[go_sem] theorem un_133 : Tryz.prog.underlying 133 = some (.array 15 3) := by kernel_rfl
@[go_sem] theorem ze_133 : zeroA Tryz.prog 133 = some [.int .i64 0, .int .i64 0, .int .i64 0, .int .i64 0, .int .i64 0, .int .i64 0, .int .i64 0, .int .i64 0, .int .i64 0, .int .i64 0, .int .i64 0, .int .i64 0, .int .i64 0, .int .i64 0, .int .i64 0] := by kernel_rfl
@[go_sem] theorem ei_133 : einfo Tryz.prog 133 = some (15, 120, 15) := by kernel_rfl
@[go_sem] theorem zv_133 : zeroV Tryz.prog 133 = some (.agg [.int .i64 0, .int .i64 0, .int .i64 0, .int .i64 0, .int .i64 0, .int .i64 0, .int .i64 0, .int .i64 0, .int .i64 0, .int .i64 0, .int .i64 0, .int .i64 0, .int .i64 0, .int .i64 0, .int .i64 0]) := by kernel_rfl
@[go_sem] theorem ag_135 : aggT Tryz.prog 135 = some false := by kernel_rfl
@[go_sem] theorem sz_135 : sizeT Tryz.prog 135 = some 1 := by kernel_rfl
@[go_sem] theorem un_135 : Tryz.prog.underlying 135 = some (.func #[3] #[4] false) := by kernel_rfl
@[go_sem] theorem ze_135 : zeroA Tryz.prog 135 = some [.fnil] := by kernel_rfl
@[go_sem] theorem ei_135 : einfo Tryz.prog 135 = some (1, 8, 1) := by kernel_rfl
@[go_sem] theorem zv_135 : zeroV Tryz.prog 135 = some (.fnil) := by kernel_rfl
@[go_sem] theorem ag_157 : aggT Tryz.prog 157 = some true := by kernel_rfl
@[go_sem] theorem sz_157 : sizeT Tryz.prog 157 = some 4 := by kernel_rfl
@[go_sem] theorem un_157 : Tryz.prog.underlying 157 = some (.struct #[{ name := "rows", type := 26, offset := 0, embedded := false, tag := "", pkgPath := "fenestra/reflow", byteOffset := 0 }, { name := "border", type := 3, offset := 1, embedded := false, tag := "", pkgPath := "fenestra/reflow", byteOffset := 24 }, { name := "at", type := 110, offset := 2, embedded := false, tag := "", pkgPath := "fenestra/reflow", byteOffset := 32 }]) := by kernel_rfl
@[go_sem] theorem ze_157 : zeroA Tryz.prog 157 = some [.snil, .int .i64 0, .int .i64 0, .int .i64 0] := by kernel_rfl
@[go_sem] theorem ei_157 : einfo Tryz.prog 157 = some (4, 48, 4) := by kernel_rfl
@[go_sem] theorem zv_157 : zeroV Tryz.prog 157 = some (.agg [.snil, .int .i64 0, .int .i64 0, .int .i64 0]) := by kernel_rfl
@[go_sem] theorem fo_157_0 : fieldOff Tryz.prog 157 0 = some 0 := by kernel_rfl
@[go_sem] theorem fo_157_1 : fieldOff Tryz.prog 157 1 = some 1 := by kernel_rfl
@[go_sem] theorem fo_157_2 : fieldOff Tryz.prog 157 2 = some 2 := by kernel_rfl
@[go_sem] theorem ag_158 : aggT Tryz.prog 158 = some true := by kernel_rfl
@[go_sem] theorem sz_158 : sizeT Tryz.prog 158 = some 4 := by kernel_rfl
@[go_sem] theorem un_158 : Tryz.prog.underlying 158 = some (.struct #[{ name := "rows", type := 26, offset := 0, embedded := false, tag := "", pkgPath := "fenestra/reflow", byteOffset := 0 }, { name := "border", type := 3, offset := 1, embedded := false, tag := "", pkgPath := "fenestra/reflow", byteOffset := 24 }, { name := "at", type := 110, offset := 2, embedded := false, tag := "", pkgPath := "fenestra/reflow", byteOffset := 32 }]) := by kernel_rfl
@[go_sem] theorem ze_158 : zeroA Tryz.prog 158 = some [.snil, .int .i64 0, .int .i64 0, .int .i64 0] := by kernel_rfl
@[go_sem] theorem ei_158 : einfo Tryz.prog 158 = some (4, 48, 4) := by kernel_rfl
@[go_sem] theorem zv_158 : zeroV Tryz.prog 158 = some (.agg [.snil, .int .i64 0, .int .i64 0, .int .i64 0]) := by kernel_rfl
@[go_sem] theorem fo_158_0 : fieldOff Tryz.prog 158 0 = some 0 := by kernel_rfl
@[go_sem] theorem fo_158_1 : fieldOff Tryz.prog 158 1 = some 1 := by kernel_rfl
@[go_sem] theorem fo_158_2 : fieldOff Tryz.prog 158 2 = some 2 := by kernel_rfl
@[go_sem] theorem ag_169 : aggT Tryz.prog 169 = some true := by kernel_rfl
@[go_sem] theorem sz_169 : sizeT Tryz.prog 169 = some 1 := by kernel_rfl
@[go_sem] theorem un_169 : Tryz.prog.underlying 169 = some (.struct #[{ name := "Subs", type := 79, offset := 0, embedded := false, tag := "", pkgPath := "", byteOffset := 0 }]) := by kernel_rfl
@[go_sem] theorem ze_169 : zeroA Tryz.prog 169 = some [.snil] := by kernel_rfl
@[go_sem] theorem ei_169 : einfo Tryz.prog 169 = some (1, 24, 1) := by kernel_rfl
@[go_sem] theorem zv_169 : zeroV Tryz.prog 169 = some (.agg [.snil]) := by kernel_rfl
@[go_sem] theorem fo_169_0 : fieldOff Tryz.prog 169 0 = some 0 := by kernel_rfl
@[go_sem] theorem ag_170 : aggT Tryz.prog 170 = some true := by kernel_rfl
@[go_sem] theorem sz_170 : sizeT Tryz.prog 170 = some 1 := by kernel_rfl
@[go_sem] theorem un_170 : Tryz.prog.underlying 170 = some (.struct #[{ name := "Subs", type := 79, offset := 0, embedded := false, tag := "", pkgPath := "", byteOffset := 0 }]) := by kernel_rfl
@[go_sem] theorem ze_170 : zeroA Tryz.prog 170 = some [.snil] := by kernel_rfl
@[go_sem] theorem ei_170 : einfo Tryz.prog 170 = some (1, 24, 1) := by kernel_rfl
@[go_sem] theorem zv_170 : zeroV Tryz.prog 170 = some (.agg [.snil]) := by kernel_rfl
@[go_sem] theorem fo_170_0 : fieldOff Tryz.prog 170 0 = some 0 := by kernel_rfl
@[go_sem] theorem ag_177 : aggT Tryz.prog 177 = some false := by kernel_rfl
@[go_sem] theorem sz_177 : sizeT Tryz.prog 177 = some 1 := by kernel_rfl
@[go_sem] theorem un_177 : Tryz.prog.underlying 177 = some (.func #[170] #[4] false) := by kernel_rfl
@[go_sem] theorem ze_177 : zeroA Tryz.prog 177 = some [.fnil] := by kernel_rfl
@[go_sem] theorem ei_177 : einfo Tryz.prog 177 = some (1, 8, 1) := by kernel_rfl
@[go_sem] theorem zv_177 : zeroV Tryz.prog 177 = some (.fnil) := by kernel_rfl
@[go_sem] theorem ag_185 : aggT Tryz.prog 185 = some true := by kernel_rfl
@[go_sem] theorem sz_185 : sizeT Tryz.prog 185 = some 6 := by kernel_rfl
@[go_sem] theorem un_185 : Tryz.prog.underlying 185 = some (.array 3 30) := by kernel_rfl
@[go_sem] theorem ze_185 : zeroA Tryz.prog 185 = some [.int .i64 0, .int .i64 0, .int .i64 0, .int .i64 0, .int .i64 0, .int .i64 0] := by kernel_rfl
@[go_sem] theorem ei_185 : einfo Tryz.prog 185 = some (6, 48, 6) := by kernel_rfl
@[go_sem] theorem zv_185 : zeroV Tryz.prog 185 = some (.agg [.int .i64 0, .int .i64 0, .int .i64 0, .int .i64 0, .int .i64 0, .int .i64 0]) := by kernel_rfl
@[go_sem] theorem ag_193 : aggT Tryz.prog 193 = some false := by kernel_rfl
@[go_sem] theorem sz_193 : sizeT Tryz.prog 193 = some 1 := by kernel_rfl
@[go_sem] theorem un_193 : Tryz.prog.underlying 193 = some (.map 3 73) := by kernel_rfl
@[go_sem] theorem ze_193 : zeroA Tryz.prog 193 = some [.mnil] := by kernel_rfl
@[go_sem] theorem ei_193 : einfo Tryz.prog 193 = some (1, 8, 1) := by kernel_rfl
@[go_sem] theorem zv_193 : zeroV Tryz.prog 193 = some (.mnil) := by kernel_rfl
@[go_sem] theorem ag_195 : aggT Tryz.prog 195 = some false := by kernel_rfl
@[go_sem] theorem sz_195 : sizeT Tryz.prog 195 = some 1 := by kernel_rfl
@[go_sem] theorem un_195 : Tryz.prog.underlying 195 = some (.map 198 73) := by kernel_rfl
@[go_sem] theorem ze_195 : zeroA Tryz.prog 195 = some [.mnil] := by kernel_rfl
@[go_sem] theorem ei_195 : einfo Tryz.prog 195 = some (1, 8, 1) := by kernel_rfl
@[go_sem] theorem zv_195 : zeroV Tryz.prog 195 = some (.mnil) := by kernel_rfl
@[go_sem] theorem ag_197 : aggT Tryz.prog 197 = some true := by kernel_rfl
@[go_sem] theorem sz_197 : sizeT Tryz.prog 197 = some 3 := by kernel_rfl
@[go_sem] theorem un_197 : Tryz.prog.underlying 197 = some (.struct #[{ name := "private", type := 5, offset := 0, embedded := false, tag := "", pkgPath := "fenestra/action", byteOffset := 0 }, { name := "inter", type := 9, offset := 1, embedded := false, tag := "", pkgPath := "fenestra/action", byteOffset := 8 }, { name := "final", type := 5, offset := 2, embedded := false, tag := "", pkgPath := "fenestra/action", byteOffset := 24 }]) := by kernel_rfl
@[go_sem] theorem ze_197 : zeroA Tryz.prog 197 = some [.int .u8 0, .str [], .int .u8 0] := by kernel_rfl
@[go_sem] theorem ei_197 : einfo Tryz.prog 197 = some (3, 32, 3) := by kernel_rfl
@[go_sem] theorem zv_197 : zeroV Tryz.prog 197 = some (.agg [.int .u8 0, .str [], .int .u8 0]) := by kernel_rfl
@[go_sem] theorem fo_197_0 : fieldOff Tryz.prog 197 0 = some 0 := by kernel_rfl
@[go_sem] theorem fo_197_1 : fieldOff Tryz.prog 197 1 = some 1 := by kernel_rfl
@[go_sem] theorem fo_197_2 : fieldOff Tryz.prog 197 2 = some 2 := by kernel_rfl
@[go_sem] theorem ag_198 : aggT Tryz.prog 198 = some true := by kernel_rfl
@[go_sem] theorem sz_198 : sizeT Tryz.prog 198 = some 3 := by kernel_rfl
@[go_sem] theorem un_198 : Tryz.prog.underlying 198 = some (.struct #[{ name := "private", type := 5, offset := 0, embedded := false, tag := "", pkgPath := "fenestra/action", byteOffset := 0 }, { name := "inter", type := 9, offset := 1, embedded := false, tag := "", pkgPath := "fenestra/action", byteOffset := 8 }, { name := "final", type := 5, offset := 2, embedded := false, tag := "", pkgPath := "fenestra/action", byteOffset := 24 }]) := by kernel_rfl
@[go_sem] theorem ze_198 : zeroA Tryz.prog 198 = some [.int .u8 0, .str [], .int .u8 0] := by kernel_rfl
@[go_sem] theorem ei_198 : einfo Tryz.prog 198 = some (3, 32, 3) := by kernel_rfl
@[go_sem] theorem zv_198 : zeroV Tryz.prog 198 = some (.agg [.int .u8 0, .str [], .int .u8 0]) := by kernel_rfl
@[go_sem] theorem fo_198_0 : fieldOff Tryz.prog 198 0 = some 0 := by kernel_rfl
@[go_sem] theorem fo_198_1 : fieldOff Tryz.prog 198 1 = some 1 := by kernel_rfl
@[go_sem] theorem fo_198_2 : fieldOff Tryz.prog 198 2 = some 2 := by kernel_rfl
@[go_sem] theorem ag_200 : aggT Tryz.prog 200 = some false := by kernel_rfl
@[go_sem] theorem sz_200 : sizeT Tryz.prog 200 = some 1 := by kernel_rfl
@[go_sem] theorem un_200 : Tryz.prog.underlying 200 = some (.func #[23] #[53] false) := by kernel_rfl
@[go_sem] theorem ze_200 : zeroA Tryz.prog 200 = some [.fnil] := by kernel_rfl
@[go_sem] theorem ei_200 : einfo Tryz.prog 200 = some (1, 8, 1) := by kernel_rfl
@[go_sem] theorem zv_200 : zeroV Tryz.prog 200 = some (.fnil) := by kernel_rfl
@[go_sem] theorem ag_201 : aggT Tryz.prog 201 = some false := by kernel_rfl
@[go_sem] theorem sz_201 : sizeT Tryz.prog 201 = some 1 := by kernel_rfl
@[go_sem] theorem un_201 : Tryz.prog.underlying 201 = some (.func #[23] #[53] false) := by kernel_rfl
@[go_sem] theorem ze_201 : zeroA Tryz.prog 201 = some [.fnil] := by kernel_rfl
@[go_sem] theorem ei_201 : einfo Tryz.prog 201 = some (1, 8, 1) := by kernel_rfl
@[go_sem] theorem zv_201 : zeroV Tryz.prog 201 = some (.fnil) := by kernel_rfl
@[go_sem] theorem ag_203 : aggT Tryz.prog 203 = some false := by kernel_rfl
@[go_sem] theorem sz_203 : sizeT Tryz.prog 203 = some 1 := by kernel_rfl
@[go_sem] theorem un_203 : Tryz.prog.underlying 203 = some (.map 198 201) := by kernel_rfl
@[go_sem] theorem ze_203 : zeroA Tryz.prog 203 = some [.mnil] := by kernel_rfl
@[go_sem] theorem ei_203 : einfo Tryz.prog 203 = some (1, 8, 1) := by kernel_rfl
@[go_sem] theorem zv_203 : zeroV Tryz.prog 203 = some (.mnil) := by kernel_rfl
@[go_sem] theorem ag_222 : aggT Tryz.prog 222 = some false := by kernel_rfl
@[go_sem] theorem sz_222 : sizeT Tryz.prog 222 = some 1 := by kernel_rfl
@[go_sem] theorem un_222 : Tryz.prog.underlying 222 = some (.func #[316] #[] false) := by kernel_rfl
@[go_sem] theorem ze_222 : zeroA Tryz.prog 222 = some [.fnil] := by kernel_rfl
@[go_sem] theorem ei_222 : einfo Tryz.prog 222 = some (1, 8, 1) := by kernel_rfl
@[go_sem] theorem zv_222 : zeroV Tryz.prog 222 = some (.fnil) := by kernel_rfl
@[go_sem] theorem ag_223 : aggT Tryz.prog 223 = some false := by kernel_rfl
@[go_sem] theorem sz_223 : sizeT Tryz.prog 223 = some 1 := by kernel_rfl
@[go_sem] theorem un_223 : Tryz.prog.underlying 223 = some (.func #[316] #[] false) := by kernel_rfl
@[go_sem] theorem ze_223 : zeroA Tryz.prog 223 = some [.fnil] := by kernel_rfl
@[go_sem] theorem ei_223 : einfo Tryz.prog 223 = some (1, 8, 1) := by kernel_rfl
@[go_sem] theorem zv_223 : zeroV Tryz.prog 223 = some (.fnil) := by kernel_rfl
@[go_sem] theorem ag_225 : aggT Tryz.prog 225 = some true := by kernel_rfl
@[go_sem] theorem sz_225 : sizeT Tryz.prog 225 = some 4 := by kernel_rfl
@[go_sem] theorem un_225 : Tryz.prog.underlying 225 = some (.struct #[{ name := "cells", type := 80, offset := 0, embedded := false, tag := "", pkgPath := "fenestra/reflow", byteOffset := 0 }, { name := "open", type := 4, offset := 1, embedded := false, tag := "", pkgPath := "fenestra/reflow", byteOffset := 24 }, { name := "at", type := 3, offset := 2, embedded := false, tag := "", pkgPath := "fenestra/reflow", byteOffset := 32 }, { name := "first", type := 3, offset := 3, embedded := false, tag := "", pkgPath := "fenestra/reflow", byteOffset := 40 }]) := by kernel_rfl
@[go_sem] theorem ze_225 : zeroA Tryz.prog 225 = some [.snil, .bool false, .int .i64 0, .int .i64 0] := by kernel_rfl
@[go_sem] theorem ei_225 : einfo Tryz.prog 225 = some (4, 48, 4) := by kernel_rfl
@[go_sem] theorem zv_225 : zeroV Tryz.prog 225 = some (.agg [.snil, .bool false, .int .i64 0, .int .i64 0]) := by kernel_rfl
@[go_sem] theorem fo_225_0 : fieldOff Tryz.prog 225 0 = some 0 := by kernel_rfl
@[go_sem] theorem fo_225_1 : fieldOff Tryz.prog 225 1 = some 1 := by kernel_rfl
@[go_sem] theorem fo_225_2 : fieldOff Tryz.prog 225 2 = some 2 := by kernel_rfl
@[go_sem] theorem fo_225_3 : fieldOff Tryz.prog 225 3 = some 3 := by kernel_rfl
@[go_sem] theorem ag_226 : aggT Tryz.prog 226 = some true := by kernel_rfl
@[go_sem] theorem sz_226 : sizeT Tryz.prog 226 = some 4 := by kernel_rfl
@[go_sem] theorem un_226 : Tryz.prog.underlying 226 = some (.struct #[{ name := "cells", type := 80, offset := 0, embedded := false, tag := "", pkgPath := "fenestra/reflow", byteOffset := 0 }, { name := "open", type := 4, offset := 1, embedded := false, tag := "", pkgPath := "fenestra/reflow", byteOffset := 24 }, { name := "at", type := 3, offset := 2, embedded := false, tag := "", pkgPath := "fenestra/reflow", byteOffset := 32 }, { name := "first", type := 3, offset := 3, embedded := false, tag := "", pkgPath := "fenestra/reflow", byteOffset := 40 }]) := by kernel_rfl
@[go_sem] theorem ze_226 : zeroA Tryz.prog 226 = some [.snil, .bool false, .int .i64 0, .int .i64 0] := by kernel_rfl
@[go_sem] theorem ei_226 : einfo Tryz.prog 226 = some (4, 48, 4) := by kernel_rfl
@[go_sem] theorem zv_226 : zeroV Tryz.prog 226 = some (.agg [.snil, .bool false, .int .i64 0, .int .i64 0]) := by kernel_rfl
@[go_sem] theorem fo_226_0 : fieldOff Tryz.prog 226 0 = some 0 := by kernel_rfl
@[go_sem] theorem fo_226_1 : fieldOff Tryz.prog 226 1 = some 1 := by kernel_rfl
@[go_sem] theorem fo_226_2 : fieldOff Tryz.prog 226 2 = some 2 := by kernel_rfl
@[go_sem] theorem fo_226_3 : fieldOff Tryz.prog 226 3 = some 3 := by kernel_rfl
@[go_sem] theorem ag_227 : aggT Tryz.prog 227 = some false := by kernel_rfl
@[go_sem] theorem sz_227 : sizeT Tryz.prog 227 = some 1 := by kernel_rfl
@[go_sem] theorem un_227 : Tryz.prog.underlying 227 = some (.pointer 230) := by kernel_rfl
@[go_sem] theorem ze_227 : zeroA Tryz.prog 227 = some [.nilp] := by kernel_rfl
@[go_sem] theorem ei_227 : einfo Tryz.prog 227 = some (1, 8, 1) := by kernel_rfl
@[go_sem] theorem zv_227 : zeroV Tryz.prog 227 = some (.nilp) := by kernel_rfl
@[go_sem] theorem ag_228 : aggT Tryz.prog 228 = some false := by kernel_rfl
@[go_sem] theorem sz_228 : sizeT Tryz.prog 228 = some 1 := by kernel_rfl
@[go_sem] theorem un_228 : Tryz.prog.underlying 228 = some (.func #[82] #[] false) := by kernel_rfl
@[go_sem] theorem ze_228 : zeroA Tryz.prog 228 = some [.fnil] := by kernel_rfl
@[go_sem] theorem ei_228 : einfo Tryz.prog 228 = some (1, 8, 1) := by kernel_rfl
@[go_sem] theorem zv_228 : zeroV Tryz.prog 228 = some (.fnil) := by kernel_rfl
@[go_sem] theorem ag_229 : aggT Tryz.prog 229 = some true := by kernel_rfl
@[go_sem] theorem sz_229 : sizeT Tryz.prog 229 = some 4 := by kernel_rfl
@[go_sem] theorem un_229 : Tryz.prog.underlying 229 = some (.struct #[{ name := "Row", type := 82, offset := 0, embedded := true, tag := "", pkgPath := "", byteOffset := 0 }, { name := "cols", type := 3, offset := 2, embedded := false, tag := "", pkgPath := "fenestra/reflow", byteOffset := 32 }, { name := "full", type := 228, offset := 3, embedded := false, tag := "", pkgPath := "fenestra/reflow", byteOffset := 40 }]) := by kernel_rfl
@[go_sem] theorem ze_229 : zeroA Tryz.prog 229 = some [.snil, .bool false, .int .i64 0, .fnil] := by kernel_rfl
@[go_sem] theorem ei_229 : einfo Tryz.prog 229 = some (4, 48, 4) := by kernel_rfl
@[go_sem] theorem zv_229 : zeroV Tryz.prog 229 = some (.agg [.snil, .bool false, .int .i64 0, .fnil]) := by kernel_rfl
@[go_sem] theorem fo_229_0 : fieldOff Tryz.prog 229 0 = some 0 := by kernel_rfl
@[go_sem] theorem fo_229_1 : fieldOff Tryz.prog 229 1 = some 2 := by kernel_rfl
@[go_sem] theorem fo_229_2 : fieldOff Tryz.prog 229 2 = some 3 := by kernel_rfl
@[go_sem] theorem ag_230 : aggT Tryz.prog 230 = some true := by kernel_rfl
@[go_sem] theorem sz_230 : sizeT Tryz.prog 230 = some 4 := by kernel_rfl
@[go_sem] theorem un_230 : Tryz.prog.underlying 230 = some (.struct #[{ name := "Row", type := 82, offset := 0, embedded := true, tag := "", pkgPath := "", byteOffset := 0 }, { name := "cols", type := 3, offset := 2, embedded := false, tag := "", pkgPath := "fenestra/reflow", byteOffset := 32 }, { name := "full", type := 228, offset := 3, embedded := false, tag := "", pkgPath := "fenestra/reflow", byteOffset := 40 }]) := by kernel_rfl
@[go_sem] theorem ze_230 : zeroA Tryz.prog 230 = some [.snil, .bool false, .int .i64 0, .fnil] := by kernel_rfl
@[go_sem] theorem ei_230 : einfo Tryz.prog 230 = some (4, 48, 4) := by kernel_rfl
@[go_sem] theorem zv_230 : zeroV Tryz.prog 230 = some (.agg [.snil, .bool false, .int .i64 0, .fnil]) := by kernel_rfl
@[go_sem] theorem fo_230_0 : fieldOff Tryz.prog 230 0 = some 0 := by kernel_rfl
@[go_sem] theorem fo_230_1 : fieldOff Tryz.prog 230 1 = some 2 := by kernel_rfl
@[go_sem] theorem fo_230_2 : fieldOff Tryz.prog 230 2 = some 3 := by kernel_rfl
@[go_sem] theorem ag_248 : aggT Tryz.prog 248 = some true := by kernel_rfl
@[go_sem] theorem sz_248 : sizeT Tryz.prog 248 = some 2 := by kernel_rfl
@[go_sem] theorem un_248 : Tryz.prog.underlying 248 = some (.struct #[{ name := "from", type := 3, offset := 0, embedded := false, tag := "", pkgPath := "fenestra/width", byteOffset := 0 }, { name := "to", type := 3, offset := 1, embedded := false, tag := "", pkgPath := "fenestra/width", byteOffset := 8 }]) := by kernel_rfl
@[go_sem] theorem ze_248 : zeroA Tryz.prog 248 = some [.int .i64 0, .int .i64 0] := by kernel_rfl
@[go_sem] theorem ei_248 : einfo Tryz.prog 248 = some (2, 16, 2) := by kernel_rfl
@[go_sem] theorem zv_248 : zeroV Tryz.prog 248 = some (.agg [.int .i64 0, .int .i64 0]) := by kernel_rfl
@[go_sem] theorem fo_248_0 : fieldOff Tryz.prog 248 0 = some 0 := by kernel_rfl
@[go_sem] theorem fo_248_1 : fieldOff Tryz.prog 248 1 = some 1 := by kernel_rfl
@[go_sem] theorem ag_249 : aggT Tryz.prog 249 = some true := by kernel_rfl
@[go_sem] theorem sz_249 : sizeT Tryz.prog 249 = some 2 := by kernel_rfl
@[go_sem] theorem un_249 : Tryz.prog.underlying 249 = some (.struct #[{ name := "from", type := 3, offset := 0, embedded := false, tag := "", pkgPath := "fenestra/width", byteOffset := 0 }, { name := "to", type := 3, offset := 1, embedded := false, tag := "", pkgPath := "fenestra/width", byteOffset := 8 }]) := by kernel_rfl
@[go_sem] theorem ze_249 : zeroA Tryz.prog 249 = some [.int .i64 0, .int .i64 0] := by kernel_rfl
@[go_sem] theorem ei_249 : einfo Tryz.prog 249 = some (2, 16, 2) := by kernel_rfl
@[go_sem] theorem zv_249 : zeroV Tryz.prog 249 = some (.agg [.int .i64 0, .int .i64 0]) := by kernel_rfl
@[go_sem] theorem fo_249_0 : fieldOff Tryz.prog 249 0 = some 0 := by kernel_rfl
@[go_sem] theorem fo_249_1 : fieldOff Tryz.prog 249 1 = some 1 := by kernel_rfl
@[go_sem] theorem ag_250 : aggT Tryz.prog 250 = some true := by kernel_rfl
@[go_sem] theorem sz_250 : sizeT Tryz.prog 250 = some 22 := by kernel_rfl
@[go_sem] theorem un_250 : Tryz.prog.underlying 250 = some (.array 11 249) := by kernel_rfl
@[go_sem] theorem ze_250 : zeroA Tryz.prog 250 = some [.int .i64 0, .int .i64 0, .int .i64 0, .int .i64 0, .int .i64 0, .int .i64 0, .int .i64 0, .int .i64 0, .int .i64 0, .int .i64 0, .int .i64 0, .int .i64 0, .int .i64 0, .int .i64 0, .int .i64 0, .int .i64 0, .int .i64 0, .int .i64 0, .int .i64 0, .int .i64 0, .int .i64 0, .int .i64 0] := by kernel_rfl
@[go_sem] theorem ei_250 : einfo Tryz.prog 250 = some (22, 176, 22) := by kernel_rfl
@[go_sem] theorem zv_250 : zeroV Tryz.prog 250 = some (.agg [.int .i64 0, .int .i64 0, .int .i64 0, .int .i64 0, .int .i64 0, .int .i64 0, .int .i64 0, .int .i64 0, .int .i64 0, .int .i64 0, .int .i64 0, .int .i64 0, .int .i64 0, .int .i64 0, .int .i64 0, .int .i64 0, .int .i64 0, .int .i64 0, .int .i64 0, .int .i64 0, .int .i64 0, .int .i64 0]) := by kernel_rfl
@[go_sem] theorem ag_251 : aggT Tryz.prog 251 = some false := by kernel_rfl
@[go_sem] theorem sz_251 : sizeT Tryz.prog 251 = some 1 := by kernel_rfl
@[go_sem] theorem un_251 : Tryz.prog.underlying 251 = some (.slice 249) := by kernel_rfl
@[go_sem] theorem ze_251 : zeroA Tryz.prog 251 = some [.snil] := by kernel_rfl
@[go_sem] theorem ei_251 : einfo Tryz.prog 251 = some (1, 24, 1) := by kernel_rfl
@[go_sem] theorem zv_251 : zeroV Tryz.prog 251 = some (.snil) := by kernel_rfl
@[go_sem] theorem ag_252 : aggT Tryz.prog 252 = some true := by kernel_rfl
@[go_sem] theorem sz_252 : sizeT Tryz.prog 252 = some 26 := by kernel_rfl
@[go_sem] theorem un_252 : Tryz.prog.underlying 252 = some (.array 13 249) := by kernel_rfl
@[go_sem] theorem ze_252 : zeroA Tryz.prog 252 = some [.int .i64 0, .int .i64 0, .int .i64 0, .int .i64 0, .int .i64 0, .int .i64 0, .int .i64 0, .int .i64 0, .int .i64 0, .int .i64 0, .int .i64 0, .int .i64 0, .int .i64 0, .int .i64 0, .int .i64 0, .int .i64 0, .int .i64 0, .int .i64 0, .int .i64 0, .int .i64 0, .int .i64 0, .int .i64 0, .int .i64 0, .int .i64 0, .int .i64 0, .int .i64 0] := by kernel_rfl
@[go_sem] theorem ei_252 : einfo Tryz.prog 252 = some (26, 208, 26) := by kernel_rfl
@[go_sem] theorem zv_252 : zeroV Tryz.prog 252 = some (.agg [.int .i64 0, .int .i64 0, .int .i64 0, .int .i64 0, .int .i64 0, .int .i64 0, .int .i64 0, .int .i64 0, .int .i64 0, .int .i64 0, .int .i64 0, .int .i64 0, .int .i64 0, .int .i64 0, .int .i64 0, .int .i64 0, .int .i64 0, .int .i64 0, .int .i64 0, .int .i64 0, .int .i64 0, .int .i64 0, .int .i64 0, .int .i64 0, .int .i64 0, .int .i64 0]) := by kernel_rfl
@[go_sem] theorem ag_255 : aggT Tryz.prog 255 = some false := by kernel_rfl
@[go_sem] theorem sz_255 : sizeT Tryz.prog 255 = some 1 := by kernel_rfl
@[go_sem] theorem un_255 : Tryz.prog.underlying 255 = some (.map 5 73) := by kernel_rfl
@[go_sem] theorem ze_255 : zeroA Tryz.prog 255 = some [.mnil] := by kernel_rfl
@[go_sem] theorem ei_255 : einfo Tryz.prog 255 = some (1, 8, 1) := by kernel_rfl
@[go_sem] theorem zv_255 : zeroV Tryz.prog 255 = some (.mnil) := by kernel_rfl
@[go_sem] theorem ag_256 : aggT Tryz.prog 256 = some true := by kernel_rfl
@[go_sem] theorem sz_256 : sizeT Tryz.prog 256 = some 4 := by kernel_rfl
@[go_sem] theorem un_256 : Tryz.prog.underlying 256 = some (.array 4 9) := by kernel_rfl
@[go_sem] theorem ze_256 : zeroA Tryz.prog 256 = some [.str [], .str [], .str [], .str []] := by kernel_rfl
@[go_sem] theorem ei_256 : einfo Tryz.prog 256 = some (4, 64, 4) := by kernel_rfl
@[go_sem] theorem zv_256 : zeroV Tryz.prog 256 = some (.agg [.str [], .str [], .str [], .str []]) := by kernel_rfl
@[go_sem] theorem ag_265 : aggT Tryz.prog 265 = some false := by kernel_rfl
@[go_sem] theorem sz_265 : sizeT Tryz.prog 265 = some 1 := by kernel_rfl
@[go_sem] theorem un_265 : Tryz.prog.underlying 265 = some (.func #[5, 9, 5, 201] #[] false) := by kernel_rfl
@[go_sem] theorem ze_265 : zeroA Tryz.prog 265 = some [.fnil] := by kernel_rfl
@[go_sem] theorem ei_265 : einfo Tryz.prog 265 = some (1, 8, 1) := by kernel_rfl
@[go_sem] theorem zv_265 : zeroV Tryz.prog 265 = some (.fnil) := by kernel_rfl
@[go_sem] theorem ag_266 : aggT Tryz.prog 266 = some false := by kernel_rfl
@[go_sem] theorem sz_266 : sizeT Tryz.prog 266 = some 1 := by kernel_rfl
@[go_sem] theorem un_266 : Tryz.prog.underlying 266 = some (.func #[23] #[73] false) := by kernel_rfl
@[go_sem] theorem ze_266 : zeroA Tryz.prog 266 = some [.fnil] := by kernel_rfl
@[go_sem] theorem ei_266 : einfo Tryz.prog 266 = some (1, 8, 1) := by kernel_rfl
@[go_sem] theorem zv_266 : zeroV Tryz.prog 266 = some (.fnil) := by kernel_rfl
@[go_sem] theorem ag_267 : aggT Tryz.prog 267 = some false := by kernel_rfl
@[go_sem] theorem sz_267 : sizeT Tryz.prog 267 = some 1 := by kernel_rfl
@[go_sem] theorem un_267 : Tryz.prog.underlying 267 = some (.func #[266] #[201] false) := by kernel_rfl
@[go_sem] theorem ze_267 : zeroA Tryz.prog 267 = some [.fnil] := by kernel_rfl
@[go_sem] theorem ei_267 : einfo Tryz.prog 267 = some (1, 8, 1) := by kernel_rfl
@[go_sem] theorem zv_267 : zeroV Tryz.prog 267 = some (.fnil) := by kernel_rfl
@[go_sem] theorem ag_269 : aggT Tryz.prog 269 = some false := by kernel_rfl
@[go_sem] theorem sz_269 : sizeT Tryz.prog 269 = some 1 := by kernel_rfl
@[go_sem] theorem un_269 : Tryz.prog.underlying 269 = some (.func #[3, 3] #[201] false) := by kernel_rfl
@[go_sem] theorem ze_269 : zeroA Tryz.prog 269 = some [.fnil] := by kernel_rfl
@[go_sem] theorem ei_269 : einfo Tryz.prog 269 = some (1, 8, 1) := by kernel_rfl
@[go_sem] theorem zv_269 : zeroV Tryz.prog 269 = some (.fnil) := by kernel_rfl
@[go_sem] theorem ag_270 : aggT Tryz.prog 270 = some false := by kernel_rfl
@[go_sem] theorem sz_270 : sizeT Tryz.prog 270 = some 1 := by kernel_rfl
@[go_sem] theorem un_270 : Tryz.prog.underlying 270 = some (.map 5 3) := by kernel_rfl
@[go_sem] theorem ze_270 : zeroA Tryz.prog 270 = some [.mnil] := by kernel_rfl
@[go_sem] theorem ei_270 : einfo Tryz.prog 270 = some (1, 8, 1) := by kernel_rfl
@[go_sem] theorem zv_270 : zeroV Tryz.prog 270 = some (.mnil) := by kernel_rfl
@[go_sem] theorem ag_272 : aggT Tryz.prog 272 = some true := by kernel_rfl
@[go_sem] theorem sz_272 : sizeT Tryz.prog 272 = some 2 := by kernel_rfl
@[go_sem] theorem un_272 : Tryz.prog.underlying 272 = some (.array 2 5) := by kernel_rfl
@[go_sem] theorem ze_272 : zeroA Tryz.prog 272 = some [.int .u8 0, .int .u8 0] := by kernel_rfl
@[go_sem] theorem ei_272 : einfo Tryz.prog 272 = some (2, 2, 2) := by kernel_rfl
@[go_sem] theorem zv_272 : zeroV Tryz.prog 272 = some (.agg [.int .u8 0, .int .u8 0]) := by kernel_rfl
@[go_sem] theorem ag_302 : aggT Tryz.prog 302 = some false := by kernel_rfl
@[go_sem] theorem sz_302 : sizeT Tryz.prog 302 = some 1 := by kernel_rfl
@[go_sem] theorem un_302 : Tryz.prog.underlying 302 = some (.int .u64) := by kernel_rfl
@[go_sem] theorem ze_302 : zeroA Tryz.prog 302 = some [.int .u64 0] := by kernel_rfl
@[go_sem] theorem ei_302 : einfo Tryz.prog 302 = some (1, 8, 1) := by kernel_rfl
@[go_sem] theorem zv_302 : zeroV Tryz.prog 302 = some (.int .u64 0) := by kernel_rfl
@[go_sem] theorem ag_306 : aggT Tryz.prog 306 = some false := by kernel_rfl
@[go_sem] theorem sz_306 : sizeT Tryz.prog 306 = some 1 := by kernel_rfl
@[go_sem] theorem un_306 : Tryz.prog.underlying 306 = some (.pointer 308) := by kernel_rfl
@[go_sem] theorem ze_306 : zeroA Tryz.prog 306 = some [.nilp] := by kernel_rfl
@[go_sem] theorem ei_306 : einfo Tryz.prog 306 = some (1, 8, 1) := by kernel_rfl
@[go_sem] theorem zv_306 : zeroV Tryz.prog 306 = some (.nilp) := by kernel_rfl
@[go_sem] theorem ag_307 : aggT Tryz.prog 307 = some true := by kernel_rfl
@[go_sem] theorem sz_307 : sizeT Tryz.prog 307 = some 2 := by kernel_rfl
@[go_sem] theorem un_307 : Tryz.prog.underlying 307 = some (.struct #[{ name := "addr", type := 306, offset := 0, embedded := false, tag := "", pkgPath := "strings", byteOffset := 0 }, { name := "buf", type := 22, offset := 1, embedded := false, tag := "", pkgPath := "strings", byteOffset := 8 }]) := by kernel_rfl
@[go_sem] theorem ze_307 : zeroA Tryz.prog 307 = some [.nilp, .snil] := by kernel_rfl
@[go_sem] theorem ei_307 : einfo Tryz.prog 307 = some (2, 32, 2) := by kernel_rfl
@[go_sem] theorem zv_307 : zeroV Tryz.prog 307 = some (.agg [.nilp, .snil]) := by kernel_rfl
@[go_sem] theorem fo_307_0 : fieldOff Tryz.prog 307 0 = some 0 := by kernel_rfl
@[go_sem] theorem fo_307_1 : fieldOff Tryz.prog 307 1 = some 1 := by kernel_rfl
@[go_sem] theorem ag_308 : aggT Tryz.prog 308 = some true := by kernel_rfl
@[go_sem] theorem sz_308 : sizeT Tryz.prog 308 = some 2 := by kernel_rfl
@[go_sem] theorem un_308 : Tryz.prog.underlying 308 = some (.struct #[{ name := "addr", type := 306, offset := 0, embedded := false, tag := "", pkgPath := "strings", byteOffset := 0 }, { name := "buf", type := 22, offset := 1, embedded := false, tag := "", pkgPath := "strings", byteOffset := 8 }]) := by kernel_rfl
@[go_sem] theorem ze_308 : zeroA Tryz.prog 308 = some [.nilp, .snil] := by kernel_rfl
@[go_sem] theorem ei_308 : einfo Tryz.prog 308 = some (2, 32, 2) := by kernel_rfl
@[go_sem] theorem zv_308 : zeroV Tryz.prog 308 = some (.agg [.nilp, .snil]) := by kernel_rfl
@[go_sem] theorem fo_308_0 : fieldOff Tryz.prog 308 0 = some 0 := by kernel_rfl
@[go_sem] theorem fo_308_1 : fieldOff Tryz.prog 308 1 = some 1 := by kernel_rfl
@[go_sem] theorem ag_309 : aggT Tryz.prog 309 = some false := by kernel_rfl
@[go_sem] theorem sz_309 : sizeT Tryz.prog 309 = some 1 := by kernel_rfl
@[go_sem] theorem un_309 : Tryz.prog.underlying 309 = some (.interface #[("Error", 286)]) := by kernel_rfl
@[go_sem] theorem ze_309 : zeroA Tryz.prog 309 = some [.inil] := by kernel_rfl
@[go_sem] theorem ei_309 : einfo Tryz.prog 309 = some (1, 16, 1) := by kernel_rfl
@[go_sem] theorem zv_309 : zeroV Tryz.prog 309 = some (.inil) := by kernel_rfl
@[go_sem] theorem ag_310 : aggT Tryz.prog 310 = some false := by kernel_rfl
@[go_sem] theorem sz_310 : sizeT Tryz.prog 310 = some 1 := by kernel_rfl
@[go_sem] theorem un_310 : Tryz.prog.underlying 310 = some (.interface #[("Error", 286)]) := by kernel_rfl
@[go_sem] theorem ze_310 : zeroA Tryz.prog 310 = some [.inil] := by kernel_rfl
@[go_sem] theorem ei_310 : einfo Tryz.prog 310 = some (1, 16, 1) := by kernel_rfl
@[go_sem] theorem zv_310 : zeroV Tryz.prog 310 = some (.inil) := by kernel_rfl
@[go_sem] theorem ag_314 : aggT Tryz.prog 314 = some false := by kernel_rfl
@[go_sem] theorem sz_314 : sizeT Tryz.prog 314 = some 1 := by kernel_rfl
@[go_sem] theorem un_314 : Tryz.prog.underlying 314 = some (.slice 26) := by kernel_rfl
@[go_sem] theorem ze_314 : zeroA Tryz.prog 314 = some [.snil] := by kernel_rfl
@[go_sem] theorem ei_314 : einfo Tryz.prog 314 = some (1, 24, 1) := by kernel_rfl
@[go_sem] theorem zv_314 : zeroV Tryz.prog 314 = some (.snil) := by kernel_rfl
@[go_sem] theorem ag_316 : aggT Tryz.prog 316 = some false := by kernel_rfl
@[go_sem] theorem sz_316 : sizeT Tryz.prog 316 = some 1 := by kernel_rfl
@[go_sem] theorem un_316 : Tryz.prog.underlying 316 = some (.func #[226] #[4] false) := by kernel_rfl
@[go_sem] theorem ze_316 : zeroA Tryz.prog 316 = some [.fnil] := by kernel_rfl
@[go_sem] theorem ei_316 : einfo Tryz.prog 316 = some (1, 8, 1) := by kernel_rfl
@[go_sem] theorem zv_316 : zeroV Tryz.prog 316 = some (.fnil) := by kernel_rfl
@[go_sem] theorem ag_341 : aggT Tryz.prog 341 = some false := by kernel_rfl
@[go_sem] theorem sz_341 : sizeT Tryz.prog 341 = some 1 := by kernel_rfl
@[go_sem] theorem un_341 : Tryz.prog.underlying 341 = some (.int .u32) := by kernel_rfl
@[go_sem] theorem ze_341 : zeroA Tryz.prog 341 = some [.int .u32 0] := by kernel_rfl
@[go_sem] theorem ei_341 : einfo Tryz.prog 341 = some (1, 4, 1) := by kernel_rfl
@[go_sem] theorem zv_341 : zeroV Tryz.prog 341 = some (.int .u32 0) := by kernel_rfl
@[go_sem] theorem ag_344 : aggT Tryz.prog 344 = some false := by kernel_rfl
@[go_sem] theorem sz_344 : sizeT Tryz.prog 344 = some 1 := by kernel_rfl
@[go_sem] theorem un_344 : Tryz.prog.underlying 344 = some (.int .u64) := by kernel_rfl
@[go_sem] theorem ze_344 : zeroA Tryz.prog 344 = some [.int .u64 0] := by kernel_rfl
@[go_sem] theorem ei_344 : einfo Tryz.prog 344 = some (1, 8, 1) := by kernel_rfl
@[go_sem] theorem zv_344 : zeroV Tryz.prog 344 = some (.int .u64 0) := by kernel_rfl
@[go_sem] theorem ag_409 : aggT Tryz.prog 409 = some false := by kernel_rfl
@[go_sem] theorem sz_409 : sizeT Tryz.prog 409 = some 1 := by kernel_rfl
@[go_sem] theorem un_409 : Tryz.prog.underlying 409 = some (.unsafePointer) := by kernel_rfl
@[go_sem] theorem ze_409 : zeroA Tryz.prog 409 = some [.nilp] := by kernel_rfl
@[go_sem] theorem ei_409 : einfo Tryz.prog 409 = some (1, 8, 1) := by kernel_rfl
@[go_sem] theorem zv_409 : zeroV Tryz.prog 409 = some (.nilp) := by kernel_rfl
@[go_sem] theorem ag_448 : aggT Tryz.prog 448 = some true := by kernel_rfl
@[go_sem] theorem sz_448 : sizeT Tryz.prog 448 = some 3 := by kernel_rfl
@[go_sem] theorem un_448 : Tryz.prog.underlying 448 = some (.struct #[{ name := "bit", type := 3, offset := 0, embedded := false, tag := "", pkgPath := "fenestra/sgr", byteOffset := 0 }, { name := "set", type := 3, offset := 1, embedded := false, tag := "", pkgPath := "fenestra/sgr", byteOffset := 8 }, { name := "clear", type := 3, offset := 2, embedded := false, tag := "", pkgPath := "fenestra/sgr", byteOffset := 16 }]) := by kernel_rfl
@[go_sem] theorem ze_448 : zeroA Tryz.prog 448 = some [.int .i64 0, .int .i64 0, .int .i64 0] := by kernel_rfl
@[go_sem] theorem ei_448 : einfo Tryz.prog 448 = some (3, 24, 3) := by kernel_rfl
@[go_sem] theorem zv_448 : zeroV Tryz.prog 448 = some (.agg [.int .i64 0, .int .i64 0, .int .i64 0]) := by kernel_rfl
@[go_sem] theorem fo_448_0 : fieldOff Tryz.prog 448 0 = some 0 := by kernel_rfl
@[go_sem] theorem fo_448_1 : fieldOff Tryz.prog 448 1 = some 1 := by kernel_rfl
@[go_sem] theorem fo_448_2 : fieldOff Tryz.prog 448 2 = some 2 := by kernel_rfl
@[go_sem] theorem ag_449 : aggT Tryz.prog 449 = some true := by kernel_rfl
@[go_sem] theorem sz_449 : sizeT Tryz.prog 449 = some 3 := by kernel_rfl
@[go_sem] theorem un_449 : Tryz.prog.underlying 449 = some (.struct #[{ name := "bit", type := 3, offset := 0, embedded := false, tag := "", pkgPath := "fenestra/sgr", byteOffset := 0 }, { name := "set", type := 3, offset := 1, embedded := false, tag := "", pkgPath := "fenestra/sgr", byteOffset := 8 }, { name := "clear", type := 3, offset := 2, embedded := false, tag := "", pkgPath := "fenestra/sgr", byteOffset := 16 }]) := by kernel_rfl
@[go_sem] theorem ze_449 : zeroA Tryz.prog 449 = some [.int .i64 0, .int .i64 0, .int .i64 0] := by kernel_rfl
@[go_sem] theorem ei_449 : einfo Tryz.prog 449 = some (3, 24, 3) := by kernel_rfl
@[go_sem] theorem zv_449 : zeroV Tryz.prog 449 = some (.agg [.int .i64 0, .int .i64 0, .int .i64 0]) := by kernel_rfl
@[go_sem] theorem fo_449_0 : fieldOff Tryz.prog 449 0 = some 0 := by kernel_rfl
@[go_sem] theorem fo_449_1 : fieldOff Tryz.prog 449 1 = some 1 := by kernel_rfl
@[go_sem] theorem fo_449_2 : fieldOff Tryz.prog 449 2 = some 2 := by kernel_rfl
@[go_sem] theorem ag_450 : aggT Tryz.prog 450 = some true := by kernel_rfl
@[go_sem] theorem sz_450 : sizeT Tryz.prog 450 = some 24 := by kernel_rfl
@[go_sem] theorem un_450 : Tryz.prog.underlying 450 = some (.array 8 449) := by kernel_rfl
@[go_sem] theorem ze_450 : zeroA Tryz.prog 450 = some [.int .i64 0, .int .i64 0, .int .i64 0, .int .i64 0, .int .i64 0, .int .i64 0, .int .i64 0, .int .i64 0, .int .i64 0, .int .i64 0, .int .i64 0, .int .i64 0, .int .i64 0, .int .i64 0, .int .i64 0, .int .i64 0, .int .i64 0, .int .i64 0, .int .i64 0, .int .i64 0, .int .i64 0, .int .i64 0, .int .i64 0, .int .i64 0] := by kernel_rfl
@[go_sem] theorem ei_450 : einfo Tryz.prog 450 = some (24, 192, 24) := by kernel_rfl
@[go_sem] theorem zv_450 : zeroV Tryz.prog 450 = some (.agg [.int .i64 0, .int .i64 0, .int .i64 0, .int .i64 0, .int .i64 0, .int .i64 0, .int .i64 0, .int .i64 0, .int .i64 0, .int .i64 0, .int .i64 0, .int .i64 0, .int .i64 0, .int .i64 0, .int .i64 0, .int .i64 0, .int .i64 0, .int .i64 0, .int .i64 0, .int .i64 0, .int .i64 0, .int .i64 0, .int .i64 0, .int .i64 0]) := by kernel_rfl
@[go_sem] theorem bl_1 : isBld Tryz.prog 1 = false := by kernel_rfl
@[go_sem] theorem bl_2 : isBld Tryz.prog 2 = false := by kernel_rfl
@[go_sem] theorem bl_3 : isBld Tryz.prog 3 = false := by kernel_rfl
@[go_sem] theorem bl_4 : isBld Tryz.prog 4 = false := by kernel_rfl
@[go_sem] theorem bl_5 : isBld Tryz.prog 5 = false := by kernel_rfl
@[go_sem] theorem co_5 : Tryz.prog.cellsOf 5 = 1 := by kernel_rfl
@[go_sem] theorem bl_6 : isBld Tryz.prog 6 = false := by kernel_rfl
@[go_sem] theorem co_6 : Tryz.prog.cellsOf 6 = 1 := by kernel_rfl
@[go_sem] theorem bl_7 : isBld Tryz.prog 7 = false := by kernel_rfl
@[go_sem] theorem bl_9 : isBld Tryz.prog 9 = false := by kernel_rfl
@[go_sem] theorem bl_11 : isBld Tryz.prog 11 = false := by kernel_rfl
@[go_sem] theorem bl_20 : isBld Tryz.prog 20 = false := by kernel_rfl
@[go_sem] theorem bl_22 : isBld Tryz.prog 22 = false := by kernel_rfl
@[go_sem] theorem bl_23 : isBld Tryz.prog 23 = false := by kernel_rfl
@[go_sem] theorem bl_24 : isBld Tryz.prog 24 = false := by kernel_rfl
@[go_sem] theorem bl_25 : isBld Tryz.prog 25 = false := by kernel_rfl
@[go_sem] theorem bl_26 : isBld Tryz.prog 26 = false := by kernel_rfl
@[go_sem] theorem bl_27 : isBld Tryz.prog 27 = false := by kernel_rfl
@[go_sem] theorem bl_28 : isBld Tryz.prog 28 = false := by kernel_rfl
@[go_sem] theorem bl_29 : isBld Tryz.prog 29 = false := by kernel_rfl
@[go_sem] theorem bl_30 : isBld Tryz.prog 30 = false := by kernel_rfl
@[go_sem] theorem bl_31 : isBld Tryz.prog 31 = false := by kernel_rfl
@[go_sem] theorem bl_32 : isBld Tryz.prog 32 = false := by kernel_rfl
@[go_sem] theorem bl_33 : isBld Tryz.prog 33 = false := by kernel_rfl
@[go_sem] theorem bl_34 : isBld Tryz.prog 34 = false := by kernel_rfl
@[go_sem] theorem bl_35 : isBld Tryz.prog 35 = false := by kernel_rfl
@[go_sem] theorem bl_36 : isBld Tryz.prog 36 = false := by kernel_rfl
@[go_sem] theorem bl_37 : isBld Tryz.prog 37 = false := by kernel_rfl
@[go_sem] theorem bl_38 : isBld Tryz.prog 38 = false := by kernel_rfl
@[go_sem] theorem bl_39 : isBld Tryz.prog 39 = false := by kernel_rfl
@[go_sem] theorem bl_40 : isBld Tryz.prog 40 = false := by kernel_rfl
@[go_sem] theorem bl_41 : isBld Tryz.prog 41 = false := by kernel_rfl
@[go_sem] theorem bl_42 : isBld Tryz.prog 42 = false := by kernel_rfl
@[go_sem] theorem bl_43 : isBld Tryz.prog 43 = false := by kernel_rfl
@[go_sem] theorem bl_44 : isBld Tryz.prog 44 = false := by kernel_rfl
@[go_sem] theorem bl_45 : isBld Tryz.prog 45 = false := by kernel_rfl
@[go_sem] theorem bl_53 : isBld Tryz.prog 53 = false := by kernel_rfl
@[go_sem] theorem bl_72 : isBld Tryz.prog 72 = false := by kernel_rfl
@[go_sem] theorem bl_73 : isBld Tryz.prog 73 = false := by kernel_rfl
@[go_sem] theorem bl_75 : isBld Tryz.prog 75 = false := by kernel_rfl
@[go_sem] theorem bl_79 : isBld Tryz.prog 79 = false := by kernel_rfl
@[go_sem] theorem bl_80 : isBld Tryz.prog 80 = false := by kernel_rfl
@[go_sem] theorem bl_81 : isBld Tryz.prog 81 = false := by kernel_rfl
@[go_sem] theorem bl_82 : isBld Tryz.prog 82 = false := by kernel_rfl
@[go_sem] theorem bl_83 : isBld Tryz.prog 83 = false := by kernel_rfl
@[go_sem] theorem bl_84 : isBld Tryz.prog 84 = false := by kernel_rfl
@[go_sem] theorem bl_85 : isBld Tryz.prog 85 = false := by kernel_rfl
@[go_sem] theorem bl_105 : isBld Tryz.prog 105 = false := by kernel_rfl
@[go_sem] theorem bl_106 : isBld Tryz.prog 106 = false := by kernel_rfl
@[go_sem] theorem bl_107 : isBld Tryz.prog 107 = false := by kernel_rfl
@[go_sem] theorem bl_109 : isBld Tryz.prog 109 = false := by kernel_rfl
@[go_sem] theorem bl_110 : isBld Tryz.prog 110 = false := by kernel_rfl
@[go_sem] theorem bl_111 : isBld Tryz.prog 111 = false := by kernel_rfl
@[go_sem] theorem bl_112 : isBld Tryz.prog 112 = false := by kernel_rfl
@[go_sem] theorem bl_118 : isBld Tryz.prog 118 = false := by kernel_rfl
@[go_sem] theorem bl_119 : isBld Tryz.prog 119 = false := by kernel_rfl
@[go_sem] theorem bl_133 : isBld Tryz.prog 133 = false := by kernel_rfl
@[go_sem] theorem bl_135 : isBld Tryz.prog 135 = false := by kernel_rfl
@[go_sem] theorem bl_157 : isBld Tryz.prog 157 = false := by kernel_rfl
@[go_sem] theorem bl_158 : isBld Tryz.prog 158 = false := by kernel_rfl
@[go_sem] theorem bl_169 : isBld Tryz.prog 169 = false := by kernel_rfl
@[go_sem] theorem bl_170 : isBld Tryz.prog 170 = false := by kernel_rfl
@[go_sem] theorem bl_177 : isBld Tryz.prog 177 = false := by kernel_rfl
@[go_sem] theorem bl_185 : isBld Tryz.prog 185 = false := by kernel_rfl
@[go_sem] theorem bl_193 : isBld Tryz.prog 193 = false := by kernel_rfl
@[go_sem] theorem bl_195 : isBld Tryz.prog 195 = false := by kernel_rfl
@[go_sem] theorem bl_197 : isBld Tryz.prog 197 = false := by kernel_rfl
@[go_sem] theorem bl_198 : isBld Tryz.prog 198 = false := by kernel_rfl
@[go_sem] theorem bl_200 : isBld Tryz.prog 200 = false := by kernel_rfl
@[go_sem] theorem bl_201 : isBld Tryz.prog 201 = false := by kernel_rfl
@[go_sem] theorem bl_203 : isBld Tryz.prog 203 = false := by kernel_rfl
@[go_sem] theorem bl_222 : isBld Tryz.prog 222 = false := by kernel_rfl
@[go_sem] theorem bl_223 : isBld Tryz.prog 223 = false := by kernel_rfl
@[go_sem] theorem bl_225 : isBld Tryz.prog 225 = false := by kernel_rfl
@[go_sem] theorem bl_226 : isBld Tryz.prog 226 = false := by kernel_rfl
@[go_sem] theorem bl_227 : isBld Tryz.prog 227 = false := by kernel_rfl
@[go_sem] theorem bl_228 : isBld Tryz.prog 228 = false := by kernel_rfl
@[go_sem] theorem bl_229 : isBld Tryz.prog 229 = false := by kernel_rfl
@[go_sem] theorem bl_230 : isBld Tryz.prog 230 = false := by kernel_rfl
@[go_sem] theorem bl_248 : isBld Tryz.prog 248 = false := by kernel_rfl
@[go_sem] theorem bl_249 : isBld Tryz.prog 249 = false := by kernel_rfl
@[go_sem] theorem bl_250 : isBld Tryz.prog 250 = false := by kernel_rfl
@[go_sem] theorem bl_251 : isBld Tryz.prog 251 = false := by kernel_rfl
@[go_sem] theorem bl_252 : isBld Tryz.prog 252 = false := by kernel_rfl
@[go_sem] theorem bl_255 : isBld Tryz.prog 255 = false := by kernel_rfl
@[go_sem] theorem bl_256 : isBld Tryz.prog 256 = false := by kernel_rfl
@[go_sem] theorem bl_265 : isBld Tryz.prog 265 = false := by kernel_rfl
@[go_sem] theorem bl_266 : isBld Tryz.prog 266 = false := by kernel_rfl
@[go_sem] theorem bl_267 : isBld Tryz.prog 267 = false := by kernel_rfl
@[go_sem] theorem bl_269 : isBld Tryz.prog 269 = false := by kernel_rfl
@[go_sem] theorem bl_270 : isBld Tryz.prog 270 = false := by kernel_rfl
@[go_sem] theorem bl_272 : isBld Tryz.prog 272 = false := by kernel_rfl
@[go_sem] theorem bl_302 : isBld Tryz.prog 302 = false := by kernel_rfl
@[go_sem] theorem bl_306 : isBld Tryz.prog 306 = false := by kernel_rfl
@[go_sem] theorem bl_307 : isBld Tryz.prog 307 = true := by kernel_rfl
@[go_sem] theorem lo_307 : liesOk Tryz.prog 307 2 = true := by kernel_rfl
@[go_sem] theorem bl_308 : isBld Tryz.prog 308 = true := by kernel_rfl
@[go_sem] theorem lo_308 : liesOk Tryz.prog 308 2 = true := by kernel_rfl
@[go_sem] theorem bl_309 : isBld Tryz.prog 309 = false := by kernel_rfl
@[go_sem] theorem bl_310 : isBld Tryz.prog 310 = false := by kernel_rfl
@[go_sem] theorem bl_314 : isBld Tryz.prog 314 = false := by kernel_rfl
@[go_sem] theorem bl_316 : isBld Tryz.prog 316 = false := by kernel_rfl
@[go_sem] theorem bl_341 : isBld Tryz.prog 341 = false := by kernel_rfl
@[go_sem] theorem bl_344 : isBld Tryz.prog 344 = false := by kernel_rfl
@[go_sem] theorem bl_409 : isBld Tryz.prog 409 = false := by kernel_rfl
@[go_sem] theorem bl_448 : isBld Tryz.prog 448 = false := by kernel_rfl
@[go_sem] theorem bl_449 : isBld Tryz.prog 449 = false := by kernel_rfl
@[go_sem] theorem bl_450 : isBld Tryz.prog 450 = false := by kernel_rfl
theorem mixed : Tryz.prog.follows .mixedOrders = true := by kernel_rfl
end Go.Proofs.YtecgddmmdgccfaaGreatDoor
