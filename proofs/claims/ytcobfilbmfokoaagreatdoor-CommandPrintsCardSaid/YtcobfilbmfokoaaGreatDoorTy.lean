/- YtcobfilbmfokoaaGreatDoorTy. Texts of the proof of a law about recordings: a layer of abstract values above the worlds, the types, the walks of the functions that the law reaches, the law and its card. Own work of an AI agent. -/
import Derived.Test.YtcobfilbmfokoaaGreatDoorProg
import Derived.Test.YtcobfilbmfokoaaGreatDoorCore1
set_option linter.all false
set_option linter.unusedVariables false
set_option linter.unusedSimpArgs false
namespace Go.Proofs.YtcobfilbmfokoaaGreatDoor
open Go.Fen
attribute [go_sem] Int.reduceBEq Int.reduceBNe Nat.reduceBEq Nat.reduceEqDiff Nat.reduceLT Nat.reduceAdd Nat.reduceSub Nat.reduceMul Nat.reduceLeDiff reduceCtorEq Int.reduceToNat Int.reduceAdd Int.reduceSub Int.reduceMul Int.reduceLT Int.reduceLE Int.reduceNeg Int.reduceEq
attribute [go_sem ↓] reduceIte
@[go_sem] theorem ag_1 : aggT Tryz.prog 1 = some false := by kernel_rfl
@[go_sem] theorem sz_1 : sizeT Tryz.prog 1 = some 1 := by kernel_rfl
@[go_sem] theorem un_1 : Tryz.prog.underlying 1 = some (.func #[] #[] false) := by kernel_rfl
@[go_sem] theorem ze_1 : zeroA Tryz.prog 1 = some [.fnil] := by kernel_rfl
@[go_sem] theorem ei_1 : einfo Tryz.prog 1 = some (1, 8, 1) := by kernel_rfl
@[go_sem] theorem zv_1 : zeroV Tryz.prog 1 = some (.fnil) := by kernel_rfl
@[go_sem] theorem ag_2 : aggT Tryz.prog 2 = some false := by kernel_rfl
@[go_sem] theorem sz_2 : sizeT Tryz.prog 2 = some 1 := by kernel_rfl
@[go_sem] theorem un_2 : Tryz.prog.underlying 2 = some (.int .i64) := by kernel_rfl
@[go_sem] theorem ze_2 : zeroA Tryz.prog 2 = some [.int .i64 0] := by kernel_rfl
@[go_sem] theorem ei_2 : einfo Tryz.prog 2 = some (1, 8, 1) := by kernel_rfl
@[go_sem] theorem zv_2 : zeroV Tryz.prog 2 = some (.int .i64 0) := by kernel_rfl
@[go_sem] theorem ag_3 : aggT Tryz.prog 3 = some false := by kernel_rfl
@[go_sem] theorem sz_3 : sizeT Tryz.prog 3 = some 1 := by kernel_rfl
@[go_sem] theorem un_3 : Tryz.prog.underlying 3 = some (.int .i64) := by kernel_rfl
@[go_sem] theorem ze_3 : zeroA Tryz.prog 3 = some [.int .i64 0] := by kernel_rfl
@[go_sem] theorem ei_3 : einfo Tryz.prog 3 = some (1, 8, 1) := by kernel_rfl
@[go_sem] theorem zv_3 : zeroV Tryz.prog 3 = some (.int .i64 0) := by kernel_rfl
@[go_sem] theorem ag_4 : aggT Tryz.prog 4 = some false := by kernel_rfl
@[go_sem] theorem sz_4 : sizeT Tryz.prog 4 = some 1 := by kernel_rfl
@[go_sem] theorem un_4 : Tryz.prog.underlying 4 = some (.bool) := by kernel_rfl
@[go_sem] theorem ze_4 : zeroA Tryz.prog 4 = some [.bool false] := by kernel_rfl
@[go_sem] theorem ei_4 : einfo Tryz.prog 4 = some (1, 1, 1) := by kernel_rfl
@[go_sem] theorem zv_4 : zeroV Tryz.prog 4 = some (.bool false) := by kernel_rfl
@[go_sem] theorem ag_5 : aggT Tryz.prog 5 = some false := by kernel_rfl
@[go_sem] theorem sz_5 : sizeT Tryz.prog 5 = some 1 := by kernel_rfl
@[go_sem] theorem un_5 : Tryz.prog.underlying 5 = some (.int .u8) := by kernel_rfl
@[go_sem] theorem ze_5 : zeroA Tryz.prog 5 = some [.int .u8 0] := by kernel_rfl
@[go_sem] theorem ei_5 : einfo Tryz.prog 5 = some (1, 1, 1) := by kernel_rfl
@[go_sem] theorem zv_5 : zeroV Tryz.prog 5 = some (.int .u8 0) := by kernel_rfl
@[go_sem] theorem ag_6 : aggT Tryz.prog 6 = some false := by kernel_rfl
@[go_sem] theorem sz_6 : sizeT Tryz.prog 6 = some 1 := by kernel_rfl
@[go_sem] theorem un_6 : Tryz.prog.underlying 6 = some (.int .u8) := by kernel_rfl
@[go_sem] theorem ze_6 : zeroA Tryz.prog 6 = some [.int .u8 0] := by kernel_rfl
@[go_sem] theorem ei_6 : einfo Tryz.prog 6 = some (1, 1, 1) := by kernel_rfl
@[go_sem] theorem zv_6 : zeroV Tryz.prog 6 = some (.int .u8 0) := by kernel_rfl
@[go_sem] theorem ag_7 : aggT Tryz.prog 7 = some true := by kernel_rfl
@[go_sem] theorem sz_7 : sizeT Tryz.prog 7 = some 4 := by kernel_rfl
@[go_sem] theorem un_7 : Tryz.prog.underlying 7 = some (.struct #[{ name := "x", type := 2, offset := 0, embedded := false, tag := "", pkgPath := "runtime", byteOffset := 0 }, { name := "y", type := 3, offset := 1, embedded := false, tag := "", pkgPath := "runtime", byteOffset := 8 }, { name := "signed", type := 4, offset := 2, embedded := false, tag := "", pkgPath := "runtime", byteOffset := 16 }, { name := "code", type := 6, offset := 3, embedded := false, tag := "", pkgPath := "runtime", byteOffset := 17 }]) := by kernel_rfl
@[go_sem] theorem ze_7 : zeroA Tryz.prog 7 = some [.int .i64 0, .int .i64 0, .bool false, .int .u8 0] := by kernel_rfl
@[go_sem] theorem ei_7 : einfo Tryz.prog 7 = some (4, 24, 4) := by kernel_rfl
@[go_sem] theorem zv_7 : zeroV Tryz.prog 7 = some (.agg [.int .i64 0, .int .i64 0, .bool false, .int .u8 0]) := by kernel_rfl
@[go_sem] theorem fo_7_0 : fieldOff Tryz.prog 7 0 = some 0 := by kernel_rfl
@[go_sem] theorem fo_7_1 : fieldOff Tryz.prog 7 1 = some 1 := by kernel_rfl
@[go_sem] theorem fo_7_2 : fieldOff Tryz.prog 7 2 = some 2 := by kernel_rfl
@[go_sem] theorem fo_7_3 : fieldOff Tryz.prog 7 3 = some 3 := by kernel_rfl
@[go_sem] theorem ag_8 : aggT Tryz.prog 8 = some true := by kernel_rfl
@[go_sem] theorem sz_8 : sizeT Tryz.prog 8 = some 4 := by kernel_rfl
@[go_sem] theorem un_8 : Tryz.prog.underlying 8 = some (.struct #[{ name := "x", type := 2, offset := 0, embedded := false, tag := "", pkgPath := "runtime", byteOffset := 0 }, { name := "y", type := 3, offset := 1, embedded := false, tag := "", pkgPath := "runtime", byteOffset := 8 }, { name := "signed", type := 4, offset := 2, embedded := false, tag := "", pkgPath := "runtime", byteOffset := 16 }, { name := "code", type := 6, offset := 3, embedded := false, tag := "", pkgPath := "runtime", byteOffset := 17 }]) := by kernel_rfl
@[go_sem] theorem ze_8 : zeroA Tryz.prog 8 = some [.int .i64 0, .int .i64 0, .bool false, .int .u8 0] := by kernel_rfl
@[go_sem] theorem ei_8 : einfo Tryz.prog 8 = some (4, 24, 4) := by kernel_rfl
@[go_sem] theorem zv_8 : zeroV Tryz.prog 8 = some (.agg [.int .i64 0, .int .i64 0, .bool false, .int .u8 0]) := by kernel_rfl
@[go_sem] theorem fo_8_0 : fieldOff Tryz.prog 8 0 = some 0 := by kernel_rfl
@[go_sem] theorem fo_8_1 : fieldOff Tryz.prog 8 1 = some 1 := by kernel_rfl
@[go_sem] theorem fo_8_2 : fieldOff Tryz.prog 8 2 = some 2 := by kernel_rfl
@[go_sem] theorem fo_8_3 : fieldOff Tryz.prog 8 3 = some 3 := by kernel_rfl
@[go_sem] theorem ag_9 : aggT Tryz.prog 9 = some false := by kernel_rfl
@[go_sem] theorem sz_9 : sizeT Tryz.prog 9 = some 1 := by kernel_rfl
@[go_sem] theorem un_9 : Tryz.prog.underlying 9 = some (.string) := by kernel_rfl
@[go_sem] theorem ze_9 : zeroA Tryz.prog 9 = some [.str []] := by kernel_rfl
@[go_sem] theorem ei_9 : einfo Tryz.prog 9 = some (1, 16, 1) := by kernel_rfl
@[go_sem] theorem zv_9 : zeroV Tryz.prog 9 = some (.str []) := by kernel_rfl
@[go_sem] theorem ag_12 : aggT Tryz.prog 12 = some false := by kernel_rfl
@[go_sem] theorem sz_12 : sizeT Tryz.prog 12 = some 1 := by kernel_rfl
@[go_sem] theorem un_12 : Tryz.prog.underlying 12 = some (.int .u64) := by kernel_rfl
@[go_sem] theorem ze_12 : zeroA Tryz.prog 12 = some [.int .u64 0] := by kernel_rfl
@[go_sem] theorem ei_12 : einfo Tryz.prog 12 = some (1, 8, 1) := by kernel_rfl
@[go_sem] theorem zv_12 : zeroV Tryz.prog 12 = some (.int .u64 0) := by kernel_rfl
@[go_sem] theorem ag_17 : aggT Tryz.prog 17 = some false := by kernel_rfl
@[go_sem] theorem sz_17 : sizeT Tryz.prog 17 = some 1 := by kernel_rfl
@[go_sem] theorem un_17 : Tryz.prog.underlying 17 = some (.pointer 215) := by kernel_rfl
@[go_sem] theorem ze_17 : zeroA Tryz.prog 17 = some [.nilp] := by kernel_rfl
@[go_sem] theorem ei_17 : einfo Tryz.prog 17 = some (1, 8, 1) := by kernel_rfl
@[go_sem] theorem zv_17 : zeroV Tryz.prog 17 = some (.nilp) := by kernel_rfl
@[go_sem] theorem ag_20 : aggT Tryz.prog 20 = some false := by kernel_rfl
@[go_sem] theorem sz_20 : sizeT Tryz.prog 20 = some 1 := by kernel_rfl
@[go_sem] theorem un_20 : Tryz.prog.underlying 20 = some (.interface #[]) := by kernel_rfl
@[go_sem] theorem ze_20 : zeroA Tryz.prog 20 = some [.inil] := by kernel_rfl
@[go_sem] theorem ei_20 : einfo Tryz.prog 20 = some (1, 16, 1) := by kernel_rfl
@[go_sem] theorem zv_20 : zeroV Tryz.prog 20 = some (.inil) := by kernel_rfl
@[go_sem] theorem ag_21 : aggT Tryz.prog 21 = some false := by kernel_rfl
@[go_sem] theorem sz_21 : sizeT Tryz.prog 21 = some 1 := by kernel_rfl
@[go_sem] theorem un_21 : Tryz.prog.underlying 21 = some (.int .i32) := by kernel_rfl
@[go_sem] theorem ze_21 : zeroA Tryz.prog 21 = some [.int .i32 0] := by kernel_rfl
@[go_sem] theorem ei_21 : einfo Tryz.prog 21 = some (1, 4, 1) := by kernel_rfl
@[go_sem] theorem zv_21 : zeroV Tryz.prog 21 = some (.int .i32 0) := by kernel_rfl
@[go_sem] theorem ag_22 : aggT Tryz.prog 22 = some true := by kernel_rfl
@[go_sem] theorem sz_22 : sizeT Tryz.prog 22 = some 4 := by kernel_rfl
@[go_sem] theorem un_22 : Tryz.prog.underlying 22 = some (.struct #[{ name := "Kind", type := 3, offset := 0, embedded := false, tag := "", pkgPath := "", byteOffset := 0 }, { name := "N", type := 3, offset := 1, embedded := false, tag := "", pkgPath := "", byteOffset := 8 }, { name := "M", type := 3, offset := 2, embedded := false, tag := "", pkgPath := "", byteOffset := 16 }, { name := "Text", type := 9, offset := 3, embedded := false, tag := "", pkgPath := "", byteOffset := 24 }]) := by kernel_rfl
@[go_sem] theorem ze_22 : zeroA Tryz.prog 22 = some [.int .i64 0, .int .i64 0, .int .i64 0, .str []] := by kernel_rfl
@[go_sem] theorem ei_22 : einfo Tryz.prog 22 = some (4, 40, 4) := by kernel_rfl
@[go_sem] theorem zv_22 : zeroV Tryz.prog 22 = some (.agg [.int .i64 0, .int .i64 0, .int .i64 0, .str []]) := by kernel_rfl
@[go_sem] theorem eg_22 : Tryz.prog.eqGuardType Tryz.prog.depth 22 = false := by kernel_rfl
@[go_sem] theorem sh_22 : Tryz.prog.stoodInHeld 22 = false := by kernel_rfl
@[go_sem] theorem fo_22_0 : fieldOff Tryz.prog 22 0 = some 0 := by kernel_rfl
@[go_sem] theorem fo_22_1 : fieldOff Tryz.prog 22 1 = some 1 := by kernel_rfl
@[go_sem] theorem fo_22_2 : fieldOff Tryz.prog 22 2 = some 2 := by kernel_rfl
@[go_sem] theorem fo_22_3 : fieldOff Tryz.prog 22 3 = some 3 := by kernel_rfl
@[go_sem] theorem ag_23 : aggT Tryz.prog 23 = some true := by kernel_rfl
@[go_sem] theorem sz_23 : sizeT Tryz.prog 23 = some 4 := by kernel_rfl
@[go_sem] theorem un_23 : Tryz.prog.underlying 23 = some (.struct #[{ name := "Kind", type := 3, offset := 0, embedded := false, tag := "", pkgPath := "", byteOffset := 0 }, { name := "N", type := 3, offset := 1, embedded := false, tag := "", pkgPath := "", byteOffset := 8 }, { name := "M", type := 3, offset := 2, embedded := false, tag := "", pkgPath := "", byteOffset := 16 }, { name := "Text", type := 9, offset := 3, embedded := false, tag := "", pkgPath := "", byteOffset := 24 }]) := by kernel_rfl
@[go_sem] theorem ze_23 : zeroA Tryz.prog 23 = some [.int .i64 0, .int .i64 0, .int .i64 0, .str []] := by kernel_rfl
@[go_sem] theorem ei_23 : einfo Tryz.prog 23 = some (4, 40, 4) := by kernel_rfl
@[go_sem] theorem zv_23 : zeroV Tryz.prog 23 = some (.agg [.int .i64 0, .int .i64 0, .int .i64 0, .str []]) := by kernel_rfl
@[go_sem] theorem eg_23 : Tryz.prog.eqGuardType Tryz.prog.depth 23 = false := by kernel_rfl
@[go_sem] theorem sh_23 : Tryz.prog.stoodInHeld 23 = false := by kernel_rfl
@[go_sem] theorem fo_23_0 : fieldOff Tryz.prog 23 0 = some 0 := by kernel_rfl
@[go_sem] theorem fo_23_1 : fieldOff Tryz.prog 23 1 = some 1 := by kernel_rfl
@[go_sem] theorem fo_23_2 : fieldOff Tryz.prog 23 2 = some 2 := by kernel_rfl
@[go_sem] theorem fo_23_3 : fieldOff Tryz.prog 23 3 = some 3 := by kernel_rfl
@[go_sem] theorem ag_24 : aggT Tryz.prog 24 = some true := by kernel_rfl
@[go_sem] theorem sz_24 : sizeT Tryz.prog 24 = some 4 := by kernel_rfl
@[go_sem] theorem un_24 : Tryz.prog.underlying 24 = some (.struct #[{ name := "Kind", type := 5, offset := 0, embedded := false, tag := "", pkgPath := "", byteOffset := 0 }, { name := "N", type := 5, offset := 1, embedded := false, tag := "", pkgPath := "", byteOffset := 1 }, { name := "M", type := 5, offset := 2, embedded := false, tag := "", pkgPath := "", byteOffset := 2 }, { name := "Text", type := 9, offset := 3, embedded := false, tag := "", pkgPath := "", byteOffset := 8 }]) := by kernel_rfl
@[go_sem] theorem ze_24 : zeroA Tryz.prog 24 = some [.int .u8 0, .int .u8 0, .int .u8 0, .str []] := by kernel_rfl
@[go_sem] theorem ei_24 : einfo Tryz.prog 24 = some (4, 24, 4) := by kernel_rfl
@[go_sem] theorem zv_24 : zeroV Tryz.prog 24 = some (.agg [.int .u8 0, .int .u8 0, .int .u8 0, .str []]) := by kernel_rfl
@[go_sem] theorem eg_24 : Tryz.prog.eqGuardType Tryz.prog.depth 24 = false := by kernel_rfl
@[go_sem] theorem sh_24 : Tryz.prog.stoodInHeld 24 = false := by kernel_rfl
@[go_sem] theorem fo_24_0 : fieldOff Tryz.prog 24 0 = some 0 := by kernel_rfl
@[go_sem] theorem fo_24_1 : fieldOff Tryz.prog 24 1 = some 1 := by kernel_rfl
@[go_sem] theorem fo_24_2 : fieldOff Tryz.prog 24 2 = some 2 := by kernel_rfl
@[go_sem] theorem fo_24_3 : fieldOff Tryz.prog 24 3 = some 3 := by kernel_rfl
@[go_sem] theorem ag_25 : aggT Tryz.prog 25 = some true := by kernel_rfl
@[go_sem] theorem sz_25 : sizeT Tryz.prog 25 = some 4 := by kernel_rfl
@[go_sem] theorem un_25 : Tryz.prog.underlying 25 = some (.struct #[{ name := "Kind", type := 5, offset := 0, embedded := false, tag := "", pkgPath := "", byteOffset := 0 }, { name := "N", type := 5, offset := 1, embedded := false, tag := "", pkgPath := "", byteOffset := 1 }, { name := "M", type := 5, offset := 2, embedded := false, tag := "", pkgPath := "", byteOffset := 2 }, { name := "Text", type := 9, offset := 3, embedded := false, tag := "", pkgPath := "", byteOffset := 8 }]) := by kernel_rfl
@[go_sem] theorem ze_25 : zeroA Tryz.prog 25 = some [.int .u8 0, .int .u8 0, .int .u8 0, .str []] := by kernel_rfl
@[go_sem] theorem ei_25 : einfo Tryz.prog 25 = some (4, 24, 4) := by kernel_rfl
@[go_sem] theorem zv_25 : zeroV Tryz.prog 25 = some (.agg [.int .u8 0, .int .u8 0, .int .u8 0, .str []]) := by kernel_rfl
@[go_sem] theorem eg_25 : Tryz.prog.eqGuardType Tryz.prog.depth 25 = false := by kernel_rfl
@[go_sem] theorem sh_25 : Tryz.prog.stoodInHeld 25 = false := by kernel_rfl
@[go_sem] theorem fo_25_0 : fieldOff Tryz.prog 25 0 = some 0 := by kernel_rfl
@[go_sem] theorem fo_25_1 : fieldOff Tryz.prog 25 1 = some 1 := by kernel_rfl
@[go_sem] theorem fo_25_2 : fieldOff Tryz.prog 25 2 = some 2 := by kernel_rfl
@[go_sem] theorem fo_25_3 : fieldOff Tryz.prog 25 3 = some 3 := by kernel_rfl
@[go_sem] theorem ag_27 : aggT Tryz.prog 27 = some false := by kernel_rfl
@[go_sem] theorem sz_27 : sizeT Tryz.prog 27 = some 1 := by kernel_rfl
@[go_sem] theorem un_27 : Tryz.prog.underlying 27 = some (.slice 23) := by kernel_rfl
@[go_sem] theorem ze_27 : zeroA Tryz.prog 27 = some [.snil] := by kernel_rfl
@[go_sem] theorem ei_27 : einfo Tryz.prog 27 = some (1, 24, 1) := by kernel_rfl
@[go_sem] theorem zv_27 : zeroV Tryz.prog 27 = some (.snil) := by kernel_rfl
@[go_sem] theorem ag_28 : aggT Tryz.prog 28 = some false := by kernel_rfl
@[go_sem] theorem sz_28 : sizeT Tryz.prog 28 = some 1 := by kernel_rfl
@[go_sem] theorem un_28 : Tryz.prog.underlying 28 = some (.int .u64) := by kernel_rfl
@[go_sem] theorem ze_28 : zeroA Tryz.prog 28 = some [.int .u64 0] := by kernel_rfl
@[go_sem] theorem ei_28 : einfo Tryz.prog 28 = some (1, 8, 1) := by kernel_rfl
@[go_sem] theorem zv_28 : zeroV Tryz.prog 28 = some (.int .u64 0) := by kernel_rfl
@[go_sem] theorem ag_29 : aggT Tryz.prog 29 = some false := by kernel_rfl
@[go_sem] theorem sz_29 : sizeT Tryz.prog 29 = some 1 := by kernel_rfl
@[go_sem] theorem un_29 : Tryz.prog.underlying 29 = some (.int .i64) := by kernel_rfl
@[go_sem] theorem ze_29 : zeroA Tryz.prog 29 = some [.int .i64 0] := by kernel_rfl
@[go_sem] theorem ei_29 : einfo Tryz.prog 29 = some (1, 8, 1) := by kernel_rfl
@[go_sem] theorem zv_29 : zeroV Tryz.prog 29 = some (.int .i64 0) := by kernel_rfl
@[go_sem] theorem ag_37 : aggT Tryz.prog 37 = some true := by kernel_rfl
@[go_sem] theorem sz_37 : sizeT Tryz.prog 37 = some 8 := by kernel_rfl
@[go_sem] theorem un_37 : Tryz.prog.underlying 37 = some (.array 8 9) := by kernel_rfl
@[go_sem] theorem ze_37 : zeroA Tryz.prog 37 = some [.str [], .str [], .str [], .str [], .str [], .str [], .str [], .str []] := by kernel_rfl
@[go_sem] theorem ei_37 : einfo Tryz.prog 37 = some (8, 128, 8) := by kernel_rfl
@[go_sem] theorem zv_37 : zeroV Tryz.prog 37 = some (.agg [.str [], .str [], .str [], .str [], .str [], .str [], .str [], .str []]) := by kernel_rfl
@[go_sem] theorem ag_38 : aggT Tryz.prog 38 = some true := by kernel_rfl
@[go_sem] theorem sz_38 : sizeT Tryz.prog 38 = some 2 := by kernel_rfl
@[go_sem] theorem un_38 : Tryz.prog.underlying 38 = some (.array 2 9) := by kernel_rfl
@[go_sem] theorem ze_38 : zeroA Tryz.prog 38 = some [.str [], .str []] := by kernel_rfl
@[go_sem] theorem ei_38 : einfo Tryz.prog 38 = some (2, 32, 2) := by kernel_rfl
@[go_sem] theorem zv_38 : zeroV Tryz.prog 38 = some (.agg [.str [], .str []]) := by kernel_rfl
@[go_sem] theorem ag_53 : aggT Tryz.prog 53 = some true := by kernel_rfl
@[go_sem] theorem sz_53 : sizeT Tryz.prog 53 = some 6 := by kernel_rfl
@[go_sem] theorem un_53 : Tryz.prog.underlying 53 = some (.array 6 9) := by kernel_rfl
@[go_sem] theorem ze_53 : zeroA Tryz.prog 53 = some [.str [], .str [], .str [], .str [], .str [], .str []] := by kernel_rfl
@[go_sem] theorem ei_53 : einfo Tryz.prog 53 = some (6, 96, 6) := by kernel_rfl
@[go_sem] theorem zv_53 : zeroV Tryz.prog 53 = some (.agg [.str [], .str [], .str [], .str [], .str [], .str []]) := by kernel_rfl
@[go_sem] theorem ag_55 : aggT Tryz.prog 55 = some false := by kernel_rfl
@[go_sem] theorem sz_55 : sizeT Tryz.prog 55 = some 1 := by kernel_rfl
@[go_sem] theorem un_55 : Tryz.prog.underlying 55 = some (.slice 9) := by kernel_rfl
@[go_sem] theorem ze_55 : zeroA Tryz.prog 55 = some [.snil] := by kernel_rfl
@[go_sem] theorem ei_55 : einfo Tryz.prog 55 = some (1, 24, 1) := by kernel_rfl
@[go_sem] theorem zv_55 : zeroV Tryz.prog 55 = some (.snil) := by kernel_rfl
@[go_sem] theorem ag_56 : aggT Tryz.prog 56 = some true := by kernel_rfl
@[go_sem] theorem sz_56 : sizeT Tryz.prog 56 = some 9 := by kernel_rfl
@[go_sem] theorem un_56 : Tryz.prog.underlying 56 = some (.struct #[{ name := "keyword", type := 9, offset := 0, embedded := false, tag := "", pkgPath := "fenestra/command", byteOffset := 0 }, { name := "words", type := 55, offset := 1, embedded := false, tag := "", pkgPath := "fenestra/command", byteOffset := 16 }, { name := "number", type := 4, offset := 2, embedded := false, tag := "", pkgPath := "fenestra/command", byteOffset := 40 }, { name := "index", type := 4, offset := 3, embedded := false, tag := "", pkgPath := "fenestra/command", byteOffset := 41 }, { name := "text", type := 4, offset := 4, embedded := false, tag := "", pkgPath := "fenestra/command", byteOffset := 42 }, { name := "from", type := 3, offset := 5, embedded := false, tag := "", pkgPath := "fenestra/command", byteOffset := 48 }, { name := "to", type := 3, offset := 6, embedded := false, tag := "", pkgPath := "fenestra/command", byteOffset := 56 }, { name := "max", type := 3, offset := 7, embedded := false, tag := "", pkgPath := "fenestra/command", byteOffset := 64 }, { name := "name", type := 4, offset := 8, embedded := false, tag := "", pkgPath := "fenestra/command", byteOffset := 72 }]) := by kernel_rfl
@[go_sem] theorem ze_56 : zeroA Tryz.prog 56 = some [.str [], .snil, .bool false, .bool false, .bool false, .int .i64 0, .int .i64 0, .int .i64 0, .bool false] := by kernel_rfl
@[go_sem] theorem ei_56 : einfo Tryz.prog 56 = some (9, 80, 9) := by kernel_rfl
@[go_sem] theorem zv_56 : zeroV Tryz.prog 56 = some (.agg [.str [], .snil, .bool false, .bool false, .bool false, .int .i64 0, .int .i64 0, .int .i64 0, .bool false]) := by kernel_rfl
@[go_sem] theorem fo_56_0 : fieldOff Tryz.prog 56 0 = some 0 := by kernel_rfl
@[go_sem] theorem fo_56_1 : fieldOff Tryz.prog 56 1 = some 1 := by kernel_rfl
@[go_sem] theorem fo_56_2 : fieldOff Tryz.prog 56 2 = some 2 := by kernel_rfl
@[go_sem] theorem fo_56_3 : fieldOff Tryz.prog 56 3 = some 3 := by kernel_rfl
@[go_sem] theorem fo_56_4 : fieldOff Tryz.prog 56 4 = some 4 := by kernel_rfl
@[go_sem] theorem fo_56_5 : fieldOff Tryz.prog 56 5 = some 5 := by kernel_rfl
@[go_sem] theorem fo_56_6 : fieldOff Tryz.prog 56 6 = some 6 := by kernel_rfl
@[go_sem] theorem fo_56_7 : fieldOff Tryz.prog 56 7 = some 7 := by kernel_rfl
@[go_sem] theorem fo_56_8 : fieldOff Tryz.prog 56 8 = some 8 := by kernel_rfl
@[go_sem] theorem ag_57 : aggT Tryz.prog 57 = some true := by kernel_rfl
@[go_sem] theorem sz_57 : sizeT Tryz.prog 57 = some 9 := by kernel_rfl
@[go_sem] theorem un_57 : Tryz.prog.underlying 57 = some (.struct #[{ name := "keyword", type := 9, offset := 0, embedded := false, tag := "", pkgPath := "fenestra/command", byteOffset := 0 }, { name := "words", type := 55, offset := 1, embedded := false, tag := "", pkgPath := "fenestra/command", byteOffset := 16 }, { name := "number", type := 4, offset := 2, embedded := false, tag := "", pkgPath := "fenestra/command", byteOffset := 40 }, { name := "index", type := 4, offset := 3, embedded := false, tag := "", pkgPath := "fenestra/command", byteOffset := 41 }, { name := "text", type := 4, offset := 4, embedded := false, tag := "", pkgPath := "fenestra/command", byteOffset := 42 }, { name := "from", type := 3, offset := 5, embedded := false, tag := "", pkgPath := "fenestra/command", byteOffset := 48 }, { name := "to", type := 3, offset := 6, embedded := false, tag := "", pkgPath := "fenestra/command", byteOffset := 56 }, { name := "max", type := 3, offset := 7, embedded := false, tag := "", pkgPath := "fenestra/command", byteOffset := 64 }, { name := "name", type := 4, offset := 8, embedded := false, tag := "", pkgPath := "fenestra/command", byteOffset := 72 }]) := by kernel_rfl
@[go_sem] theorem ze_57 : zeroA Tryz.prog 57 = some [.str [], .snil, .bool false, .bool false, .bool false, .int .i64 0, .int .i64 0, .int .i64 0, .bool false] := by kernel_rfl
@[go_sem] theorem ei_57 : einfo Tryz.prog 57 = some (9, 80, 9) := by kernel_rfl
@[go_sem] theorem zv_57 : zeroV Tryz.prog 57 = some (.agg [.str [], .snil, .bool false, .bool false, .bool false, .int .i64 0, .int .i64 0, .int .i64 0, .bool false]) := by kernel_rfl
@[go_sem] theorem fo_57_0 : fieldOff Tryz.prog 57 0 = some 0 := by kernel_rfl
@[go_sem] theorem fo_57_1 : fieldOff Tryz.prog 57 1 = some 1 := by kernel_rfl
@[go_sem] theorem fo_57_2 : fieldOff Tryz.prog 57 2 = some 2 := by kernel_rfl
@[go_sem] theorem fo_57_3 : fieldOff Tryz.prog 57 3 = some 3 := by kernel_rfl
@[go_sem] theorem fo_57_4 : fieldOff Tryz.prog 57 4 = some 4 := by kernel_rfl
@[go_sem] theorem fo_57_5 : fieldOff Tryz.prog 57 5 = some 5 := by kernel_rfl
@[go_sem] theorem fo_57_6 : fieldOff Tryz.prog 57 6 = some 6 := by kernel_rfl
@[go_sem] theorem fo_57_7 : fieldOff Tryz.prog 57 7 = some 7 := by kernel_rfl
@[go_sem] theorem fo_57_8 : fieldOff Tryz.prog 57 8 = some 8 := by kernel_rfl
@[go_sem] theorem ag_58 : aggT Tryz.prog 58 = some false := by kernel_rfl
@[go_sem] theorem sz_58 : sizeT Tryz.prog 58 = some 1 := by kernel_rfl
@[go_sem] theorem un_58 : Tryz.prog.underlying 58 = some (.map 3 57) := by kernel_rfl
@[go_sem] theorem ze_58 : zeroA Tryz.prog 58 = some [.mnil] := by kernel_rfl
@[go_sem] theorem ei_58 : einfo Tryz.prog 58 = some (1, 8, 1) := by kernel_rfl
@[go_sem] theorem zv_58 : zeroV Tryz.prog 58 = some (.mnil) := by kernel_rfl
@[go_sem] theorem ag_62 : aggT Tryz.prog 62 = some true := by kernel_rfl
@[go_sem] theorem sz_62 : sizeT Tryz.prog 62 = some 17 := by kernel_rfl
@[go_sem] theorem un_62 : Tryz.prog.underlying 62 = some (.array 17 9) := by kernel_rfl
@[go_sem] theorem ze_62 : zeroA Tryz.prog 62 = some [.str [], .str [], .str [], .str [], .str [], .str [], .str [], .str [], .str [], .str [], .str [], .str [], .str [], .str [], .str [], .str [], .str []] := by kernel_rfl
@[go_sem] theorem ei_62 : einfo Tryz.prog 62 = some (17, 272, 17) := by kernel_rfl
@[go_sem] theorem zv_62 : zeroV Tryz.prog 62 = some (.agg [.str [], .str [], .str [], .str [], .str [], .str [], .str [], .str [], .str [], .str [], .str [], .str [], .str [], .str [], .str [], .str [], .str []]) := by kernel_rfl
@[go_sem] theorem ag_66 : aggT Tryz.prog 66 = some false := by kernel_rfl
@[go_sem] theorem sz_66 : sizeT Tryz.prog 66 = some 1 := by kernel_rfl
@[go_sem] theorem un_66 : Tryz.prog.underlying 66 = some (.interface #[("Error", 84)]) := by kernel_rfl
@[go_sem] theorem ze_66 : zeroA Tryz.prog 66 = some [.inil] := by kernel_rfl
@[go_sem] theorem ei_66 : einfo Tryz.prog 66 = some (1, 16, 1) := by kernel_rfl
@[go_sem] theorem zv_66 : zeroV Tryz.prog 66 = some (.inil) := by kernel_rfl
@[go_sem] theorem ag_67 : aggT Tryz.prog 67 = some false := by kernel_rfl
@[go_sem] theorem sz_67 : sizeT Tryz.prog 67 = some 1 := by kernel_rfl
@[go_sem] theorem un_67 : Tryz.prog.underlying 67 = some (.interface #[("Error", 84)]) := by kernel_rfl
@[go_sem] theorem ze_67 : zeroA Tryz.prog 67 = some [.inil] := by kernel_rfl
@[go_sem] theorem ei_67 : einfo Tryz.prog 67 = some (1, 16, 1) := by kernel_rfl
@[go_sem] theorem zv_67 : zeroV Tryz.prog 67 = some (.inil) := by kernel_rfl
@[go_sem] theorem ag_70 : aggT Tryz.prog 70 = some false := by kernel_rfl
@[go_sem] theorem sz_70 : sizeT Tryz.prog 70 = some 1 := by kernel_rfl
@[go_sem] theorem un_70 : Tryz.prog.underlying 70 = some (.pointer 117) := by kernel_rfl
@[go_sem] theorem ze_70 : zeroA Tryz.prog 70 = some [.nilp] := by kernel_rfl
@[go_sem] theorem ei_70 : einfo Tryz.prog 70 = some (1, 8, 1) := by kernel_rfl
@[go_sem] theorem zv_70 : zeroV Tryz.prog 70 = some (.nilp) := by kernel_rfl
@[go_sem] theorem ag_72 : aggT Tryz.prog 72 = some false := by kernel_rfl
@[go_sem] theorem sz_72 : sizeT Tryz.prog 72 = some 1 := by kernel_rfl
@[go_sem] theorem un_72 : Tryz.prog.underlying 72 = some (.pointer 70) := by kernel_rfl
@[go_sem] theorem ze_72 : zeroA Tryz.prog 72 = some [.nilp] := by kernel_rfl
@[go_sem] theorem ei_72 : einfo Tryz.prog 72 = some (1, 8, 1) := by kernel_rfl
@[go_sem] theorem zv_72 : zeroV Tryz.prog 72 = some (.nilp) := by kernel_rfl
@[go_sem] theorem ag_76 : aggT Tryz.prog 76 = some false := by kernel_rfl
@[go_sem] theorem sz_76 : sizeT Tryz.prog 76 = some 1 := by kernel_rfl
@[go_sem] theorem un_76 : Tryz.prog.underlying 76 = some (.pointer 79) := by kernel_rfl
@[go_sem] theorem ze_76 : zeroA Tryz.prog 76 = some [.nilp] := by kernel_rfl
@[go_sem] theorem ei_76 : einfo Tryz.prog 76 = some (1, 8, 1) := by kernel_rfl
@[go_sem] theorem zv_76 : zeroV Tryz.prog 76 = some (.nilp) := by kernel_rfl
@[go_sem] theorem ag_77 : aggT Tryz.prog 77 = some false := by kernel_rfl
@[go_sem] theorem sz_77 : sizeT Tryz.prog 77 = some 1 := by kernel_rfl
@[go_sem] theorem un_77 : Tryz.prog.underlying 77 = some (.slice 5) := by kernel_rfl
@[go_sem] theorem ze_77 : zeroA Tryz.prog 77 = some [.snil] := by kernel_rfl
@[go_sem] theorem ei_77 : einfo Tryz.prog 77 = some (1, 24, 1) := by kernel_rfl
@[go_sem] theorem zv_77 : zeroV Tryz.prog 77 = some (.snil) := by kernel_rfl
@[go_sem] theorem ag_78 : aggT Tryz.prog 78 = some true := by kernel_rfl
@[go_sem] theorem sz_78 : sizeT Tryz.prog 78 = some 2 := by kernel_rfl
@[go_sem] theorem un_78 : Tryz.prog.underlying 78 = some (.struct #[{ name := "addr", type := 76, offset := 0, embedded := false, tag := "", pkgPath := "strings", byteOffset := 0 }, { name := "buf", type := 77, offset := 1, embedded := false, tag := "", pkgPath := "strings", byteOffset := 8 }]) := by kernel_rfl
@[go_sem] theorem ze_78 : zeroA Tryz.prog 78 = some [.nilp, .snil] := by kernel_rfl
@[go_sem] theorem ei_78 : einfo Tryz.prog 78 = some (2, 32, 2) := by kernel_rfl
@[go_sem] theorem zv_78 : zeroV Tryz.prog 78 = some (.agg [.nilp, .snil]) := by kernel_rfl
@[go_sem] theorem fo_78_0 : fieldOff Tryz.prog 78 0 = some 0 := by kernel_rfl
@[go_sem] theorem fo_78_1 : fieldOff Tryz.prog 78 1 = some 1 := by kernel_rfl
@[go_sem] theorem ag_79 : aggT Tryz.prog 79 = some true := by kernel_rfl
@[go_sem] theorem sz_79 : sizeT Tryz.prog 79 = some 2 := by kernel_rfl
@[go_sem] theorem un_79 : Tryz.prog.underlying 79 = some (.struct #[{ name := "addr", type := 76, offset := 0, embedded := false, tag := "", pkgPath := "strings", byteOffset := 0 }, { name := "buf", type := 77, offset := 1, embedded := false, tag := "", pkgPath := "strings", byteOffset := 8 }]) := by kernel_rfl
@[go_sem] theorem ze_79 : zeroA Tryz.prog 79 = some [.nilp, .snil] := by kernel_rfl
@[go_sem] theorem ei_79 : einfo Tryz.prog 79 = some (2, 32, 2) := by kernel_rfl
@[go_sem] theorem zv_79 : zeroV Tryz.prog 79 = some (.agg [.nilp, .snil]) := by kernel_rfl
@[go_sem] theorem fo_79_0 : fieldOff Tryz.prog 79 0 = some 0 := by kernel_rfl
@[go_sem] theorem fo_79_1 : fieldOff Tryz.prog 79 1 = some 1 := by kernel_rfl
@[go_sem] theorem ag_83 : aggT Tryz.prog 83 = some false := by kernel_rfl
@[go_sem] theorem sz_83 : sizeT Tryz.prog 83 = some 1 := by kernel_rfl
@[go_sem] theorem un_83 : Tryz.prog.underlying 83 = some (.func #[] #[3] false) := by kernel_rfl
@[go_sem] theorem ze_83 : zeroA Tryz.prog 83 = some [.fnil] := by kernel_rfl
@[go_sem] theorem ei_83 : einfo Tryz.prog 83 = some (1, 8, 1) := by kernel_rfl
@[go_sem] theorem zv_83 : zeroV Tryz.prog 83 = some (.fnil) := by kernel_rfl
@[go_sem] theorem ag_87 : aggT Tryz.prog 87 = some false := by kernel_rfl
@[go_sem] theorem sz_87 : sizeT Tryz.prog 87 = some 1 := by kernel_rfl
@[go_sem] theorem un_87 : Tryz.prog.underlying 87 = some (.pointer 89) := by kernel_rfl
@[go_sem] theorem ze_87 : zeroA Tryz.prog 87 = some [.nilp] := by kernel_rfl
@[go_sem] theorem ei_87 : einfo Tryz.prog 87 = some (1, 8, 1) := by kernel_rfl
@[go_sem] theorem zv_87 : zeroV Tryz.prog 87 = some (.nilp) := by kernel_rfl
@[go_sem] theorem ag_88 : aggT Tryz.prog 88 = some true := by kernel_rfl
@[go_sem] theorem sz_88 : sizeT Tryz.prog 88 = some 3 := by kernel_rfl
@[go_sem] theorem un_88 : Tryz.prog.underlying 88 = some (.struct #[{ name := "text", type := 9, offset := 0, embedded := false, tag := "", pkgPath := "fenestra/command", byteOffset := 0 }, { name := "at", type := 3, offset := 1, embedded := false, tag := "", pkgPath := "fenestra/command", byteOffset := 16 }, { name := "err", type := 67, offset := 2, embedded := false, tag := "", pkgPath := "fenestra/command", byteOffset := 24 }]) := by kernel_rfl
@[go_sem] theorem ze_88 : zeroA Tryz.prog 88 = some [.str [], .int .i64 0, .inil] := by kernel_rfl
@[go_sem] theorem ei_88 : einfo Tryz.prog 88 = some (3, 40, 3) := by kernel_rfl
@[go_sem] theorem zv_88 : zeroV Tryz.prog 88 = some (.agg [.str [], .int .i64 0, .inil]) := by kernel_rfl
@[go_sem] theorem fo_88_0 : fieldOff Tryz.prog 88 0 = some 0 := by kernel_rfl
@[go_sem] theorem fo_88_1 : fieldOff Tryz.prog 88 1 = some 1 := by kernel_rfl
@[go_sem] theorem fo_88_2 : fieldOff Tryz.prog 88 2 = some 2 := by kernel_rfl
@[go_sem] theorem ag_89 : aggT Tryz.prog 89 = some true := by kernel_rfl
@[go_sem] theorem sz_89 : sizeT Tryz.prog 89 = some 3 := by kernel_rfl
@[go_sem] theorem un_89 : Tryz.prog.underlying 89 = some (.struct #[{ name := "text", type := 9, offset := 0, embedded := false, tag := "", pkgPath := "fenestra/command", byteOffset := 0 }, { name := "at", type := 3, offset := 1, embedded := false, tag := "", pkgPath := "fenestra/command", byteOffset := 16 }, { name := "err", type := 67, offset := 2, embedded := false, tag := "", pkgPath := "fenestra/command", byteOffset := 24 }]) := by kernel_rfl
@[go_sem] theorem ze_89 : zeroA Tryz.prog 89 = some [.str [], .int .i64 0, .inil] := by kernel_rfl
@[go_sem] theorem ei_89 : einfo Tryz.prog 89 = some (3, 40, 3) := by kernel_rfl
@[go_sem] theorem zv_89 : zeroV Tryz.prog 89 = some (.agg [.str [], .int .i64 0, .inil]) := by kernel_rfl
@[go_sem] theorem fo_89_0 : fieldOff Tryz.prog 89 0 = some 0 := by kernel_rfl
@[go_sem] theorem fo_89_1 : fieldOff Tryz.prog 89 1 = some 1 := by kernel_rfl
@[go_sem] theorem fo_89_2 : fieldOff Tryz.prog 89 2 = some 2 := by kernel_rfl
@[go_sem] theorem ag_91 : aggT Tryz.prog 91 = some false := by kernel_rfl
@[go_sem] theorem sz_91 : sizeT Tryz.prog 91 = some 1 := by kernel_rfl
@[go_sem] theorem un_91 : Tryz.prog.underlying 91 = some (.pointer 23) := by kernel_rfl
@[go_sem] theorem ze_91 : zeroA Tryz.prog 91 = some [.nilp] := by kernel_rfl
@[go_sem] theorem ei_91 : einfo Tryz.prog 91 = some (1, 8, 1) := by kernel_rfl
@[go_sem] theorem zv_91 : zeroV Tryz.prog 91 = some (.nilp) := by kernel_rfl
@[go_sem] theorem ag_92 : aggT Tryz.prog 92 = some false := by kernel_rfl
@[go_sem] theorem sz_92 : sizeT Tryz.prog 92 = some 1 := by kernel_rfl
@[go_sem] theorem un_92 : Tryz.prog.underlying 92 = some (.unsafePointer) := by kernel_rfl
@[go_sem] theorem ze_92 : zeroA Tryz.prog 92 = some [.nilp] := by kernel_rfl
@[go_sem] theorem ei_92 : einfo Tryz.prog 92 = some (1, 8, 1) := by kernel_rfl
@[go_sem] theorem zv_92 : zeroV Tryz.prog 92 = some (.nilp) := by kernel_rfl
@[go_sem] theorem ag_93 : aggT Tryz.prog 93 = some false := by kernel_rfl
@[go_sem] theorem sz_93 : sizeT Tryz.prog 93 = some 1 := by kernel_rfl
@[go_sem] theorem un_93 : Tryz.prog.underlying 93 = some (.int .u64) := by kernel_rfl
@[go_sem] theorem ze_93 : zeroA Tryz.prog 93 = some [.int .u64 0] := by kernel_rfl
@[go_sem] theorem ei_93 : einfo Tryz.prog 93 = some (1, 8, 1) := by kernel_rfl
@[go_sem] theorem zv_93 : zeroV Tryz.prog 93 = some (.int .u64 0) := by kernel_rfl
@[go_sem] theorem ag_94 : aggT Tryz.prog 94 = some true := by kernel_rfl
@[go_sem] theorem sz_94 : sizeT Tryz.prog 94 = some 3 := by kernel_rfl
@[go_sem] theorem un_94 : Tryz.prog.underlying 94 = some (.struct #[{ name := "typ_", type := 17, offset := 0, embedded := false, tag := "", pkgPath := "internal/reflectlite", byteOffset := 0 }, { name := "ptr", type := 92, offset := 1, embedded := false, tag := "", pkgPath := "internal/reflectlite", byteOffset := 8 }, { name := "flag", type := 93, offset := 2, embedded := true, tag := "", pkgPath := "internal/reflectlite", byteOffset := 16 }]) := by kernel_rfl
@[go_sem] theorem ze_94 : zeroA Tryz.prog 94 = some [.nilp, .nilp, .int .u64 0] := by kernel_rfl
@[go_sem] theorem ei_94 : einfo Tryz.prog 94 = some (3, 24, 3) := by kernel_rfl
@[go_sem] theorem zv_94 : zeroV Tryz.prog 94 = some (.agg [.nilp, .nilp, .int .u64 0]) := by kernel_rfl
@[go_sem] theorem fo_94_0 : fieldOff Tryz.prog 94 0 = some 0 := by kernel_rfl
@[go_sem] theorem fo_94_1 : fieldOff Tryz.prog 94 1 = some 1 := by kernel_rfl
@[go_sem] theorem fo_94_2 : fieldOff Tryz.prog 94 2 = some 2 := by kernel_rfl
@[go_sem] theorem ag_95 : aggT Tryz.prog 95 = some true := by kernel_rfl
@[go_sem] theorem sz_95 : sizeT Tryz.prog 95 = some 3 := by kernel_rfl
@[go_sem] theorem un_95 : Tryz.prog.underlying 95 = some (.struct #[{ name := "typ_", type := 17, offset := 0, embedded := false, tag := "", pkgPath := "internal/reflectlite", byteOffset := 0 }, { name := "ptr", type := 92, offset := 1, embedded := false, tag := "", pkgPath := "internal/reflectlite", byteOffset := 8 }, { name := "flag", type := 93, offset := 2, embedded := true, tag := "", pkgPath := "internal/reflectlite", byteOffset := 16 }]) := by kernel_rfl
@[go_sem] theorem ze_95 : zeroA Tryz.prog 95 = some [.nilp, .nilp, .int .u64 0] := by kernel_rfl
@[go_sem] theorem ei_95 : einfo Tryz.prog 95 = some (3, 24, 3) := by kernel_rfl
@[go_sem] theorem zv_95 : zeroV Tryz.prog 95 = some (.agg [.nilp, .nilp, .int .u64 0]) := by kernel_rfl
@[go_sem] theorem fo_95_0 : fieldOff Tryz.prog 95 0 = some 0 := by kernel_rfl
@[go_sem] theorem fo_95_1 : fieldOff Tryz.prog 95 1 = some 1 := by kernel_rfl
@[go_sem] theorem fo_95_2 : fieldOff Tryz.prog 95 2 = some 2 := by kernel_rfl
@[go_sem] theorem ag_97 : aggT Tryz.prog 97 = some false := by kernel_rfl
@[go_sem] theorem sz_97 : sizeT Tryz.prog 97 = some 1 := by kernel_rfl
@[go_sem] theorem un_97 : Tryz.prog.underlying 97 = some (.interface #[("AssignableTo", 102), ("Comparable", 33), ("Elem", 99), ("Implements", 102), ("Kind", 101), ("Name", 84), ("PkgPath", 84), ("Size", 216), ("String", 84), ("internal/reflectlite.common", 209), ("internal/reflectlite.uncommon", 217)]) := by kernel_rfl
@[go_sem] theorem ze_97 : zeroA Tryz.prog 97 = some [.inil] := by kernel_rfl
@[go_sem] theorem ei_97 : einfo Tryz.prog 97 = some (1, 16, 1) := by kernel_rfl
@[go_sem] theorem zv_97 : zeroV Tryz.prog 97 = some (.inil) := by kernel_rfl
@[go_sem] theorem ag_98 : aggT Tryz.prog 98 = some false := by kernel_rfl
@[go_sem] theorem sz_98 : sizeT Tryz.prog 98 = some 1 := by kernel_rfl
@[go_sem] theorem un_98 : Tryz.prog.underlying 98 = some (.interface #[("AssignableTo", 102), ("Comparable", 33), ("Elem", 99), ("Implements", 102), ("Kind", 101), ("Name", 84), ("PkgPath", 84), ("Size", 216), ("String", 84), ("internal/reflectlite.common", 209), ("internal/reflectlite.uncommon", 217)]) := by kernel_rfl
@[go_sem] theorem ze_98 : zeroA Tryz.prog 98 = some [.inil] := by kernel_rfl
@[go_sem] theorem ei_98 : einfo Tryz.prog 98 = some (1, 16, 1) := by kernel_rfl
@[go_sem] theorem zv_98 : zeroV Tryz.prog 98 = some (.inil) := by kernel_rfl
@[go_sem] theorem ag_100 : aggT Tryz.prog 100 = some false := by kernel_rfl
@[go_sem] theorem sz_100 : sizeT Tryz.prog 100 = some 1 := by kernel_rfl
@[go_sem] theorem un_100 : Tryz.prog.underlying 100 = some (.int .u8) := by kernel_rfl
@[go_sem] theorem ze_100 : zeroA Tryz.prog 100 = some [.int .u8 0] := by kernel_rfl
@[go_sem] theorem ei_100 : einfo Tryz.prog 100 = some (1, 1, 1) := by kernel_rfl
@[go_sem] theorem zv_100 : zeroV Tryz.prog 100 = some (.int .u8 0) := by kernel_rfl
@[go_sem] theorem ag_104 : aggT Tryz.prog 104 = some false := by kernel_rfl
@[go_sem] theorem sz_104 : sizeT Tryz.prog 104 = some 1 := by kernel_rfl
@[go_sem] theorem un_104 : Tryz.prog.underlying 104 = some (.int .u32) := by kernel_rfl
@[go_sem] theorem ze_104 : zeroA Tryz.prog 104 = some [.int .u32 0] := by kernel_rfl
@[go_sem] theorem ei_104 : einfo Tryz.prog 104 = some (1, 4, 1) := by kernel_rfl
@[go_sem] theorem zv_104 : zeroV Tryz.prog 104 = some (.int .u32 0) := by kernel_rfl
@[go_sem] theorem ag_107 : aggT Tryz.prog 107 = some false := by kernel_rfl
@[go_sem] theorem sz_107 : sizeT Tryz.prog 107 = some 1 := by kernel_rfl
@[go_sem] theorem un_107 : Tryz.prog.underlying 107 = some (.int .u64) := by kernel_rfl
@[go_sem] theorem ze_107 : zeroA Tryz.prog 107 = some [.int .u64 0] := by kernel_rfl
@[go_sem] theorem ei_107 : einfo Tryz.prog 107 = some (1, 8, 1) := by kernel_rfl
@[go_sem] theorem zv_107 : zeroV Tryz.prog 107 = some (.int .u64 0) := by kernel_rfl
@[go_sem] theorem ag_110 : aggT Tryz.prog 110 = some false := by kernel_rfl
@[go_sem] theorem sz_110 : sizeT Tryz.prog 110 = some 1 := by kernel_rfl
@[go_sem] theorem un_110 : Tryz.prog.underlying 110 = some (.pointer 5) := by kernel_rfl
@[go_sem] theorem ze_110 : zeroA Tryz.prog 110 = some [.nilp] := by kernel_rfl
@[go_sem] theorem ei_110 : einfo Tryz.prog 110 = some (1, 8, 1) := by kernel_rfl
@[go_sem] theorem zv_110 : zeroV Tryz.prog 110 = some (.nilp) := by kernel_rfl
@[go_sem] theorem ag_112 : aggT Tryz.prog 112 = some false := by kernel_rfl
@[go_sem] theorem sz_112 : sizeT Tryz.prog 112 = some 1 := by kernel_rfl
@[go_sem] theorem un_112 : Tryz.prog.underlying 112 = some (.slice 3) := by kernel_rfl
@[go_sem] theorem ze_112 : zeroA Tryz.prog 112 = some [.snil] := by kernel_rfl
@[go_sem] theorem ei_112 : einfo Tryz.prog 112 = some (1, 24, 1) := by kernel_rfl
@[go_sem] theorem zv_112 : zeroV Tryz.prog 112 = some (.snil) := by kernel_rfl
@[go_sem] theorem ag_116 : aggT Tryz.prog 116 = some true := by kernel_rfl
@[go_sem] theorem sz_116 : sizeT Tryz.prog 116 = some 1 := by kernel_rfl
@[go_sem] theorem un_116 : Tryz.prog.underlying 116 = some (.struct #[{ name := "at", type := 3, offset := 0, embedded := false, tag := "", pkgPath := "fenestra/command", byteOffset := 0 }]) := by kernel_rfl
@[go_sem] theorem ze_116 : zeroA Tryz.prog 116 = some [.int .i64 0] := by kernel_rfl
@[go_sem] theorem ei_116 : einfo Tryz.prog 116 = some (1, 8, 1) := by kernel_rfl
@[go_sem] theorem zv_116 : zeroV Tryz.prog 116 = some (.agg [.int .i64 0]) := by kernel_rfl
@[go_sem] theorem fo_116_0 : fieldOff Tryz.prog 116 0 = some 0 := by kernel_rfl
@[go_sem] theorem ag_117 : aggT Tryz.prog 117 = some true := by kernel_rfl
@[go_sem] theorem sz_117 : sizeT Tryz.prog 117 = some 1 := by kernel_rfl
@[go_sem] theorem un_117 : Tryz.prog.underlying 117 = some (.struct #[{ name := "at", type := 3, offset := 0, embedded := false, tag := "", pkgPath := "fenestra/command", byteOffset := 0 }]) := by kernel_rfl
@[go_sem] theorem ze_117 : zeroA Tryz.prog 117 = some [.int .i64 0] := by kernel_rfl
@[go_sem] theorem ei_117 : einfo Tryz.prog 117 = some (1, 8, 1) := by kernel_rfl
@[go_sem] theorem zv_117 : zeroV Tryz.prog 117 = some (.agg [.int .i64 0]) := by kernel_rfl
@[go_sem] theorem fo_117_0 : fieldOff Tryz.prog 117 0 = some 0 := by kernel_rfl
@[go_sem] theorem ag_118 : aggT Tryz.prog 118 = some true := by kernel_rfl
@[go_sem] theorem sz_118 : sizeT Tryz.prog 118 = some 1 := by kernel_rfl
@[go_sem] theorem un_118 : Tryz.prog.underlying 118 = some (.struct #[{ name := "Type", type := 17, offset := 0, embedded := true, tag := "", pkgPath := "", byteOffset := 0 }]) := by kernel_rfl
@[go_sem] theorem ze_118 : zeroA Tryz.prog 118 = some [.nilp] := by kernel_rfl
@[go_sem] theorem ei_118 : einfo Tryz.prog 118 = some (1, 8, 1) := by kernel_rfl
@[go_sem] theorem zv_118 : zeroV Tryz.prog 118 = some (.agg [.nilp]) := by kernel_rfl
@[go_sem] theorem fo_118_0 : fieldOff Tryz.prog 118 0 = some 0 := by kernel_rfl
@[go_sem] theorem ag_119 : aggT Tryz.prog 119 = some true := by kernel_rfl
@[go_sem] theorem sz_119 : sizeT Tryz.prog 119 = some 1 := by kernel_rfl
@[go_sem] theorem un_119 : Tryz.prog.underlying 119 = some (.struct #[{ name := "Type", type := 17, offset := 0, embedded := true, tag := "", pkgPath := "", byteOffset := 0 }]) := by kernel_rfl
@[go_sem] theorem ze_119 : zeroA Tryz.prog 119 = some [.nilp] := by kernel_rfl
@[go_sem] theorem ei_119 : einfo Tryz.prog 119 = some (1, 8, 1) := by kernel_rfl
@[go_sem] theorem zv_119 : zeroV Tryz.prog 119 = some (.agg [.nilp]) := by kernel_rfl
@[go_sem] theorem fo_119_0 : fieldOff Tryz.prog 119 0 = some 0 := by kernel_rfl
@[go_sem] theorem ag_144 : aggT Tryz.prog 144 = some false := by kernel_rfl
@[go_sem] theorem sz_144 : sizeT Tryz.prog 144 = some 1 := by kernel_rfl
@[go_sem] theorem un_144 : Tryz.prog.underlying 144 = some (.func #[155] #[] false) := by kernel_rfl
@[go_sem] theorem ze_144 : zeroA Tryz.prog 144 = some [.fnil] := by kernel_rfl
@[go_sem] theorem ei_144 : einfo Tryz.prog 144 = some (1, 8, 1) := by kernel_rfl
@[go_sem] theorem zv_144 : zeroV Tryz.prog 144 = some (.fnil) := by kernel_rfl
@[go_sem] theorem ag_145 : aggT Tryz.prog 145 = some false := by kernel_rfl
@[go_sem] theorem sz_145 : sizeT Tryz.prog 145 = some 1 := by kernel_rfl
@[go_sem] theorem un_145 : Tryz.prog.underlying 145 = some (.func #[155] #[] false) := by kernel_rfl
@[go_sem] theorem ze_145 : zeroA Tryz.prog 145 = some [.fnil] := by kernel_rfl
@[go_sem] theorem ei_145 : einfo Tryz.prog 145 = some (1, 8, 1) := by kernel_rfl
@[go_sem] theorem zv_145 : zeroV Tryz.prog 145 = some (.fnil) := by kernel_rfl
@[go_sem] theorem ag_148 : aggT Tryz.prog 148 = some false := by kernel_rfl
@[go_sem] theorem sz_148 : sizeT Tryz.prog 148 = some 1 := by kernel_rfl
@[go_sem] theorem un_148 : Tryz.prog.underlying 148 = some (.func #[] #[5] false) := by kernel_rfl
@[go_sem] theorem ze_148 : zeroA Tryz.prog 148 = some [.fnil] := by kernel_rfl
@[go_sem] theorem ei_148 : einfo Tryz.prog 148 = some (1, 8, 1) := by kernel_rfl
@[go_sem] theorem zv_148 : zeroV Tryz.prog 148 = some (.fnil) := by kernel_rfl
@[go_sem] theorem ag_155 : aggT Tryz.prog 155 = some false := by kernel_rfl
@[go_sem] theorem sz_155 : sizeT Tryz.prog 155 = some 1 := by kernel_rfl
@[go_sem] theorem un_155 : Tryz.prog.underlying 155 = some (.func #[3] #[4] false) := by kernel_rfl
@[go_sem] theorem ze_155 : zeroA Tryz.prog 155 = some [.fnil] := by kernel_rfl
@[go_sem] theorem ei_155 : einfo Tryz.prog 155 = some (1, 8, 1) := by kernel_rfl
@[go_sem] theorem zv_155 : zeroV Tryz.prog 155 = some (.fnil) := by kernel_rfl
@[go_sem] theorem ag_156 : aggT Tryz.prog 156 = some true := by kernel_rfl
@[go_sem] theorem sz_156 : sizeT Tryz.prog 156 = some 5 := by kernel_rfl
@[go_sem] theorem un_156 : Tryz.prog.underlying 156 = some (.array 5 3) := by kernel_rfl
@[go_sem] theorem ze_156 : zeroA Tryz.prog 156 = some [.int .i64 0, .int .i64 0, .int .i64 0, .int .i64 0, .int .i64 0] := by kernel_rfl
@[go_sem] theorem ei_156 : einfo Tryz.prog 156 = some (5, 40, 5) := by kernel_rfl
@[go_sem] theorem zv_156 : zeroV Tryz.prog 156 = some (.agg [.int .i64 0, .int .i64 0, .int .i64 0, .int .i64 0, .int .i64 0]) := by kernel_rfl
@[go_sem] theorem ag_158 : aggT Tryz.prog 158 = some true := by kernel_rfl
@[go_sem] theorem sz_158 : sizeT Tryz.prog 158 = some 20 := by kernel_rfl
@[go_sem] theorem un_158 : Tryz.prog.underlying 158 = some (.array 20 107) := by kernel_rfl
@[go_sem] theorem ze_158 : zeroA Tryz.prog 158 = some [.int .u64 0, .int .u64 0, .int .u64 0, .int .u64 0, .int .u64 0, .int .u64 0, .int .u64 0, .int .u64 0, .int .u64 0, .int .u64 0, .int .u64 0, .int .u64 0, .int .u64 0, .int .u64 0, .int .u64 0, .int .u64 0, .int .u64 0, .int .u64 0, .int .u64 0, .int .u64 0] := by kernel_rfl
@[go_sem] theorem ei_158 : einfo Tryz.prog 158 = some (20, 160, 20) := by kernel_rfl
@[go_sem] theorem zv_158 : zeroV Tryz.prog 158 = some (.agg [.int .u64 0, .int .u64 0, .int .u64 0, .int .u64 0, .int .u64 0, .int .u64 0, .int .u64 0, .int .u64 0, .int .u64 0, .int .u64 0, .int .u64 0, .int .u64 0, .int .u64 0, .int .u64 0, .int .u64 0, .int .u64 0, .int .u64 0, .int .u64 0, .int .u64 0, .int .u64 0]) := by kernel_rfl
@[go_sem] theorem ag_161 : aggT Tryz.prog 161 = some false := by kernel_rfl
@[go_sem] theorem sz_161 : sizeT Tryz.prog 161 = some 1 := by kernel_rfl
@[go_sem] theorem un_161 : Tryz.prog.underlying 161 = some (.func #[3] #[5] false) := by kernel_rfl
@[go_sem] theorem ze_161 : zeroA Tryz.prog 161 = some [.fnil] := by kernel_rfl
@[go_sem] theorem ei_161 : einfo Tryz.prog 161 = some (1, 8, 1) := by kernel_rfl
@[go_sem] theorem zv_161 : zeroV Tryz.prog 161 = some (.fnil) := by kernel_rfl
@[go_sem] theorem ag_163 : aggT Tryz.prog 163 = some true := by kernel_rfl
@[go_sem] theorem sz_163 : sizeT Tryz.prog 163 = some 256 := by kernel_rfl
@[go_sem] theorem un_163 : Tryz.prog.underlying 163 = some (.array 256 4) := by kernel_rfl
@[go_sem] theorem ag_164 : aggT Tryz.prog 164 = some true := by kernel_rfl
@[go_sem] theorem sz_164 : sizeT Tryz.prog 164 = some 256 := by kernel_rfl
@[go_sem] theorem un_164 : Tryz.prog.underlying 164 = some (.array 256 4) := by kernel_rfl
@[go_sem] theorem ag_168 : aggT Tryz.prog 168 = some false := by kernel_rfl
@[go_sem] theorem sz_168 : sizeT Tryz.prog 168 = some 1 := by kernel_rfl
@[go_sem] theorem un_168 : Tryz.prog.underlying 168 = some (.pointer 164) := by kernel_rfl
@[go_sem] theorem ze_168 : zeroA Tryz.prog 168 = some [.nilp] := by kernel_rfl
@[go_sem] theorem ei_168 : einfo Tryz.prog 168 = some (1, 8, 1) := by kernel_rfl
@[go_sem] theorem zv_168 : zeroV Tryz.prog 168 = some (.nilp) := by kernel_rfl
@[go_sem] theorem ag_180 : aggT Tryz.prog 180 = some false := by kernel_rfl
@[go_sem] theorem sz_180 : sizeT Tryz.prog 180 = some 1 := by kernel_rfl
@[go_sem] theorem un_180 : Tryz.prog.underlying 180 = some (.int .i64) := by kernel_rfl
@[go_sem] theorem ze_180 : zeroA Tryz.prog 180 = some [.int .i64 0] := by kernel_rfl
@[go_sem] theorem ei_180 : einfo Tryz.prog 180 = some (1, 8, 1) := by kernel_rfl
@[go_sem] theorem zv_180 : zeroV Tryz.prog 180 = some (.int .i64 0) := by kernel_rfl
@[go_sem] theorem ag_183 : aggT Tryz.prog 183 = some false := by kernel_rfl
@[go_sem] theorem sz_183 : sizeT Tryz.prog 183 = some 1 := by kernel_rfl
@[go_sem] theorem un_183 : Tryz.prog.underlying 183 = some (.pointer 193) := by kernel_rfl
@[go_sem] theorem ze_183 : zeroA Tryz.prog 183 = some [.nilp] := by kernel_rfl
@[go_sem] theorem ei_183 : einfo Tryz.prog 183 = some (1, 8, 1) := by kernel_rfl
@[go_sem] theorem zv_183 : zeroV Tryz.prog 183 = some (.nilp) := by kernel_rfl
@[go_sem] theorem ag_192 : aggT Tryz.prog 192 = some true := by kernel_rfl
@[go_sem] theorem sz_192 : sizeT Tryz.prog 192 = some 3 := by kernel_rfl
@[go_sem] theorem un_192 : Tryz.prog.underlying 192 = some (.struct #[{ name := "Func", type := 9, offset := 0, embedded := false, tag := "", pkgPath := "", byteOffset := 0 }, { name := "Num", type := 9, offset := 1, embedded := false, tag := "", pkgPath := "", byteOffset := 16 }, { name := "Err", type := 67, offset := 2, embedded := false, tag := "", pkgPath := "", byteOffset := 32 }]) := by kernel_rfl
@[go_sem] theorem ze_192 : zeroA Tryz.prog 192 = some [.str [], .str [], .inil] := by kernel_rfl
@[go_sem] theorem ei_192 : einfo Tryz.prog 192 = some (3, 48, 3) := by kernel_rfl
@[go_sem] theorem zv_192 : zeroV Tryz.prog 192 = some (.agg [.str [], .str [], .inil]) := by kernel_rfl
@[go_sem] theorem fo_192_0 : fieldOff Tryz.prog 192 0 = some 0 := by kernel_rfl
@[go_sem] theorem fo_192_1 : fieldOff Tryz.prog 192 1 = some 1 := by kernel_rfl
@[go_sem] theorem fo_192_2 : fieldOff Tryz.prog 192 2 = some 2 := by kernel_rfl
@[go_sem] theorem ag_193 : aggT Tryz.prog 193 = some true := by kernel_rfl
@[go_sem] theorem sz_193 : sizeT Tryz.prog 193 = some 3 := by kernel_rfl
@[go_sem] theorem un_193 : Tryz.prog.underlying 193 = some (.struct #[{ name := "Func", type := 9, offset := 0, embedded := false, tag := "", pkgPath := "", byteOffset := 0 }, { name := "Num", type := 9, offset := 1, embedded := false, tag := "", pkgPath := "", byteOffset := 16 }, { name := "Err", type := 67, offset := 2, embedded := false, tag := "", pkgPath := "", byteOffset := 32 }]) := by kernel_rfl
@[go_sem] theorem ze_193 : zeroA Tryz.prog 193 = some [.str [], .str [], .inil] := by kernel_rfl
@[go_sem] theorem ei_193 : einfo Tryz.prog 193 = some (3, 48, 3) := by kernel_rfl
@[go_sem] theorem zv_193 : zeroV Tryz.prog 193 = some (.agg [.str [], .str [], .inil]) := by kernel_rfl
@[go_sem] theorem fo_193_0 : fieldOff Tryz.prog 193 0 = some 0 := by kernel_rfl
@[go_sem] theorem fo_193_1 : fieldOff Tryz.prog 193 1 = some 1 := by kernel_rfl
@[go_sem] theorem fo_193_2 : fieldOff Tryz.prog 193 2 = some 2 := by kernel_rfl
@[go_sem] theorem ag_210 : aggT Tryz.prog 210 = some false := by kernel_rfl
@[go_sem] theorem sz_210 : sizeT Tryz.prog 210 = some 1 := by kernel_rfl
@[go_sem] theorem un_210 : Tryz.prog.underlying 210 = some (.int .u8) := by kernel_rfl
@[go_sem] theorem ze_210 : zeroA Tryz.prog 210 = some [.int .u8 0] := by kernel_rfl
@[go_sem] theorem ei_210 : einfo Tryz.prog 210 = some (1, 1, 1) := by kernel_rfl
@[go_sem] theorem zv_210 : zeroV Tryz.prog 210 = some (.int .u8 0) := by kernel_rfl
@[go_sem] theorem ag_211 : aggT Tryz.prog 211 = some false := by kernel_rfl
@[go_sem] theorem sz_211 : sizeT Tryz.prog 211 = some 1 := by kernel_rfl
@[go_sem] theorem un_211 : Tryz.prog.underlying 211 = some (.func #[92, 92] #[4] false) := by kernel_rfl
@[go_sem] theorem ze_211 : zeroA Tryz.prog 211 = some [.fnil] := by kernel_rfl
@[go_sem] theorem ei_211 : einfo Tryz.prog 211 = some (1, 8, 1) := by kernel_rfl
@[go_sem] theorem zv_211 : zeroV Tryz.prog 211 = some (.fnil) := by kernel_rfl
@[go_sem] theorem ag_212 : aggT Tryz.prog 212 = some false := by kernel_rfl
@[go_sem] theorem sz_212 : sizeT Tryz.prog 212 = some 1 := by kernel_rfl
@[go_sem] theorem un_212 : Tryz.prog.underlying 212 = some (.int .i32) := by kernel_rfl
@[go_sem] theorem ze_212 : zeroA Tryz.prog 212 = some [.int .i32 0] := by kernel_rfl
@[go_sem] theorem ei_212 : einfo Tryz.prog 212 = some (1, 4, 1) := by kernel_rfl
@[go_sem] theorem zv_212 : zeroV Tryz.prog 212 = some (.int .i32 0) := by kernel_rfl
@[go_sem] theorem ag_213 : aggT Tryz.prog 213 = some false := by kernel_rfl
@[go_sem] theorem sz_213 : sizeT Tryz.prog 213 = some 1 := by kernel_rfl
@[go_sem] theorem un_213 : Tryz.prog.underlying 213 = some (.int .i32) := by kernel_rfl
@[go_sem] theorem ze_213 : zeroA Tryz.prog 213 = some [.int .i32 0] := by kernel_rfl
@[go_sem] theorem ei_213 : einfo Tryz.prog 213 = some (1, 4, 1) := by kernel_rfl
@[go_sem] theorem zv_213 : zeroV Tryz.prog 213 = some (.int .i32 0) := by kernel_rfl
@[go_sem] theorem ag_214 : aggT Tryz.prog 214 = some true := by kernel_rfl
@[go_sem] theorem sz_214 : sizeT Tryz.prog 214 = some 11 := by kernel_rfl
@[go_sem] theorem un_214 : Tryz.prog.underlying 214 = some (.struct #[{ name := "Size_", type := 12, offset := 0, embedded := false, tag := "", pkgPath := "", byteOffset := 0 }, { name := "PtrBytes", type := 12, offset := 1, embedded := false, tag := "", pkgPath := "", byteOffset := 8 }, { name := "Hash", type := 104, offset := 2, embedded := false, tag := "", pkgPath := "", byteOffset := 16 }, { name := "TFlag", type := 210, offset := 3, embedded := false, tag := "", pkgPath := "", byteOffset := 20 }, { name := "Align_", type := 5, offset := 4, embedded := false, tag := "", pkgPath := "", byteOffset := 21 }, { name := "FieldAlign_", type := 5, offset := 5, embedded := false, tag := "", pkgPath := "", byteOffset := 22 }, { name := "Kind_", type := 100, offset := 6, embedded := false, tag := "", pkgPath := "", byteOffset := 23 }, { name := "Equal", type := 211, offset := 7, embedded := false, tag := "", pkgPath := "", byteOffset := 24 }, { name := "GCData", type := 110, offset := 8, embedded := false, tag := "", pkgPath := "", byteOffset := 32 }, { name := "Str", type := 212, offset := 9, embedded := false, tag := "", pkgPath := "", byteOffset := 40 }, { name := "PtrToThis", type := 213, offset := 10, embedded := false, tag := "", pkgPath := "", byteOffset := 44 }]) := by kernel_rfl
@[go_sem] theorem ze_214 : zeroA Tryz.prog 214 = some [.int .u64 0, .int .u64 0, .int .u32 0, .int .u8 0, .int .u8 0, .int .u8 0, .int .u8 0, .fnil, .nilp, .int .i32 0, .int .i32 0] := by kernel_rfl
@[go_sem] theorem ei_214 : einfo Tryz.prog 214 = some (11, 48, 11) := by kernel_rfl
@[go_sem] theorem zv_214 : zeroV Tryz.prog 214 = some (.agg [.int .u64 0, .int .u64 0, .int .u32 0, .int .u8 0, .int .u8 0, .int .u8 0, .int .u8 0, .fnil, .nilp, .int .i32 0, .int .i32 0]) := by kernel_rfl
@[go_sem] theorem fo_214_0 : fieldOff Tryz.prog 214 0 = some 0 := by kernel_rfl
@[go_sem] theorem fo_214_1 : fieldOff Tryz.prog 214 1 = some 1 := by kernel_rfl
@[go_sem] theorem fo_214_2 : fieldOff Tryz.prog 214 2 = some 2 := by kernel_rfl
@[go_sem] theorem fo_214_3 : fieldOff Tryz.prog 214 3 = some 3 := by kernel_rfl
@[go_sem] theorem fo_214_4 : fieldOff Tryz.prog 214 4 = some 4 := by kernel_rfl
@[go_sem] theorem fo_214_5 : fieldOff Tryz.prog 214 5 = some 5 := by kernel_rfl
@[go_sem] theorem fo_214_6 : fieldOff Tryz.prog 214 6 = some 6 := by kernel_rfl
@[go_sem] theorem fo_214_7 : fieldOff Tryz.prog 214 7 = some 7 := by kernel_rfl
@[go_sem] theorem fo_214_8 : fieldOff Tryz.prog 214 8 = some 8 := by kernel_rfl
@[go_sem] theorem fo_214_9 : fieldOff Tryz.prog 214 9 = some 9 := by kernel_rfl
@[go_sem] theorem fo_214_10 : fieldOff Tryz.prog 214 10 = some 10 := by kernel_rfl
@[go_sem] theorem ag_215 : aggT Tryz.prog 215 = some true := by kernel_rfl
@[go_sem] theorem sz_215 : sizeT Tryz.prog 215 = some 11 := by kernel_rfl
@[go_sem] theorem un_215 : Tryz.prog.underlying 215 = some (.struct #[{ name := "Size_", type := 12, offset := 0, embedded := false, tag := "", pkgPath := "", byteOffset := 0 }, { name := "PtrBytes", type := 12, offset := 1, embedded := false, tag := "", pkgPath := "", byteOffset := 8 }, { name := "Hash", type := 104, offset := 2, embedded := false, tag := "", pkgPath := "", byteOffset := 16 }, { name := "TFlag", type := 210, offset := 3, embedded := false, tag := "", pkgPath := "", byteOffset := 20 }, { name := "Align_", type := 5, offset := 4, embedded := false, tag := "", pkgPath := "", byteOffset := 21 }, { name := "FieldAlign_", type := 5, offset := 5, embedded := false, tag := "", pkgPath := "", byteOffset := 22 }, { name := "Kind_", type := 100, offset := 6, embedded := false, tag := "", pkgPath := "", byteOffset := 23 }, { name := "Equal", type := 211, offset := 7, embedded := false, tag := "", pkgPath := "", byteOffset := 24 }, { name := "GCData", type := 110, offset := 8, embedded := false, tag := "", pkgPath := "", byteOffset := 32 }, { name := "Str", type := 212, offset := 9, embedded := false, tag := "", pkgPath := "", byteOffset := 40 }, { name := "PtrToThis", type := 213, offset := 10, embedded := false, tag := "", pkgPath := "", byteOffset := 44 }]) := by kernel_rfl
@[go_sem] theorem ze_215 : zeroA Tryz.prog 215 = some [.int .u64 0, .int .u64 0, .int .u32 0, .int .u8 0, .int .u8 0, .int .u8 0, .int .u8 0, .fnil, .nilp, .int .i32 0, .int .i32 0] := by kernel_rfl
@[go_sem] theorem ei_215 : einfo Tryz.prog 215 = some (11, 48, 11) := by kernel_rfl
@[go_sem] theorem zv_215 : zeroV Tryz.prog 215 = some (.agg [.int .u64 0, .int .u64 0, .int .u32 0, .int .u8 0, .int .u8 0, .int .u8 0, .int .u8 0, .fnil, .nilp, .int .i32 0, .int .i32 0]) := by kernel_rfl
@[go_sem] theorem fo_215_0 : fieldOff Tryz.prog 215 0 = some 0 := by kernel_rfl
@[go_sem] theorem fo_215_1 : fieldOff Tryz.prog 215 1 = some 1 := by kernel_rfl
@[go_sem] theorem fo_215_2 : fieldOff Tryz.prog 215 2 = some 2 := by kernel_rfl
@[go_sem] theorem fo_215_3 : fieldOff Tryz.prog 215 3 = some 3 := by kernel_rfl
@[go_sem] theorem fo_215_4 : fieldOff Tryz.prog 215 4 = some 4 := by kernel_rfl
@[go_sem] theorem fo_215_5 : fieldOff Tryz.prog 215 5 = some 5 := by kernel_rfl
@[go_sem] theorem fo_215_6 : fieldOff Tryz.prog 215 6 = some 6 := by kernel_rfl
@[go_sem] theorem fo_215_7 : fieldOff Tryz.prog 215 7 = some 7 := by kernel_rfl
@[go_sem] theorem fo_215_8 : fieldOff Tryz.prog 215 8 = some 8 := by kernel_rfl
@[go_sem] theorem fo_215_9 : fieldOff Tryz.prog 215 9 = some 9 := by kernel_rfl
@[go_sem] theorem fo_215_10 : fieldOff Tryz.prog 215 10 = some 10 := by kernel_rfl
@[go_sem] theorem bl_1 : isBld Tryz.prog 1 = false := by kernel_rfl
@[go_sem] theorem bl_2 : isBld Tryz.prog 2 = false := by kernel_rfl
@[go_sem] theorem bl_3 : isBld Tryz.prog 3 = false := by kernel_rfl
@[go_sem] theorem bl_4 : isBld Tryz.prog 4 = false := by kernel_rfl
@[go_sem] theorem bl_5 : isBld Tryz.prog 5 = false := by kernel_rfl
@[go_sem] theorem co_5 : Tryz.prog.cellsOf 5 = 1 := by kernel_rfl
@[go_sem] theorem bl_6 : isBld Tryz.prog 6 = false := by kernel_rfl
@[go_sem] theorem co_6 : Tryz.prog.cellsOf 6 = 1 := by kernel_rfl
@[go_sem] theorem bl_7 : isBld Tryz.prog 7 = false := by kernel_rfl
@[go_sem] theorem bl_8 : isBld Tryz.prog 8 = false := by kernel_rfl
@[go_sem] theorem bl_9 : isBld Tryz.prog 9 = false := by kernel_rfl
@[go_sem] theorem bl_12 : isBld Tryz.prog 12 = false := by kernel_rfl
@[go_sem] theorem bl_17 : isBld Tryz.prog 17 = false := by kernel_rfl
@[go_sem] theorem bl_20 : isBld Tryz.prog 20 = false := by kernel_rfl
@[go_sem] theorem bl_21 : isBld Tryz.prog 21 = false := by kernel_rfl
@[go_sem] theorem bl_22 : isBld Tryz.prog 22 = false := by kernel_rfl
@[go_sem] theorem bl_23 : isBld Tryz.prog 23 = false := by kernel_rfl
@[go_sem] theorem bl_24 : isBld Tryz.prog 24 = false := by kernel_rfl
@[go_sem] theorem bl_25 : isBld Tryz.prog 25 = false := by kernel_rfl
@[go_sem] theorem bl_27 : isBld Tryz.prog 27 = false := by kernel_rfl
@[go_sem] theorem bl_28 : isBld Tryz.prog 28 = false := by kernel_rfl
@[go_sem] theorem bl_29 : isBld Tryz.prog 29 = false := by kernel_rfl
@[go_sem] theorem bl_37 : isBld Tryz.prog 37 = false := by kernel_rfl
@[go_sem] theorem bl_38 : isBld Tryz.prog 38 = false := by kernel_rfl
@[go_sem] theorem bl_53 : isBld Tryz.prog 53 = false := by kernel_rfl
@[go_sem] theorem bl_55 : isBld Tryz.prog 55 = false := by kernel_rfl
@[go_sem] theorem bl_56 : isBld Tryz.prog 56 = false := by kernel_rfl
@[go_sem] theorem bl_57 : isBld Tryz.prog 57 = false := by kernel_rfl
@[go_sem] theorem bl_58 : isBld Tryz.prog 58 = false := by kernel_rfl
@[go_sem] theorem bl_62 : isBld Tryz.prog 62 = false := by kernel_rfl
@[go_sem] theorem bl_66 : isBld Tryz.prog 66 = false := by kernel_rfl
@[go_sem] theorem bl_67 : isBld Tryz.prog 67 = false := by kernel_rfl
@[go_sem] theorem bl_70 : isBld Tryz.prog 70 = false := by kernel_rfl
@[go_sem] theorem bl_72 : isBld Tryz.prog 72 = false := by kernel_rfl
@[go_sem] theorem bl_76 : isBld Tryz.prog 76 = false := by kernel_rfl
@[go_sem] theorem bl_77 : isBld Tryz.prog 77 = false := by kernel_rfl
@[go_sem] theorem bl_78 : isBld Tryz.prog 78 = true := by kernel_rfl
@[go_sem] theorem lo_78 : liesOk Tryz.prog 78 2 = true := by kernel_rfl
@[go_sem] theorem bl_79 : isBld Tryz.prog 79 = true := by kernel_rfl
@[go_sem] theorem lo_79 : liesOk Tryz.prog 79 2 = true := by kernel_rfl
@[go_sem] theorem bl_83 : isBld Tryz.prog 83 = false := by kernel_rfl
@[go_sem] theorem bl_87 : isBld Tryz.prog 87 = false := by kernel_rfl
@[go_sem] theorem bl_88 : isBld Tryz.prog 88 = false := by kernel_rfl
@[go_sem] theorem bl_89 : isBld Tryz.prog 89 = false := by kernel_rfl
@[go_sem] theorem bl_91 : isBld Tryz.prog 91 = false := by kernel_rfl
@[go_sem] theorem bl_92 : isBld Tryz.prog 92 = false := by kernel_rfl
@[go_sem] theorem bl_93 : isBld Tryz.prog 93 = false := by kernel_rfl
@[go_sem] theorem bl_94 : isBld Tryz.prog 94 = false := by kernel_rfl
@[go_sem] theorem bl_95 : isBld Tryz.prog 95 = false := by kernel_rfl
@[go_sem] theorem bl_97 : isBld Tryz.prog 97 = false := by kernel_rfl
@[go_sem] theorem bl_98 : isBld Tryz.prog 98 = false := by kernel_rfl
@[go_sem] theorem bl_100 : isBld Tryz.prog 100 = false := by kernel_rfl
@[go_sem] theorem co_100 : Tryz.prog.cellsOf 100 = 1 := by kernel_rfl
@[go_sem] theorem bl_104 : isBld Tryz.prog 104 = false := by kernel_rfl
@[go_sem] theorem bl_107 : isBld Tryz.prog 107 = false := by kernel_rfl
@[go_sem] theorem bl_110 : isBld Tryz.prog 110 = false := by kernel_rfl
@[go_sem] theorem bl_112 : isBld Tryz.prog 112 = false := by kernel_rfl
@[go_sem] theorem bl_116 : isBld Tryz.prog 116 = false := by kernel_rfl
@[go_sem] theorem bl_117 : isBld Tryz.prog 117 = false := by kernel_rfl
@[go_sem] theorem bl_118 : isBld Tryz.prog 118 = false := by kernel_rfl
@[go_sem] theorem bl_119 : isBld Tryz.prog 119 = false := by kernel_rfl
@[go_sem] theorem bl_144 : isBld Tryz.prog 144 = false := by kernel_rfl
@[go_sem] theorem bl_145 : isBld Tryz.prog 145 = false := by kernel_rfl
@[go_sem] theorem bl_148 : isBld Tryz.prog 148 = false := by kernel_rfl
@[go_sem] theorem bl_155 : isBld Tryz.prog 155 = false := by kernel_rfl
@[go_sem] theorem bl_156 : isBld Tryz.prog 156 = false := by kernel_rfl
@[go_sem] theorem bl_158 : isBld Tryz.prog 158 = false := by kernel_rfl
@[go_sem] theorem bl_161 : isBld Tryz.prog 161 = false := by kernel_rfl
@[go_sem] theorem bl_163 : isBld Tryz.prog 163 = false := by kernel_rfl
@[go_sem] theorem bl_164 : isBld Tryz.prog 164 = false := by kernel_rfl
@[go_sem] theorem bl_168 : isBld Tryz.prog 168 = false := by kernel_rfl
@[go_sem] theorem bl_180 : isBld Tryz.prog 180 = false := by kernel_rfl
@[go_sem] theorem bl_183 : isBld Tryz.prog 183 = false := by kernel_rfl
@[go_sem] theorem bl_192 : isBld Tryz.prog 192 = false := by kernel_rfl
@[go_sem] theorem bl_193 : isBld Tryz.prog 193 = false := by kernel_rfl
@[go_sem] theorem bl_210 : isBld Tryz.prog 210 = false := by kernel_rfl
@[go_sem] theorem co_210 : Tryz.prog.cellsOf 210 = 1 := by kernel_rfl
@[go_sem] theorem bl_211 : isBld Tryz.prog 211 = false := by kernel_rfl
@[go_sem] theorem bl_212 : isBld Tryz.prog 212 = false := by kernel_rfl
@[go_sem] theorem bl_213 : isBld Tryz.prog 213 = false := by kernel_rfl
@[go_sem] theorem bl_214 : isBld Tryz.prog 214 = false := by kernel_rfl
@[go_sem] theorem bl_215 : isBld Tryz.prog 215 = false := by kernel_rfl
theorem mixed : Tryz.prog.follows .mixedOrders = true := by kernel_rfl
end Go.Proofs.YtcobfilbmfokoaaGreatDoor
