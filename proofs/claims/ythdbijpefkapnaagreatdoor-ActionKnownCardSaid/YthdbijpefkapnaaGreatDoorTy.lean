/- YthdbijpefkapnaaGreatDoorTy. Texts of the proof of a law about texts: a layer of abstract values above the worlds, the types, the walks of the functions that the law reaches, the law and its card. Own work of an AI agent. -/
import Derived.Test.YthdbijpefkapnaaGreatDoorProg
import Derived.Test.YthdbijpefkapnaaGreatDoorCore1
set_option linter.all false
set_option linter.unusedVariables false
set_option linter.unusedSimpArgs false
namespace Go.Proofs.YthdbijpefkapnaaGreatDoor
open Go.Fen
attribute [go_sem] Int.reduceBEq Int.reduceBNe Nat.reduceBEq Nat.reduceEqDiff Nat.reduceLT Nat.reduceAdd Nat.reduceSub Nat.reduceMul Nat.reduceLeDiff reduceCtorEq Int.reduceToNat Int.reduceAdd Int.reduceSub Int.reduceMul Int.reduceLT Int.reduceLE Int.reduceNeg Int.reduceEq
attribute [go_sem ↓] reduceIte
@[go_sem] theorem ag_1 : aggT Tryz.prog 1 = some false := by kernel_rfl
@[go_sem] theorem sz_1 : sizeT Tryz.prog 1 = some 1 := by kernel_rfl
@[go_sem] theorem un_1 : Tryz.prog.underlying 1 = some (.func #[] #[] false) := by kernel_rfl
@[go_sem] theorem ze_1 : zeroA Tryz.prog 1 = some [.fnil] := by kernel_rfl
@[go_sem] theorem ei_1 : einfo Tryz.prog 1 = some (1, 8, 1) := by kernel_rfl
@[go_sem] theorem zv_1 : zeroV Tryz.prog 1 = some (.fnil) := by kernel_rfl
@[go_sem] theorem ag_2 : aggT Tryz.prog 2 = some false := by kernel_rfl
@[go_sem] theorem sz_2 : sizeT Tryz.prog 2 = some 1 := by kernel_rfl
@[go_sem] theorem un_2 : Tryz.prog.underlying 2 = some (.int .i64) := by kernel_rfl
@[go_sem] theorem ze_2 : zeroA Tryz.prog 2 = some [.int .i64 0] := by kernel_rfl
@[go_sem] theorem ei_2 : einfo Tryz.prog 2 = some (1, 8, 1) := by kernel_rfl
@[go_sem] theorem zv_2 : zeroV Tryz.prog 2 = some (.int .i64 0) := by kernel_rfl
@[go_sem] theorem ag_3 : aggT Tryz.prog 3 = some false := by kernel_rfl
@[go_sem] theorem sz_3 : sizeT Tryz.prog 3 = some 1 := by kernel_rfl
@[go_sem] theorem un_3 : Tryz.prog.underlying 3 = some (.int .i64) := by kernel_rfl
@[go_sem] theorem ze_3 : zeroA Tryz.prog 3 = some [.int .i64 0] := by kernel_rfl
@[go_sem] theorem ei_3 : einfo Tryz.prog 3 = some (1, 8, 1) := by kernel_rfl
@[go_sem] theorem zv_3 : zeroV Tryz.prog 3 = some (.int .i64 0) := by kernel_rfl
@[go_sem] theorem ag_4 : aggT Tryz.prog 4 = some false := by kernel_rfl
@[go_sem] theorem sz_4 : sizeT Tryz.prog 4 = some 1 := by kernel_rfl
@[go_sem] theorem un_4 : Tryz.prog.underlying 4 = some (.bool) := by kernel_rfl
@[go_sem] theorem ze_4 : zeroA Tryz.prog 4 = some [.bool false] := by kernel_rfl
@[go_sem] theorem ei_4 : einfo Tryz.prog 4 = some (1, 1, 1) := by kernel_rfl
@[go_sem] theorem zv_4 : zeroV Tryz.prog 4 = some (.bool false) := by kernel_rfl
@[go_sem] theorem ag_5 : aggT Tryz.prog 5 = some false := by kernel_rfl
@[go_sem] theorem sz_5 : sizeT Tryz.prog 5 = some 1 := by kernel_rfl
@[go_sem] theorem un_5 : Tryz.prog.underlying 5 = some (.int .u8) := by kernel_rfl
@[go_sem] theorem ze_5 : zeroA Tryz.prog 5 = some [.int .u8 0] := by kernel_rfl
@[go_sem] theorem ei_5 : einfo Tryz.prog 5 = some (1, 1, 1) := by kernel_rfl
@[go_sem] theorem zv_5 : zeroV Tryz.prog 5 = some (.int .u8 0) := by kernel_rfl
@[go_sem] theorem ag_6 : aggT Tryz.prog 6 = some false := by kernel_rfl
@[go_sem] theorem sz_6 : sizeT Tryz.prog 6 = some 1 := by kernel_rfl
@[go_sem] theorem un_6 : Tryz.prog.underlying 6 = some (.int .u8) := by kernel_rfl
@[go_sem] theorem ze_6 : zeroA Tryz.prog 6 = some [.int .u8 0] := by kernel_rfl
@[go_sem] theorem ei_6 : einfo Tryz.prog 6 = some (1, 1, 1) := by kernel_rfl
@[go_sem] theorem zv_6 : zeroV Tryz.prog 6 = some (.int .u8 0) := by kernel_rfl
@[go_sem] theorem ag_7 : aggT Tryz.prog 7 = some true := by kernel_rfl
@[go_sem] theorem sz_7 : sizeT Tryz.prog 7 = some 4 := by kernel_rfl
@[go_sem] theorem un_7 : Tryz.prog.underlying 7 = some (.struct #[{ name := "x", type := 2, offset := 0, embedded := false, tag := "", pkgPath := "runtime", byteOffset := 0 }, { name := "y", type := 3, offset := 1, embedded := false, tag := "", pkgPath := "runtime", byteOffset := 8 }, { name := "signed", type := 4, offset := 2, embedded := false, tag := "", pkgPath := "runtime", byteOffset := 16 }, { name := "code", type := 6, offset := 3, embedded := false, tag := "", pkgPath := "runtime", byteOffset := 17 }]) := by kernel_rfl
@[go_sem] theorem ze_7 : zeroA Tryz.prog 7 = some [.int .i64 0, .int .i64 0, .bool false, .int .u8 0] := by kernel_rfl
@[go_sem] theorem ei_7 : einfo Tryz.prog 7 = some (4, 24, 4) := by kernel_rfl
@[go_sem] theorem zv_7 : zeroV Tryz.prog 7 = some (.agg [.int .i64 0, .int .i64 0, .bool false, .int .u8 0]) := by kernel_rfl
@[go_sem] theorem fo_7_0 : fieldOff Tryz.prog 7 0 = some 0 := by kernel_rfl
@[go_sem] theorem fo_7_1 : fieldOff Tryz.prog 7 1 = some 1 := by kernel_rfl
@[go_sem] theorem fo_7_2 : fieldOff Tryz.prog 7 2 = some 2 := by kernel_rfl
@[go_sem] theorem fo_7_3 : fieldOff Tryz.prog 7 3 = some 3 := by kernel_rfl
@[go_sem] theorem ag_9 : aggT Tryz.prog 9 = some false := by kernel_rfl
@[go_sem] theorem sz_9 : sizeT Tryz.prog 9 = some 1 := by kernel_rfl
@[go_sem] theorem un_9 : Tryz.prog.underlying 9 = some (.string) := by kernel_rfl
@[go_sem] theorem ze_9 : zeroA Tryz.prog 9 = some [.str []] := by kernel_rfl
@[go_sem] theorem ei_9 : einfo Tryz.prog 9 = some (1, 16, 1) := by kernel_rfl
@[go_sem] theorem zv_9 : zeroV Tryz.prog 9 = some (.str []) := by kernel_rfl
@[go_sem] theorem ag_11 : aggT Tryz.prog 11 = some false := by kernel_rfl
@[go_sem] theorem sz_11 : sizeT Tryz.prog 11 = some 1 := by kernel_rfl
@[go_sem] theorem un_11 : Tryz.prog.underlying 11 = some (.string) := by kernel_rfl
@[go_sem] theorem ze_11 : zeroA Tryz.prog 11 = some [.str []] := by kernel_rfl
@[go_sem] theorem ei_11 : einfo Tryz.prog 11 = some (1, 16, 1) := by kernel_rfl
@[go_sem] theorem zv_11 : zeroV Tryz.prog 11 = some (.str []) := by kernel_rfl
@[go_sem] theorem ag_12 : aggT Tryz.prog 12 = some false := by kernel_rfl
@[go_sem] theorem sz_12 : sizeT Tryz.prog 12 = some 1 := by kernel_rfl
@[go_sem] theorem un_12 : Tryz.prog.underlying 12 = some (.int .u64) := by kernel_rfl
@[go_sem] theorem ze_12 : zeroA Tryz.prog 12 = some [.int .u64 0] := by kernel_rfl
@[go_sem] theorem ei_12 : einfo Tryz.prog 12 = some (1, 8, 1) := by kernel_rfl
@[go_sem] theorem zv_12 : zeroV Tryz.prog 12 = some (.int .u64 0) := by kernel_rfl
@[go_sem] theorem ag_15 : aggT Tryz.prog 15 = some false := by kernel_rfl
@[go_sem] theorem sz_15 : sizeT Tryz.prog 15 = some 1 := by kernel_rfl
@[go_sem] theorem un_15 : Tryz.prog.underlying 15 = some (.pointer 342) := by kernel_rfl
@[go_sem] theorem ze_15 : zeroA Tryz.prog 15 = some [.nilp] := by kernel_rfl
@[go_sem] theorem ei_15 : einfo Tryz.prog 15 = some (1, 8, 1) := by kernel_rfl
@[go_sem] theorem zv_15 : zeroV Tryz.prog 15 = some (.nilp) := by kernel_rfl
@[go_sem] theorem ag_17 : aggT Tryz.prog 17 = some false := by kernel_rfl
@[go_sem] theorem sz_17 : sizeT Tryz.prog 17 = some 1 := by kernel_rfl
@[go_sem] theorem un_17 : Tryz.prog.underlying 17 = some (.pointer 352) := by kernel_rfl
@[go_sem] theorem ze_17 : zeroA Tryz.prog 17 = some [.nilp] := by kernel_rfl
@[go_sem] theorem ei_17 : einfo Tryz.prog 17 = some (1, 8, 1) := by kernel_rfl
@[go_sem] theorem zv_17 : zeroV Tryz.prog 17 = some (.nilp) := by kernel_rfl
@[go_sem] theorem ag_20 : aggT Tryz.prog 20 = some false := by kernel_rfl
@[go_sem] theorem sz_20 : sizeT Tryz.prog 20 = some 1 := by kernel_rfl
@[go_sem] theorem un_20 : Tryz.prog.underlying 20 = some (.interface #[]) := by kernel_rfl
@[go_sem] theorem ze_20 : zeroA Tryz.prog 20 = some [.inil] := by kernel_rfl
@[go_sem] theorem ei_20 : einfo Tryz.prog 20 = some (1, 16, 1) := by kernel_rfl
@[go_sem] theorem zv_20 : zeroV Tryz.prog 20 = some (.inil) := by kernel_rfl
@[go_sem] theorem ag_21 : aggT Tryz.prog 21 = some false := by kernel_rfl
@[go_sem] theorem sz_21 : sizeT Tryz.prog 21 = some 1 := by kernel_rfl
@[go_sem] theorem un_21 : Tryz.prog.underlying 21 = some (.int .i32) := by kernel_rfl
@[go_sem] theorem ze_21 : zeroA Tryz.prog 21 = some [.int .i32 0] := by kernel_rfl
@[go_sem] theorem ei_21 : einfo Tryz.prog 21 = some (1, 4, 1) := by kernel_rfl
@[go_sem] theorem zv_21 : zeroV Tryz.prog 21 = some (.int .i32 0) := by kernel_rfl
@[go_sem] theorem ag_22 : aggT Tryz.prog 22 = some true := by kernel_rfl
@[go_sem] theorem sz_22 : sizeT Tryz.prog 22 = some 2 := by kernel_rfl
@[go_sem] theorem un_22 : Tryz.prog.underlying 22 = some (.struct #[{ name := "Kind", type := 3, offset := 0, embedded := false, tag := "", pkgPath := "", byteOffset := 0 }, { name := "N", type := 3, offset := 1, embedded := false, tag := "", pkgPath := "", byteOffset := 8 }]) := by kernel_rfl
@[go_sem] theorem ze_22 : zeroA Tryz.prog 22 = some [.int .i64 0, .int .i64 0] := by kernel_rfl
@[go_sem] theorem ei_22 : einfo Tryz.prog 22 = some (2, 16, 2) := by kernel_rfl
@[go_sem] theorem zv_22 : zeroV Tryz.prog 22 = some (.agg [.int .i64 0, .int .i64 0]) := by kernel_rfl
@[go_sem] theorem eg_22 : Tryz.prog.eqGuardType Tryz.prog.depth 22 = false := by kernel_rfl
@[go_sem] theorem sh_22 : Tryz.prog.stoodInHeld 22 = false := by kernel_rfl
@[go_sem] theorem fo_22_0 : fieldOff Tryz.prog 22 0 = some 0 := by kernel_rfl
@[go_sem] theorem fo_22_1 : fieldOff Tryz.prog 22 1 = some 1 := by kernel_rfl
@[go_sem] theorem ag_23 : aggT Tryz.prog 23 = some true := by kernel_rfl
@[go_sem] theorem sz_23 : sizeT Tryz.prog 23 = some 2 := by kernel_rfl
@[go_sem] theorem un_23 : Tryz.prog.underlying 23 = some (.struct #[{ name := "Kind", type := 3, offset := 0, embedded := false, tag := "", pkgPath := "", byteOffset := 0 }, { name := "N", type := 3, offset := 1, embedded := false, tag := "", pkgPath := "", byteOffset := 8 }]) := by kernel_rfl
@[go_sem] theorem ze_23 : zeroA Tryz.prog 23 = some [.int .i64 0, .int .i64 0] := by kernel_rfl
@[go_sem] theorem ei_23 : einfo Tryz.prog 23 = some (2, 16, 2) := by kernel_rfl
@[go_sem] theorem zv_23 : zeroV Tryz.prog 23 = some (.agg [.int .i64 0, .int .i64 0]) := by kernel_rfl
@[go_sem] theorem eg_23 : Tryz.prog.eqGuardType Tryz.prog.depth 23 = false := by kernel_rfl
@[go_sem] theorem sh_23 : Tryz.prog.stoodInHeld 23 = false := by kernel_rfl
@[go_sem] theorem fo_23_0 : fieldOff Tryz.prog 23 0 = some 0 := by kernel_rfl
@[go_sem] theorem fo_23_1 : fieldOff Tryz.prog 23 1 = some 1 := by kernel_rfl
@[go_sem] theorem ag_24 : aggT Tryz.prog 24 = some true := by kernel_rfl
@[go_sem] theorem sz_24 : sizeT Tryz.prog 24 = some 6 := by kernel_rfl
@[go_sem] theorem un_24 : Tryz.prog.underlying 24 = some (.struct #[{ name := "Kind", type := 3, offset := 0, embedded := false, tag := "", pkgPath := "", byteOffset := 0 }, { name := "N", type := 3, offset := 1, embedded := false, tag := "", pkgPath := "", byteOffset := 8 }, { name := "M", type := 3, offset := 2, embedded := false, tag := "", pkgPath := "", byteOffset := 16 }, { name := "Color", type := 23, offset := 3, embedded := false, tag := "", pkgPath := "", byteOffset := 24 }, { name := "Text", type := 9, offset := 5, embedded := false, tag := "", pkgPath := "", byteOffset := 40 }]) := by kernel_rfl
@[go_sem] theorem ze_24 : zeroA Tryz.prog 24 = some [.int .i64 0, .int .i64 0, .int .i64 0, .int .i64 0, .int .i64 0, .str []] := by kernel_rfl
@[go_sem] theorem ei_24 : einfo Tryz.prog 24 = some (6, 56, 6) := by kernel_rfl
@[go_sem] theorem zv_24 : zeroV Tryz.prog 24 = some (.agg [.int .i64 0, .int .i64 0, .int .i64 0, .int .i64 0, .int .i64 0, .str []]) := by kernel_rfl
@[go_sem] theorem eg_24 : Tryz.prog.eqGuardType Tryz.prog.depth 24 = false := by kernel_rfl
@[go_sem] theorem sh_24 : Tryz.prog.stoodInHeld 24 = false := by kernel_rfl
@[go_sem] theorem fo_24_0 : fieldOff Tryz.prog 24 0 = some 0 := by kernel_rfl
@[go_sem] theorem fo_24_1 : fieldOff Tryz.prog 24 1 = some 1 := by kernel_rfl
@[go_sem] theorem fo_24_2 : fieldOff Tryz.prog 24 2 = some 2 := by kernel_rfl
@[go_sem] theorem fo_24_3 : fieldOff Tryz.prog 24 3 = some 3 := by kernel_rfl
@[go_sem] theorem fo_24_4 : fieldOff Tryz.prog 24 4 = some 5 := by kernel_rfl
@[go_sem] theorem ag_25 : aggT Tryz.prog 25 = some true := by kernel_rfl
@[go_sem] theorem sz_25 : sizeT Tryz.prog 25 = some 6 := by kernel_rfl
@[go_sem] theorem un_25 : Tryz.prog.underlying 25 = some (.struct #[{ name := "Kind", type := 3, offset := 0, embedded := false, tag := "", pkgPath := "", byteOffset := 0 }, { name := "N", type := 3, offset := 1, embedded := false, tag := "", pkgPath := "", byteOffset := 8 }, { name := "M", type := 3, offset := 2, embedded := false, tag := "", pkgPath := "", byteOffset := 16 }, { name := "Color", type := 23, offset := 3, embedded := false, tag := "", pkgPath := "", byteOffset := 24 }, { name := "Text", type := 9, offset := 5, embedded := false, tag := "", pkgPath := "", byteOffset := 40 }]) := by kernel_rfl
@[go_sem] theorem ze_25 : zeroA Tryz.prog 25 = some [.int .i64 0, .int .i64 0, .int .i64 0, .int .i64 0, .int .i64 0, .str []] := by kernel_rfl
@[go_sem] theorem ei_25 : einfo Tryz.prog 25 = some (6, 56, 6) := by kernel_rfl
@[go_sem] theorem zv_25 : zeroV Tryz.prog 25 = some (.agg [.int .i64 0, .int .i64 0, .int .i64 0, .int .i64 0, .int .i64 0, .str []]) := by kernel_rfl
@[go_sem] theorem eg_25 : Tryz.prog.eqGuardType Tryz.prog.depth 25 = false := by kernel_rfl
@[go_sem] theorem sh_25 : Tryz.prog.stoodInHeld 25 = false := by kernel_rfl
@[go_sem] theorem fo_25_0 : fieldOff Tryz.prog 25 0 = some 0 := by kernel_rfl
@[go_sem] theorem fo_25_1 : fieldOff Tryz.prog 25 1 = some 1 := by kernel_rfl
@[go_sem] theorem fo_25_2 : fieldOff Tryz.prog 25 2 = some 2 := by kernel_rfl
@[go_sem] theorem fo_25_3 : fieldOff Tryz.prog 25 3 = some 3 := by kernel_rfl
@[go_sem] theorem fo_25_4 : fieldOff Tryz.prog 25 4 = some 5 := by kernel_rfl
@[go_sem] theorem ag_27 : aggT Tryz.prog 27 = some false := by kernel_rfl
@[go_sem] theorem sz_27 : sizeT Tryz.prog 27 = some 1 := by kernel_rfl
@[go_sem] theorem un_27 : Tryz.prog.underlying 27 = some (.int .u32) := by kernel_rfl
@[go_sem] theorem ze_27 : zeroA Tryz.prog 27 = some [.int .u32 0] := by kernel_rfl
@[go_sem] theorem ei_27 : einfo Tryz.prog 27 = some (1, 4, 1) := by kernel_rfl
@[go_sem] theorem zv_27 : zeroV Tryz.prog 27 = some (.int .u32 0) := by kernel_rfl
@[go_sem] theorem ag_30 : aggT Tryz.prog 30 = some false := by kernel_rfl
@[go_sem] theorem sz_30 : sizeT Tryz.prog 30 = some 1 := by kernel_rfl
@[go_sem] theorem un_30 : Tryz.prog.underlying 30 = some (.func #[] #[25] false) := by kernel_rfl
@[go_sem] theorem ze_30 : zeroA Tryz.prog 30 = some [.fnil] := by kernel_rfl
@[go_sem] theorem ei_30 : einfo Tryz.prog 30 = some (1, 8, 1) := by kernel_rfl
@[go_sem] theorem zv_30 : zeroV Tryz.prog 30 = some (.fnil) := by kernel_rfl
@[go_sem] theorem ag_32 : aggT Tryz.prog 32 = some false := by kernel_rfl
@[go_sem] theorem sz_32 : sizeT Tryz.prog 32 = some 1 := by kernel_rfl
@[go_sem] theorem un_32 : Tryz.prog.underlying 32 = some (.int .i64) := by kernel_rfl
@[go_sem] theorem ze_32 : zeroA Tryz.prog 32 = some [.int .i64 0] := by kernel_rfl
@[go_sem] theorem ei_32 : einfo Tryz.prog 32 = some (1, 8, 1) := by kernel_rfl
@[go_sem] theorem zv_32 : zeroV Tryz.prog 32 = some (.int .i64 0) := by kernel_rfl
@[go_sem] theorem ag_34 : aggT Tryz.prog 34 = some false := by kernel_rfl
@[go_sem] theorem sz_34 : sizeT Tryz.prog 34 = some 1 := by kernel_rfl
@[go_sem] theorem un_34 : Tryz.prog.underlying 34 = some (.int .u64) := by kernel_rfl
@[go_sem] theorem ze_34 : zeroA Tryz.prog 34 = some [.int .u64 0] := by kernel_rfl
@[go_sem] theorem ei_34 : einfo Tryz.prog 34 = some (1, 8, 1) := by kernel_rfl
@[go_sem] theorem zv_34 : zeroV Tryz.prog 34 = some (.int .u64 0) := by kernel_rfl
@[go_sem] theorem ag_38 : aggT Tryz.prog 38 = some false := by kernel_rfl
@[go_sem] theorem sz_38 : sizeT Tryz.prog 38 = some 1 := by kernel_rfl
@[go_sem] theorem un_38 : Tryz.prog.underlying 38 = some (.slice 63) := by kernel_rfl
@[go_sem] theorem ze_38 : zeroA Tryz.prog 38 = some [.snil] := by kernel_rfl
@[go_sem] theorem ei_38 : einfo Tryz.prog 38 = some (1, 24, 1) := by kernel_rfl
@[go_sem] theorem zv_38 : zeroV Tryz.prog 38 = some (.snil) := by kernel_rfl
@[go_sem] theorem ag_39 : aggT Tryz.prog 39 = some true := by kernel_rfl
@[go_sem] theorem sz_39 : sizeT Tryz.prog 39 = some 7 := by kernel_rfl
@[go_sem] theorem un_39 : Tryz.prog.underlying 39 = some (.struct #[{ name := "Kind", type := 3, offset := 0, embedded := false, tag := "", pkgPath := "", byteOffset := 0 }, { name := "Code", type := 3, offset := 1, embedded := false, tag := "", pkgPath := "", byteOffset := 8 }, { name := "Private", type := 5, offset := 2, embedded := false, tag := "", pkgPath := "", byteOffset := 16 }, { name := "Final", type := 5, offset := 3, embedded := false, tag := "", pkgPath := "", byteOffset := 17 }, { name := "Params", type := 38, offset := 4, embedded := false, tag := "", pkgPath := "", byteOffset := 24 }, { name := "Inter", type := 9, offset := 5, embedded := false, tag := "", pkgPath := "", byteOffset := 48 }, { name := "Text", type := 9, offset := 6, embedded := false, tag := "", pkgPath := "", byteOffset := 64 }]) := by kernel_rfl
@[go_sem] theorem ze_39 : zeroA Tryz.prog 39 = some [.int .i64 0, .int .i64 0, .int .u8 0, .int .u8 0, .snil, .str [], .str []] := by kernel_rfl
@[go_sem] theorem ei_39 : einfo Tryz.prog 39 = some (7, 80, 7) := by kernel_rfl
@[go_sem] theorem zv_39 : zeroV Tryz.prog 39 = some (.agg [.int .i64 0, .int .i64 0, .int .u8 0, .int .u8 0, .snil, .str [], .str []]) := by kernel_rfl
@[go_sem] theorem fo_39_0 : fieldOff Tryz.prog 39 0 = some 0 := by kernel_rfl
@[go_sem] theorem fo_39_1 : fieldOff Tryz.prog 39 1 = some 1 := by kernel_rfl
@[go_sem] theorem fo_39_2 : fieldOff Tryz.prog 39 2 = some 2 := by kernel_rfl
@[go_sem] theorem fo_39_3 : fieldOff Tryz.prog 39 3 = some 3 := by kernel_rfl
@[go_sem] theorem fo_39_4 : fieldOff Tryz.prog 39 4 = some 4 := by kernel_rfl
@[go_sem] theorem fo_39_5 : fieldOff Tryz.prog 39 5 = some 5 := by kernel_rfl
@[go_sem] theorem fo_39_6 : fieldOff Tryz.prog 39 6 = some 6 := by kernel_rfl
@[go_sem] theorem ag_40 : aggT Tryz.prog 40 = some true := by kernel_rfl
@[go_sem] theorem sz_40 : sizeT Tryz.prog 40 = some 7 := by kernel_rfl
@[go_sem] theorem un_40 : Tryz.prog.underlying 40 = some (.struct #[{ name := "Kind", type := 3, offset := 0, embedded := false, tag := "", pkgPath := "", byteOffset := 0 }, { name := "Code", type := 3, offset := 1, embedded := false, tag := "", pkgPath := "", byteOffset := 8 }, { name := "Private", type := 5, offset := 2, embedded := false, tag := "", pkgPath := "", byteOffset := 16 }, { name := "Final", type := 5, offset := 3, embedded := false, tag := "", pkgPath := "", byteOffset := 17 }, { name := "Params", type := 38, offset := 4, embedded := false, tag := "", pkgPath := "", byteOffset := 24 }, { name := "Inter", type := 9, offset := 5, embedded := false, tag := "", pkgPath := "", byteOffset := 48 }, { name := "Text", type := 9, offset := 6, embedded := false, tag := "", pkgPath := "", byteOffset := 64 }]) := by kernel_rfl
@[go_sem] theorem ze_40 : zeroA Tryz.prog 40 = some [.int .i64 0, .int .i64 0, .int .u8 0, .int .u8 0, .snil, .str [], .str []] := by kernel_rfl
@[go_sem] theorem ei_40 : einfo Tryz.prog 40 = some (7, 80, 7) := by kernel_rfl
@[go_sem] theorem zv_40 : zeroV Tryz.prog 40 = some (.agg [.int .i64 0, .int .i64 0, .int .u8 0, .int .u8 0, .snil, .str [], .str []]) := by kernel_rfl
@[go_sem] theorem fo_40_0 : fieldOff Tryz.prog 40 0 = some 0 := by kernel_rfl
@[go_sem] theorem fo_40_1 : fieldOff Tryz.prog 40 1 = some 1 := by kernel_rfl
@[go_sem] theorem fo_40_2 : fieldOff Tryz.prog 40 2 = some 2 := by kernel_rfl
@[go_sem] theorem fo_40_3 : fieldOff Tryz.prog 40 3 = some 3 := by kernel_rfl
@[go_sem] theorem fo_40_4 : fieldOff Tryz.prog 40 4 = some 4 := by kernel_rfl
@[go_sem] theorem fo_40_5 : fieldOff Tryz.prog 40 5 = some 5 := by kernel_rfl
@[go_sem] theorem fo_40_6 : fieldOff Tryz.prog 40 6 = some 6 := by kernel_rfl
@[go_sem] theorem ag_41 : aggT Tryz.prog 41 = some false := by kernel_rfl
@[go_sem] theorem sz_41 : sizeT Tryz.prog 41 = some 1 := by kernel_rfl
@[go_sem] theorem un_41 : Tryz.prog.underlying 41 = some (.slice 5) := by kernel_rfl
@[go_sem] theorem ze_41 : zeroA Tryz.prog 41 = some [.snil] := by kernel_rfl
@[go_sem] theorem ei_41 : einfo Tryz.prog 41 = some (1, 24, 1) := by kernel_rfl
@[go_sem] theorem zv_41 : zeroV Tryz.prog 41 = some (.snil) := by kernel_rfl
@[go_sem] theorem ag_43 : aggT Tryz.prog 43 = some true := by kernel_rfl
@[go_sem] theorem sz_43 : sizeT Tryz.prog 43 = some 8 := by kernel_rfl
@[go_sem] theorem un_43 : Tryz.prog.underlying 43 = some (.struct #[{ name := "State", type := 3, offset := 0, embedded := false, tag := "", pkgPath := "", byteOffset := 0 }, { name := "Utf", type := 41, offset := 1, embedded := false, tag := "", pkgPath := "", byteOffset := 8 }, { name := "Private", type := 5, offset := 2, embedded := false, tag := "", pkgPath := "", byteOffset := 32 }, { name := "Final", type := 5, offset := 3, embedded := false, tag := "", pkgPath := "", byteOffset := 33 }, { name := "Params", type := 38, offset := 4, embedded := false, tag := "", pkgPath := "", byteOffset := 40 }, { name := "Inter", type := 9, offset := 5, embedded := false, tag := "", pkgPath := "", byteOffset := 64 }, { name := "Text", type := 9, offset := 6, embedded := false, tag := "", pkgPath := "", byteOffset := 80 }, { name := "Bad", type := 4, offset := 7, embedded := false, tag := "", pkgPath := "", byteOffset := 96 }]) := by kernel_rfl
@[go_sem] theorem ze_43 : zeroA Tryz.prog 43 = some [.int .i64 0, .snil, .int .u8 0, .int .u8 0, .snil, .str [], .str [], .bool false] := by kernel_rfl
@[go_sem] theorem ei_43 : einfo Tryz.prog 43 = some (8, 104, 8) := by kernel_rfl
@[go_sem] theorem zv_43 : zeroV Tryz.prog 43 = some (.agg [.int .i64 0, .snil, .int .u8 0, .int .u8 0, .snil, .str [], .str [], .bool false]) := by kernel_rfl
@[go_sem] theorem fo_43_0 : fieldOff Tryz.prog 43 0 = some 0 := by kernel_rfl
@[go_sem] theorem fo_43_1 : fieldOff Tryz.prog 43 1 = some 1 := by kernel_rfl
@[go_sem] theorem fo_43_2 : fieldOff Tryz.prog 43 2 = some 2 := by kernel_rfl
@[go_sem] theorem fo_43_3 : fieldOff Tryz.prog 43 3 = some 3 := by kernel_rfl
@[go_sem] theorem fo_43_4 : fieldOff Tryz.prog 43 4 = some 4 := by kernel_rfl
@[go_sem] theorem fo_43_5 : fieldOff Tryz.prog 43 5 = some 5 := by kernel_rfl
@[go_sem] theorem fo_43_6 : fieldOff Tryz.prog 43 6 = some 6 := by kernel_rfl
@[go_sem] theorem fo_43_7 : fieldOff Tryz.prog 43 7 = some 7 := by kernel_rfl
@[go_sem] theorem ag_44 : aggT Tryz.prog 44 = some true := by kernel_rfl
@[go_sem] theorem sz_44 : sizeT Tryz.prog 44 = some 8 := by kernel_rfl
@[go_sem] theorem un_44 : Tryz.prog.underlying 44 = some (.struct #[{ name := "State", type := 3, offset := 0, embedded := false, tag := "", pkgPath := "", byteOffset := 0 }, { name := "Utf", type := 41, offset := 1, embedded := false, tag := "", pkgPath := "", byteOffset := 8 }, { name := "Private", type := 5, offset := 2, embedded := false, tag := "", pkgPath := "", byteOffset := 32 }, { name := "Final", type := 5, offset := 3, embedded := false, tag := "", pkgPath := "", byteOffset := 33 }, { name := "Params", type := 38, offset := 4, embedded := false, tag := "", pkgPath := "", byteOffset := 40 }, { name := "Inter", type := 9, offset := 5, embedded := false, tag := "", pkgPath := "", byteOffset := 64 }, { name := "Text", type := 9, offset := 6, embedded := false, tag := "", pkgPath := "", byteOffset := 80 }, { name := "Bad", type := 4, offset := 7, embedded := false, tag := "", pkgPath := "", byteOffset := 96 }]) := by kernel_rfl
@[go_sem] theorem ze_44 : zeroA Tryz.prog 44 = some [.int .i64 0, .snil, .int .u8 0, .int .u8 0, .snil, .str [], .str [], .bool false] := by kernel_rfl
@[go_sem] theorem ei_44 : einfo Tryz.prog 44 = some (8, 104, 8) := by kernel_rfl
@[go_sem] theorem zv_44 : zeroV Tryz.prog 44 = some (.agg [.int .i64 0, .snil, .int .u8 0, .int .u8 0, .snil, .str [], .str [], .bool false]) := by kernel_rfl
@[go_sem] theorem fo_44_0 : fieldOff Tryz.prog 44 0 = some 0 := by kernel_rfl
@[go_sem] theorem fo_44_1 : fieldOff Tryz.prog 44 1 = some 1 := by kernel_rfl
@[go_sem] theorem fo_44_2 : fieldOff Tryz.prog 44 2 = some 2 := by kernel_rfl
@[go_sem] theorem fo_44_3 : fieldOff Tryz.prog 44 3 = some 3 := by kernel_rfl
@[go_sem] theorem fo_44_4 : fieldOff Tryz.prog 44 4 = some 4 := by kernel_rfl
@[go_sem] theorem fo_44_5 : fieldOff Tryz.prog 44 5 = some 5 := by kernel_rfl
@[go_sem] theorem fo_44_6 : fieldOff Tryz.prog 44 6 = some 6 := by kernel_rfl
@[go_sem] theorem fo_44_7 : fieldOff Tryz.prog 44 7 = some 7 := by kernel_rfl
@[go_sem] theorem ag_45 : aggT Tryz.prog 45 = some false := by kernel_rfl
@[go_sem] theorem sz_45 : sizeT Tryz.prog 45 = some 1 := by kernel_rfl
@[go_sem] theorem un_45 : Tryz.prog.underlying 45 = some (.slice 40) := by kernel_rfl
@[go_sem] theorem ze_45 : zeroA Tryz.prog 45 = some [.snil] := by kernel_rfl
@[go_sem] theorem ei_45 : einfo Tryz.prog 45 = some (1, 24, 1) := by kernel_rfl
@[go_sem] theorem zv_45 : zeroV Tryz.prog 45 = some (.snil) := by kernel_rfl
@[go_sem] theorem ag_52 : aggT Tryz.prog 52 = some true := by kernel_rfl
@[go_sem] theorem sz_52 : sizeT Tryz.prog 52 = some 2 := by kernel_rfl
@[go_sem] theorem un_52 : Tryz.prog.underlying 52 = some (.array 2 3) := by kernel_rfl
@[go_sem] theorem ze_52 : zeroA Tryz.prog 52 = some [.int .i64 0, .int .i64 0] := by kernel_rfl
@[go_sem] theorem ei_52 : einfo Tryz.prog 52 = some (2, 16, 2) := by kernel_rfl
@[go_sem] theorem zv_52 : zeroV Tryz.prog 52 = some (.agg [.int .i64 0, .int .i64 0]) := by kernel_rfl
@[go_sem] theorem ag_54 : aggT Tryz.prog 54 = some false := by kernel_rfl
@[go_sem] theorem sz_54 : sizeT Tryz.prog 54 = some 1 := by kernel_rfl
@[go_sem] theorem un_54 : Tryz.prog.underlying 54 = some (.slice 25) := by kernel_rfl
@[go_sem] theorem ze_54 : zeroA Tryz.prog 54 = some [.snil] := by kernel_rfl
@[go_sem] theorem ei_54 : einfo Tryz.prog 54 = some (1, 24, 1) := by kernel_rfl
@[go_sem] theorem zv_54 : zeroV Tryz.prog 54 = some (.snil) := by kernel_rfl
@[go_sem] theorem ag_61 : aggT Tryz.prog 61 = some false := by kernel_rfl
@[go_sem] theorem sz_61 : sizeT Tryz.prog 61 = some 1 := by kernel_rfl
@[go_sem] theorem un_61 : Tryz.prog.underlying 61 = some (.slice 3) := by kernel_rfl
@[go_sem] theorem ze_61 : zeroA Tryz.prog 61 = some [.snil] := by kernel_rfl
@[go_sem] theorem ei_61 : einfo Tryz.prog 61 = some (1, 24, 1) := by kernel_rfl
@[go_sem] theorem zv_61 : zeroV Tryz.prog 61 = some (.snil) := by kernel_rfl
@[go_sem] theorem ag_62 : aggT Tryz.prog 62 = some true := by kernel_rfl
@[go_sem] theorem sz_62 : sizeT Tryz.prog 62 = some 1 := by kernel_rfl
@[go_sem] theorem un_62 : Tryz.prog.underlying 62 = some (.struct #[{ name := "Subs", type := 61, offset := 0, embedded := false, tag := "", pkgPath := "", byteOffset := 0 }]) := by kernel_rfl
@[go_sem] theorem ze_62 : zeroA Tryz.prog 62 = some [.snil] := by kernel_rfl
@[go_sem] theorem ei_62 : einfo Tryz.prog 62 = some (1, 24, 1) := by kernel_rfl
@[go_sem] theorem zv_62 : zeroV Tryz.prog 62 = some (.agg [.snil]) := by kernel_rfl
@[go_sem] theorem fo_62_0 : fieldOff Tryz.prog 62 0 = some 0 := by kernel_rfl
@[go_sem] theorem ag_63 : aggT Tryz.prog 63 = some true := by kernel_rfl
@[go_sem] theorem sz_63 : sizeT Tryz.prog 63 = some 1 := by kernel_rfl
@[go_sem] theorem un_63 : Tryz.prog.underlying 63 = some (.struct #[{ name := "Subs", type := 61, offset := 0, embedded := false, tag := "", pkgPath := "", byteOffset := 0 }]) := by kernel_rfl
@[go_sem] theorem ze_63 : zeroA Tryz.prog 63 = some [.snil] := by kernel_rfl
@[go_sem] theorem ei_63 : einfo Tryz.prog 63 = some (1, 24, 1) := by kernel_rfl
@[go_sem] theorem zv_63 : zeroV Tryz.prog 63 = some (.agg [.snil]) := by kernel_rfl
@[go_sem] theorem fo_63_0 : fieldOff Tryz.prog 63 0 = some 0 := by kernel_rfl
@[go_sem] theorem ag_69 : aggT Tryz.prog 69 = some false := by kernel_rfl
@[go_sem] theorem sz_69 : sizeT Tryz.prog 69 = some 1 := by kernel_rfl
@[go_sem] theorem un_69 : Tryz.prog.underlying 69 = some (.func #[25] #[4] false) := by kernel_rfl
@[go_sem] theorem ze_69 : zeroA Tryz.prog 69 = some [.fnil] := by kernel_rfl
@[go_sem] theorem ei_69 : einfo Tryz.prog 69 = some (1, 8, 1) := by kernel_rfl
@[go_sem] theorem zv_69 : zeroV Tryz.prog 69 = some (.fnil) := by kernel_rfl
@[go_sem] theorem ag_71 : aggT Tryz.prog 71 = some true := by kernel_rfl
@[go_sem] theorem sz_71 : sizeT Tryz.prog 71 = some 5 := by kernel_rfl
@[go_sem] theorem un_71 : Tryz.prog.underlying 71 = some (.array 5 3) := by kernel_rfl
@[go_sem] theorem ze_71 : zeroA Tryz.prog 71 = some [.int .i64 0, .int .i64 0, .int .i64 0, .int .i64 0, .int .i64 0] := by kernel_rfl
@[go_sem] theorem ei_71 : einfo Tryz.prog 71 = some (5, 40, 5) := by kernel_rfl
@[go_sem] theorem zv_71 : zeroV Tryz.prog 71 = some (.agg [.int .i64 0, .int .i64 0, .int .i64 0, .int .i64 0, .int .i64 0]) := by kernel_rfl
@[go_sem] theorem ag_74 : aggT Tryz.prog 74 = some false := by kernel_rfl
@[go_sem] theorem sz_74 : sizeT Tryz.prog 74 = some 1 := by kernel_rfl
@[go_sem] theorem un_74 : Tryz.prog.underlying 74 = some (.func #[3] #[4] false) := by kernel_rfl
@[go_sem] theorem ze_74 : zeroA Tryz.prog 74 = some [.fnil] := by kernel_rfl
@[go_sem] theorem ei_74 : einfo Tryz.prog 74 = some (1, 8, 1) := by kernel_rfl
@[go_sem] theorem zv_74 : zeroV Tryz.prog 74 = some (.fnil) := by kernel_rfl
@[go_sem] theorem ag_75 : aggT Tryz.prog 75 = some true := by kernel_rfl
@[go_sem] theorem sz_75 : sizeT Tryz.prog 75 = some 2 := by kernel_rfl
@[go_sem] theorem un_75 : Tryz.prog.underlying 75 = some (.struct #[{ name := "n", type := 74, offset := 0, embedded := false, tag := "", pkgPath := "fenestra/action", byteOffset := 0 }, { name := "m", type := 74, offset := 1, embedded := false, tag := "", pkgPath := "fenestra/action", byteOffset := 8 }]) := by kernel_rfl
@[go_sem] theorem ze_75 : zeroA Tryz.prog 75 = some [.fnil, .fnil] := by kernel_rfl
@[go_sem] theorem ei_75 : einfo Tryz.prog 75 = some (2, 16, 2) := by kernel_rfl
@[go_sem] theorem zv_75 : zeroV Tryz.prog 75 = some (.agg [.fnil, .fnil]) := by kernel_rfl
@[go_sem] theorem fo_75_0 : fieldOff Tryz.prog 75 0 = some 0 := by kernel_rfl
@[go_sem] theorem fo_75_1 : fieldOff Tryz.prog 75 1 = some 1 := by kernel_rfl
@[go_sem] theorem ag_76 : aggT Tryz.prog 76 = some true := by kernel_rfl
@[go_sem] theorem sz_76 : sizeT Tryz.prog 76 = some 2 := by kernel_rfl
@[go_sem] theorem un_76 : Tryz.prog.underlying 76 = some (.struct #[{ name := "n", type := 74, offset := 0, embedded := false, tag := "", pkgPath := "fenestra/action", byteOffset := 0 }, { name := "m", type := 74, offset := 1, embedded := false, tag := "", pkgPath := "fenestra/action", byteOffset := 8 }]) := by kernel_rfl
@[go_sem] theorem ze_76 : zeroA Tryz.prog 76 = some [.fnil, .fnil] := by kernel_rfl
@[go_sem] theorem ei_76 : einfo Tryz.prog 76 = some (2, 16, 2) := by kernel_rfl
@[go_sem] theorem zv_76 : zeroV Tryz.prog 76 = some (.agg [.fnil, .fnil]) := by kernel_rfl
@[go_sem] theorem fo_76_0 : fieldOff Tryz.prog 76 0 = some 0 := by kernel_rfl
@[go_sem] theorem fo_76_1 : fieldOff Tryz.prog 76 1 = some 1 := by kernel_rfl
@[go_sem] theorem ag_78 : aggT Tryz.prog 78 = some false := by kernel_rfl
@[go_sem] theorem sz_78 : sizeT Tryz.prog 78 = some 1 := by kernel_rfl
@[go_sem] theorem un_78 : Tryz.prog.underlying 78 = some (.map 3 76) := by kernel_rfl
@[go_sem] theorem ze_78 : zeroA Tryz.prog 78 = some [.mnil] := by kernel_rfl
@[go_sem] theorem ei_78 : einfo Tryz.prog 78 = some (1, 8, 1) := by kernel_rfl
@[go_sem] theorem zv_78 : zeroV Tryz.prog 78 = some (.mnil) := by kernel_rfl
@[go_sem] theorem ag_84 : aggT Tryz.prog 84 = some true := by kernel_rfl
@[go_sem] theorem sz_84 : sizeT Tryz.prog 84 = some 2 := by kernel_rfl
@[go_sem] theorem un_84 : Tryz.prog.underlying 84 = some (.struct #[{ name := "from", type := 3, offset := 0, embedded := false, tag := "", pkgPath := "fenestra/action", byteOffset := 0 }, { name := "to", type := 3, offset := 1, embedded := false, tag := "", pkgPath := "fenestra/action", byteOffset := 8 }]) := by kernel_rfl
@[go_sem] theorem ze_84 : zeroA Tryz.prog 84 = some [.int .i64 0, .int .i64 0] := by kernel_rfl
@[go_sem] theorem ei_84 : einfo Tryz.prog 84 = some (2, 16, 2) := by kernel_rfl
@[go_sem] theorem zv_84 : zeroV Tryz.prog 84 = some (.agg [.int .i64 0, .int .i64 0]) := by kernel_rfl
@[go_sem] theorem fo_84_0 : fieldOff Tryz.prog 84 0 = some 0 := by kernel_rfl
@[go_sem] theorem fo_84_1 : fieldOff Tryz.prog 84 1 = some 1 := by kernel_rfl
@[go_sem] theorem ag_85 : aggT Tryz.prog 85 = some true := by kernel_rfl
@[go_sem] theorem sz_85 : sizeT Tryz.prog 85 = some 2 := by kernel_rfl
@[go_sem] theorem un_85 : Tryz.prog.underlying 85 = some (.struct #[{ name := "from", type := 3, offset := 0, embedded := false, tag := "", pkgPath := "fenestra/action", byteOffset := 0 }, { name := "to", type := 3, offset := 1, embedded := false, tag := "", pkgPath := "fenestra/action", byteOffset := 8 }]) := by kernel_rfl
@[go_sem] theorem ze_85 : zeroA Tryz.prog 85 = some [.int .i64 0, .int .i64 0] := by kernel_rfl
@[go_sem] theorem ei_85 : einfo Tryz.prog 85 = some (2, 16, 2) := by kernel_rfl
@[go_sem] theorem zv_85 : zeroV Tryz.prog 85 = some (.agg [.int .i64 0, .int .i64 0]) := by kernel_rfl
@[go_sem] theorem fo_85_0 : fieldOff Tryz.prog 85 0 = some 0 := by kernel_rfl
@[go_sem] theorem fo_85_1 : fieldOff Tryz.prog 85 1 = some 1 := by kernel_rfl
@[go_sem] theorem ag_88 : aggT Tryz.prog 88 = some false := by kernel_rfl
@[go_sem] theorem sz_88 : sizeT Tryz.prog 88 = some 1 := by kernel_rfl
@[go_sem] theorem un_88 : Tryz.prog.underlying 88 = some (.pointer 90) := by kernel_rfl
@[go_sem] theorem ze_88 : zeroA Tryz.prog 88 = some [.nilp] := by kernel_rfl
@[go_sem] theorem ei_88 : einfo Tryz.prog 88 = some (1, 8, 1) := by kernel_rfl
@[go_sem] theorem zv_88 : zeroV Tryz.prog 88 = some (.nilp) := by kernel_rfl
@[go_sem] theorem ag_89 : aggT Tryz.prog 89 = some true := by kernel_rfl
@[go_sem] theorem sz_89 : sizeT Tryz.prog 89 = some 2 := by kernel_rfl
@[go_sem] theorem un_89 : Tryz.prog.underlying 89 = some (.struct #[{ name := "addr", type := 88, offset := 0, embedded := false, tag := "", pkgPath := "strings", byteOffset := 0 }, { name := "buf", type := 41, offset := 1, embedded := false, tag := "", pkgPath := "strings", byteOffset := 8 }]) := by kernel_rfl
@[go_sem] theorem ze_89 : zeroA Tryz.prog 89 = some [.nilp, .snil] := by kernel_rfl
@[go_sem] theorem ei_89 : einfo Tryz.prog 89 = some (2, 32, 2) := by kernel_rfl
@[go_sem] theorem zv_89 : zeroV Tryz.prog 89 = some (.agg [.nilp, .snil]) := by kernel_rfl
@[go_sem] theorem fo_89_0 : fieldOff Tryz.prog 89 0 = some 0 := by kernel_rfl
@[go_sem] theorem fo_89_1 : fieldOff Tryz.prog 89 1 = some 1 := by kernel_rfl
@[go_sem] theorem ag_90 : aggT Tryz.prog 90 = some true := by kernel_rfl
@[go_sem] theorem sz_90 : sizeT Tryz.prog 90 = some 2 := by kernel_rfl
@[go_sem] theorem un_90 : Tryz.prog.underlying 90 = some (.struct #[{ name := "addr", type := 88, offset := 0, embedded := false, tag := "", pkgPath := "strings", byteOffset := 0 }, { name := "buf", type := 41, offset := 1, embedded := false, tag := "", pkgPath := "strings", byteOffset := 8 }]) := by kernel_rfl
@[go_sem] theorem ze_90 : zeroA Tryz.prog 90 = some [.nilp, .snil] := by kernel_rfl
@[go_sem] theorem ei_90 : einfo Tryz.prog 90 = some (2, 32, 2) := by kernel_rfl
@[go_sem] theorem zv_90 : zeroV Tryz.prog 90 = some (.agg [.nilp, .snil]) := by kernel_rfl
@[go_sem] theorem fo_90_0 : fieldOff Tryz.prog 90 0 = some 0 := by kernel_rfl
@[go_sem] theorem fo_90_1 : fieldOff Tryz.prog 90 1 = some 1 := by kernel_rfl
@[go_sem] theorem ag_94 : aggT Tryz.prog 94 = some false := by kernel_rfl
@[go_sem] theorem sz_94 : sizeT Tryz.prog 94 = some 1 := by kernel_rfl
@[go_sem] theorem un_94 : Tryz.prog.underlying 94 = some (.interface #[("Error", 98)]) := by kernel_rfl
@[go_sem] theorem ze_94 : zeroA Tryz.prog 94 = some [.inil] := by kernel_rfl
@[go_sem] theorem ei_94 : einfo Tryz.prog 94 = some (1, 16, 1) := by kernel_rfl
@[go_sem] theorem zv_94 : zeroV Tryz.prog 94 = some (.inil) := by kernel_rfl
@[go_sem] theorem ag_95 : aggT Tryz.prog 95 = some false := by kernel_rfl
@[go_sem] theorem sz_95 : sizeT Tryz.prog 95 = some 1 := by kernel_rfl
@[go_sem] theorem un_95 : Tryz.prog.underlying 95 = some (.interface #[("Error", 98)]) := by kernel_rfl
@[go_sem] theorem ze_95 : zeroA Tryz.prog 95 = some [.inil] := by kernel_rfl
@[go_sem] theorem ei_95 : einfo Tryz.prog 95 = some (1, 16, 1) := by kernel_rfl
@[go_sem] theorem zv_95 : zeroV Tryz.prog 95 = some (.inil) := by kernel_rfl
@[go_sem] theorem ag_98 : aggT Tryz.prog 98 = some false := by kernel_rfl
@[go_sem] theorem sz_98 : sizeT Tryz.prog 98 = some 1 := by kernel_rfl
@[go_sem] theorem un_98 : Tryz.prog.underlying 98 = some (.func #[] #[9] false) := by kernel_rfl
@[go_sem] theorem ze_98 : zeroA Tryz.prog 98 = some [.fnil] := by kernel_rfl
@[go_sem] theorem ei_98 : einfo Tryz.prog 98 = some (1, 8, 1) := by kernel_rfl
@[go_sem] theorem zv_98 : zeroV Tryz.prog 98 = some (.fnil) := by kernel_rfl
@[go_sem] theorem ag_99 : aggT Tryz.prog 99 = some true := by kernel_rfl
@[go_sem] theorem sz_99 : sizeT Tryz.prog 99 = some 6 := by kernel_rfl
@[go_sem] theorem un_99 : Tryz.prog.underlying 99 = some (.array 6 3) := by kernel_rfl
@[go_sem] theorem ze_99 : zeroA Tryz.prog 99 = some [.int .i64 0, .int .i64 0, .int .i64 0, .int .i64 0, .int .i64 0, .int .i64 0] := by kernel_rfl
@[go_sem] theorem ei_99 : einfo Tryz.prog 99 = some (6, 48, 6) := by kernel_rfl
@[go_sem] theorem zv_99 : zeroV Tryz.prog 99 = some (.agg [.int .i64 0, .int .i64 0, .int .i64 0, .int .i64 0, .int .i64 0, .int .i64 0]) := by kernel_rfl
@[go_sem] theorem ag_101 : aggT Tryz.prog 101 = some true := by kernel_rfl
@[go_sem] theorem sz_101 : sizeT Tryz.prog 101 = some 2 := by kernel_rfl
@[go_sem] theorem un_101 : Tryz.prog.underlying 101 = some (.struct #[{ name := "from", type := 3, offset := 0, embedded := false, tag := "", pkgPath := "fenestra/width", byteOffset := 0 }, { name := "to", type := 3, offset := 1, embedded := false, tag := "", pkgPath := "fenestra/width", byteOffset := 8 }]) := by kernel_rfl
@[go_sem] theorem ze_101 : zeroA Tryz.prog 101 = some [.int .i64 0, .int .i64 0] := by kernel_rfl
@[go_sem] theorem ei_101 : einfo Tryz.prog 101 = some (2, 16, 2) := by kernel_rfl
@[go_sem] theorem zv_101 : zeroV Tryz.prog 101 = some (.agg [.int .i64 0, .int .i64 0]) := by kernel_rfl
@[go_sem] theorem fo_101_0 : fieldOff Tryz.prog 101 0 = some 0 := by kernel_rfl
@[go_sem] theorem fo_101_1 : fieldOff Tryz.prog 101 1 = some 1 := by kernel_rfl
@[go_sem] theorem ag_102 : aggT Tryz.prog 102 = some true := by kernel_rfl
@[go_sem] theorem sz_102 : sizeT Tryz.prog 102 = some 2 := by kernel_rfl
@[go_sem] theorem un_102 : Tryz.prog.underlying 102 = some (.struct #[{ name := "from", type := 3, offset := 0, embedded := false, tag := "", pkgPath := "fenestra/width", byteOffset := 0 }, { name := "to", type := 3, offset := 1, embedded := false, tag := "", pkgPath := "fenestra/width", byteOffset := 8 }]) := by kernel_rfl
@[go_sem] theorem ze_102 : zeroA Tryz.prog 102 = some [.int .i64 0, .int .i64 0] := by kernel_rfl
@[go_sem] theorem ei_102 : einfo Tryz.prog 102 = some (2, 16, 2) := by kernel_rfl
@[go_sem] theorem zv_102 : zeroV Tryz.prog 102 = some (.agg [.int .i64 0, .int .i64 0]) := by kernel_rfl
@[go_sem] theorem fo_102_0 : fieldOff Tryz.prog 102 0 = some 0 := by kernel_rfl
@[go_sem] theorem fo_102_1 : fieldOff Tryz.prog 102 1 = some 1 := by kernel_rfl
@[go_sem] theorem ag_103 : aggT Tryz.prog 103 = some true := by kernel_rfl
@[go_sem] theorem sz_103 : sizeT Tryz.prog 103 = some 22 := by kernel_rfl
@[go_sem] theorem un_103 : Tryz.prog.underlying 103 = some (.array 11 102) := by kernel_rfl
@[go_sem] theorem ze_103 : zeroA Tryz.prog 103 = some [.int .i64 0, .int .i64 0, .int .i64 0, .int .i64 0, .int .i64 0, .int .i64 0, .int .i64 0, .int .i64 0, .int .i64 0, .int .i64 0, .int .i64 0, .int .i64 0, .int .i64 0, .int .i64 0, .int .i64 0, .int .i64 0, .int .i64 0, .int .i64 0, .int .i64 0, .int .i64 0, .int .i64 0, .int .i64 0] := by kernel_rfl
@[go_sem] theorem ei_103 : einfo Tryz.prog 103 = some (22, 176, 22) := by kernel_rfl
@[go_sem] theorem zv_103 : zeroV Tryz.prog 103 = some (.agg [.int .i64 0, .int .i64 0, .int .i64 0, .int .i64 0, .int .i64 0, .int .i64 0, .int .i64 0, .int .i64 0, .int .i64 0, .int .i64 0, .int .i64 0, .int .i64 0, .int .i64 0, .int .i64 0, .int .i64 0, .int .i64 0, .int .i64 0, .int .i64 0, .int .i64 0, .int .i64 0, .int .i64 0, .int .i64 0]) := by kernel_rfl
@[go_sem] theorem ag_104 : aggT Tryz.prog 104 = some false := by kernel_rfl
@[go_sem] theorem sz_104 : sizeT Tryz.prog 104 = some 1 := by kernel_rfl
@[go_sem] theorem un_104 : Tryz.prog.underlying 104 = some (.slice 102) := by kernel_rfl
@[go_sem] theorem ze_104 : zeroA Tryz.prog 104 = some [.snil] := by kernel_rfl
@[go_sem] theorem ei_104 : einfo Tryz.prog 104 = some (1, 24, 1) := by kernel_rfl
@[go_sem] theorem zv_104 : zeroV Tryz.prog 104 = some (.snil) := by kernel_rfl
@[go_sem] theorem ag_105 : aggT Tryz.prog 105 = some true := by kernel_rfl
@[go_sem] theorem sz_105 : sizeT Tryz.prog 105 = some 26 := by kernel_rfl
@[go_sem] theorem un_105 : Tryz.prog.underlying 105 = some (.array 13 102) := by kernel_rfl
@[go_sem] theorem ze_105 : zeroA Tryz.prog 105 = some [.int .i64 0, .int .i64 0, .int .i64 0, .int .i64 0, .int .i64 0, .int .i64 0, .int .i64 0, .int .i64 0, .int .i64 0, .int .i64 0, .int .i64 0, .int .i64 0, .int .i64 0, .int .i64 0, .int .i64 0, .int .i64 0, .int .i64 0, .int .i64 0, .int .i64 0, .int .i64 0, .int .i64 0, .int .i64 0, .int .i64 0, .int .i64 0, .int .i64 0, .int .i64 0] := by kernel_rfl
@[go_sem] theorem ei_105 : einfo Tryz.prog 105 = some (26, 208, 26) := by kernel_rfl
@[go_sem] theorem zv_105 : zeroV Tryz.prog 105 = some (.agg [.int .i64 0, .int .i64 0, .int .i64 0, .int .i64 0, .int .i64 0, .int .i64 0, .int .i64 0, .int .i64 0, .int .i64 0, .int .i64 0, .int .i64 0, .int .i64 0, .int .i64 0, .int .i64 0, .int .i64 0, .int .i64 0, .int .i64 0, .int .i64 0, .int .i64 0, .int .i64 0, .int .i64 0, .int .i64 0, .int .i64 0, .int .i64 0, .int .i64 0, .int .i64 0]) := by kernel_rfl
@[go_sem] theorem ag_106 : aggT Tryz.prog 106 = some false := by kernel_rfl
@[go_sem] theorem sz_106 : sizeT Tryz.prog 106 = some 1 := by kernel_rfl
@[go_sem] theorem un_106 : Tryz.prog.underlying 106 = some (.func #[163, 25] #[] false) := by kernel_rfl
@[go_sem] theorem ze_106 : zeroA Tryz.prog 106 = some [.fnil] := by kernel_rfl
@[go_sem] theorem ei_106 : einfo Tryz.prog 106 = some (1, 8, 1) := by kernel_rfl
@[go_sem] theorem zv_106 : zeroV Tryz.prog 106 = some (.fnil) := by kernel_rfl
@[go_sem] theorem ag_107 : aggT Tryz.prog 107 = some true := by kernel_rfl
@[go_sem] theorem sz_107 : sizeT Tryz.prog 107 = some 3 := by kernel_rfl
@[go_sem] theorem un_107 : Tryz.prog.underlying 107 = some (.struct #[{ name := "may", type := 74, offset := 0, embedded := false, tag := "", pkgPath := "fenestra/style", byteOffset := 0 }, { name := "colour", type := 4, offset := 1, embedded := false, tag := "", pkgPath := "fenestra/style", byteOffset := 8 }, { name := "make", type := 106, offset := 2, embedded := false, tag := "", pkgPath := "fenestra/style", byteOffset := 16 }]) := by kernel_rfl
@[go_sem] theorem ze_107 : zeroA Tryz.prog 107 = some [.fnil, .bool false, .fnil] := by kernel_rfl
@[go_sem] theorem ei_107 : einfo Tryz.prog 107 = some (3, 24, 3) := by kernel_rfl
@[go_sem] theorem zv_107 : zeroV Tryz.prog 107 = some (.agg [.fnil, .bool false, .fnil]) := by kernel_rfl
@[go_sem] theorem fo_107_0 : fieldOff Tryz.prog 107 0 = some 0 := by kernel_rfl
@[go_sem] theorem fo_107_1 : fieldOff Tryz.prog 107 1 = some 1 := by kernel_rfl
@[go_sem] theorem fo_107_2 : fieldOff Tryz.prog 107 2 = some 2 := by kernel_rfl
@[go_sem] theorem ag_108 : aggT Tryz.prog 108 = some true := by kernel_rfl
@[go_sem] theorem sz_108 : sizeT Tryz.prog 108 = some 3 := by kernel_rfl
@[go_sem] theorem un_108 : Tryz.prog.underlying 108 = some (.struct #[{ name := "may", type := 74, offset := 0, embedded := false, tag := "", pkgPath := "fenestra/style", byteOffset := 0 }, { name := "colour", type := 4, offset := 1, embedded := false, tag := "", pkgPath := "fenestra/style", byteOffset := 8 }, { name := "make", type := 106, offset := 2, embedded := false, tag := "", pkgPath := "fenestra/style", byteOffset := 16 }]) := by kernel_rfl
@[go_sem] theorem ze_108 : zeroA Tryz.prog 108 = some [.fnil, .bool false, .fnil] := by kernel_rfl
@[go_sem] theorem ei_108 : einfo Tryz.prog 108 = some (3, 24, 3) := by kernel_rfl
@[go_sem] theorem zv_108 : zeroV Tryz.prog 108 = some (.agg [.fnil, .bool false, .fnil]) := by kernel_rfl
@[go_sem] theorem fo_108_0 : fieldOff Tryz.prog 108 0 = some 0 := by kernel_rfl
@[go_sem] theorem fo_108_1 : fieldOff Tryz.prog 108 1 = some 1 := by kernel_rfl
@[go_sem] theorem fo_108_2 : fieldOff Tryz.prog 108 2 = some 2 := by kernel_rfl
@[go_sem] theorem ag_110 : aggT Tryz.prog 110 = some false := by kernel_rfl
@[go_sem] theorem sz_110 : sizeT Tryz.prog 110 = some 1 := by kernel_rfl
@[go_sem] theorem un_110 : Tryz.prog.underlying 110 = some (.map 3 108) := by kernel_rfl
@[go_sem] theorem ze_110 : zeroA Tryz.prog 110 = some [.mnil] := by kernel_rfl
@[go_sem] theorem ei_110 : einfo Tryz.prog 110 = some (1, 8, 1) := by kernel_rfl
@[go_sem] theorem zv_110 : zeroV Tryz.prog 110 = some (.mnil) := by kernel_rfl
@[go_sem] theorem ag_115 : aggT Tryz.prog 115 = some false := by kernel_rfl
@[go_sem] theorem sz_115 : sizeT Tryz.prog 115 = some 1 := by kernel_rfl
@[go_sem] theorem un_115 : Tryz.prog.underlying 115 = some (.func #[25] #[9] false) := by kernel_rfl
@[go_sem] theorem ze_115 : zeroA Tryz.prog 115 = some [.fnil] := by kernel_rfl
@[go_sem] theorem ei_115 : einfo Tryz.prog 115 = some (1, 8, 1) := by kernel_rfl
@[go_sem] theorem zv_115 : zeroV Tryz.prog 115 = some (.fnil) := by kernel_rfl
@[go_sem] theorem ag_117 : aggT Tryz.prog 117 = some false := by kernel_rfl
@[go_sem] theorem sz_117 : sizeT Tryz.prog 117 = some 1 := by kernel_rfl
@[go_sem] theorem un_117 : Tryz.prog.underlying 117 = some (.map 3 115) := by kernel_rfl
@[go_sem] theorem ze_117 : zeroA Tryz.prog 117 = some [.mnil] := by kernel_rfl
@[go_sem] theorem ei_117 : einfo Tryz.prog 117 = some (1, 8, 1) := by kernel_rfl
@[go_sem] theorem zv_117 : zeroV Tryz.prog 117 = some (.mnil) := by kernel_rfl
@[go_sem] theorem ag_122 : aggT Tryz.prog 122 = some true := by kernel_rfl
@[go_sem] theorem sz_122 : sizeT Tryz.prog 122 = some 13 := by kernel_rfl
@[go_sem] theorem un_122 : Tryz.prog.underlying 122 = some (.array 13 3) := by kernel_rfl
@[go_sem] theorem ze_122 : zeroA Tryz.prog 122 = some [.int .i64 0, .int .i64 0, .int .i64 0, .int .i64 0, .int .i64 0, .int .i64 0, .int .i64 0, .int .i64 0, .int .i64 0, .int .i64 0, .int .i64 0, .int .i64 0, .int .i64 0] := by kernel_rfl
@[go_sem] theorem ei_122 : einfo Tryz.prog 122 = some (13, 104, 13) := by kernel_rfl
@[go_sem] theorem zv_122 : zeroV Tryz.prog 122 = some (.agg [.int .i64 0, .int .i64 0, .int .i64 0, .int .i64 0, .int .i64 0, .int .i64 0, .int .i64 0, .int .i64 0, .int .i64 0, .int .i64 0, .int .i64 0, .int .i64 0, .int .i64 0]) := by kernel_rfl
@[go_sem] theorem ag_123 : aggT Tryz.prog 123 = some true := by kernel_rfl
@[go_sem] theorem sz_123 : sizeT Tryz.prog 123 = some 3 := by kernel_rfl
@[go_sem] theorem un_123 : Tryz.prog.underlying 123 = some (.array 3 3) := by kernel_rfl
@[go_sem] theorem ze_123 : zeroA Tryz.prog 123 = some [.int .i64 0, .int .i64 0, .int .i64 0] := by kernel_rfl
@[go_sem] theorem ei_123 : einfo Tryz.prog 123 = some (3, 24, 3) := by kernel_rfl
@[go_sem] theorem zv_123 : zeroV Tryz.prog 123 = some (.agg [.int .i64 0, .int .i64 0, .int .i64 0]) := by kernel_rfl
@[go_sem] theorem ag_124 : aggT Tryz.prog 124 = some true := by kernel_rfl
@[go_sem] theorem sz_124 : sizeT Tryz.prog 124 = some 10 := by kernel_rfl
@[go_sem] theorem un_124 : Tryz.prog.underlying 124 = some (.array 10 3) := by kernel_rfl
@[go_sem] theorem ze_124 : zeroA Tryz.prog 124 = some [.int .i64 0, .int .i64 0, .int .i64 0, .int .i64 0, .int .i64 0, .int .i64 0, .int .i64 0, .int .i64 0, .int .i64 0, .int .i64 0] := by kernel_rfl
@[go_sem] theorem ei_124 : einfo Tryz.prog 124 = some (10, 80, 10) := by kernel_rfl
@[go_sem] theorem zv_124 : zeroV Tryz.prog 124 = some (.agg [.int .i64 0, .int .i64 0, .int .i64 0, .int .i64 0, .int .i64 0, .int .i64 0, .int .i64 0, .int .i64 0, .int .i64 0, .int .i64 0]) := by kernel_rfl
@[go_sem] theorem ag_135 : aggT Tryz.prog 135 = some false := by kernel_rfl
@[go_sem] theorem sz_135 : sizeT Tryz.prog 135 = some 1 := by kernel_rfl
@[go_sem] theorem un_135 : Tryz.prog.underlying 135 = some (.map 3 25) := by kernel_rfl
@[go_sem] theorem ze_135 : zeroA Tryz.prog 135 = some [.mnil] := by kernel_rfl
@[go_sem] theorem ei_135 : einfo Tryz.prog 135 = some (1, 8, 1) := by kernel_rfl
@[go_sem] theorem zv_135 : zeroV Tryz.prog 135 = some (.mnil) := by kernel_rfl
@[go_sem] theorem ag_137 : aggT Tryz.prog 137 = some false := by kernel_rfl
@[go_sem] theorem sz_137 : sizeT Tryz.prog 137 = some 1 := by kernel_rfl
@[go_sem] theorem un_137 : Tryz.prog.underlying 137 = some (.map 140 25) := by kernel_rfl
@[go_sem] theorem ze_137 : zeroA Tryz.prog 137 = some [.mnil] := by kernel_rfl
@[go_sem] theorem ei_137 : einfo Tryz.prog 137 = some (1, 8, 1) := by kernel_rfl
@[go_sem] theorem zv_137 : zeroV Tryz.prog 137 = some (.mnil) := by kernel_rfl
@[go_sem] theorem ag_139 : aggT Tryz.prog 139 = some true := by kernel_rfl
@[go_sem] theorem sz_139 : sizeT Tryz.prog 139 = some 3 := by kernel_rfl
@[go_sem] theorem un_139 : Tryz.prog.underlying 139 = some (.struct #[{ name := "private", type := 5, offset := 0, embedded := false, tag := "", pkgPath := "fenestra/action", byteOffset := 0 }, { name := "inter", type := 9, offset := 1, embedded := false, tag := "", pkgPath := "fenestra/action", byteOffset := 8 }, { name := "final", type := 5, offset := 2, embedded := false, tag := "", pkgPath := "fenestra/action", byteOffset := 24 }]) := by kernel_rfl
@[go_sem] theorem ze_139 : zeroA Tryz.prog 139 = some [.int .u8 0, .str [], .int .u8 0] := by kernel_rfl
@[go_sem] theorem ei_139 : einfo Tryz.prog 139 = some (3, 32, 3) := by kernel_rfl
@[go_sem] theorem zv_139 : zeroV Tryz.prog 139 = some (.agg [.int .u8 0, .str [], .int .u8 0]) := by kernel_rfl
@[go_sem] theorem fo_139_0 : fieldOff Tryz.prog 139 0 = some 0 := by kernel_rfl
@[go_sem] theorem fo_139_1 : fieldOff Tryz.prog 139 1 = some 1 := by kernel_rfl
@[go_sem] theorem fo_139_2 : fieldOff Tryz.prog 139 2 = some 2 := by kernel_rfl
@[go_sem] theorem ag_140 : aggT Tryz.prog 140 = some true := by kernel_rfl
@[go_sem] theorem sz_140 : sizeT Tryz.prog 140 = some 3 := by kernel_rfl
@[go_sem] theorem un_140 : Tryz.prog.underlying 140 = some (.struct #[{ name := "private", type := 5, offset := 0, embedded := false, tag := "", pkgPath := "fenestra/action", byteOffset := 0 }, { name := "inter", type := 9, offset := 1, embedded := false, tag := "", pkgPath := "fenestra/action", byteOffset := 8 }, { name := "final", type := 5, offset := 2, embedded := false, tag := "", pkgPath := "fenestra/action", byteOffset := 24 }]) := by kernel_rfl
@[go_sem] theorem ze_140 : zeroA Tryz.prog 140 = some [.int .u8 0, .str [], .int .u8 0] := by kernel_rfl
@[go_sem] theorem ei_140 : einfo Tryz.prog 140 = some (3, 32, 3) := by kernel_rfl
@[go_sem] theorem zv_140 : zeroV Tryz.prog 140 = some (.agg [.int .u8 0, .str [], .int .u8 0]) := by kernel_rfl
@[go_sem] theorem fo_140_0 : fieldOff Tryz.prog 140 0 = some 0 := by kernel_rfl
@[go_sem] theorem fo_140_1 : fieldOff Tryz.prog 140 1 = some 1 := by kernel_rfl
@[go_sem] theorem fo_140_2 : fieldOff Tryz.prog 140 2 = some 2 := by kernel_rfl
@[go_sem] theorem ag_141 : aggT Tryz.prog 141 = some false := by kernel_rfl
@[go_sem] theorem sz_141 : sizeT Tryz.prog 141 = some 1 := by kernel_rfl
@[go_sem] theorem un_141 : Tryz.prog.underlying 141 = some (.func #[38] #[54] false) := by kernel_rfl
@[go_sem] theorem ze_141 : zeroA Tryz.prog 141 = some [.fnil] := by kernel_rfl
@[go_sem] theorem ei_141 : einfo Tryz.prog 141 = some (1, 8, 1) := by kernel_rfl
@[go_sem] theorem zv_141 : zeroV Tryz.prog 141 = some (.fnil) := by kernel_rfl
@[go_sem] theorem ag_142 : aggT Tryz.prog 142 = some false := by kernel_rfl
@[go_sem] theorem sz_142 : sizeT Tryz.prog 142 = some 1 := by kernel_rfl
@[go_sem] theorem un_142 : Tryz.prog.underlying 142 = some (.func #[38] #[54] false) := by kernel_rfl
@[go_sem] theorem ze_142 : zeroA Tryz.prog 142 = some [.fnil] := by kernel_rfl
@[go_sem] theorem ei_142 : einfo Tryz.prog 142 = some (1, 8, 1) := by kernel_rfl
@[go_sem] theorem zv_142 : zeroV Tryz.prog 142 = some (.fnil) := by kernel_rfl
@[go_sem] theorem ag_144 : aggT Tryz.prog 144 = some false := by kernel_rfl
@[go_sem] theorem sz_144 : sizeT Tryz.prog 144 = some 1 := by kernel_rfl
@[go_sem] theorem un_144 : Tryz.prog.underlying 144 = some (.map 140 142) := by kernel_rfl
@[go_sem] theorem ze_144 : zeroA Tryz.prog 144 = some [.mnil] := by kernel_rfl
@[go_sem] theorem ei_144 : einfo Tryz.prog 144 = some (1, 8, 1) := by kernel_rfl
@[go_sem] theorem zv_144 : zeroV Tryz.prog 144 = some (.mnil) := by kernel_rfl
@[go_sem] theorem ag_147 : aggT Tryz.prog 147 = some false := by kernel_rfl
@[go_sem] theorem sz_147 : sizeT Tryz.prog 147 = some 1 := by kernel_rfl
@[go_sem] theorem un_147 : Tryz.prog.underlying 147 = some (.func #[63] #[4] false) := by kernel_rfl
@[go_sem] theorem ze_147 : zeroA Tryz.prog 147 = some [.fnil] := by kernel_rfl
@[go_sem] theorem ei_147 : einfo Tryz.prog 147 = some (1, 8, 1) := by kernel_rfl
@[go_sem] theorem zv_147 : zeroV Tryz.prog 147 = some (.fnil) := by kernel_rfl
@[go_sem] theorem ag_151 : aggT Tryz.prog 151 = some false := by kernel_rfl
@[go_sem] theorem sz_151 : sizeT Tryz.prog 151 = some 1 := by kernel_rfl
@[go_sem] theorem un_151 : Tryz.prog.underlying 151 = some (.pointer 153) := by kernel_rfl
@[go_sem] theorem ze_151 : zeroA Tryz.prog 151 = some [.nilp] := by kernel_rfl
@[go_sem] theorem ei_151 : einfo Tryz.prog 151 = some (1, 8, 1) := by kernel_rfl
@[go_sem] theorem zv_151 : zeroV Tryz.prog 151 = some (.nilp) := by kernel_rfl
@[go_sem] theorem ag_152 : aggT Tryz.prog 152 = some true := by kernel_rfl
@[go_sem] theorem sz_152 : sizeT Tryz.prog 152 = some 9 := by kernel_rfl
@[go_sem] theorem un_152 : Tryz.prog.underlying 152 = some (.struct #[{ name := "Parse", type := 44, offset := 0, embedded := true, tag := "", pkgPath := "", byteOffset := 0 }, { name := "events", type := 45, offset := 8, embedded := false, tag := "", pkgPath := "fenestra/state", byteOffset := 104 }]) := by kernel_rfl
@[go_sem] theorem ze_152 : zeroA Tryz.prog 152 = some [.int .i64 0, .snil, .int .u8 0, .int .u8 0, .snil, .str [], .str [], .bool false, .snil] := by kernel_rfl
@[go_sem] theorem ei_152 : einfo Tryz.prog 152 = some (9, 128, 9) := by kernel_rfl
@[go_sem] theorem zv_152 : zeroV Tryz.prog 152 = some (.agg [.int .i64 0, .snil, .int .u8 0, .int .u8 0, .snil, .str [], .str [], .bool false, .snil]) := by kernel_rfl
@[go_sem] theorem fo_152_0 : fieldOff Tryz.prog 152 0 = some 0 := by kernel_rfl
@[go_sem] theorem fo_152_1 : fieldOff Tryz.prog 152 1 = some 8 := by kernel_rfl
@[go_sem] theorem ag_153 : aggT Tryz.prog 153 = some true := by kernel_rfl
@[go_sem] theorem sz_153 : sizeT Tryz.prog 153 = some 9 := by kernel_rfl
@[go_sem] theorem un_153 : Tryz.prog.underlying 153 = some (.struct #[{ name := "Parse", type := 44, offset := 0, embedded := true, tag := "", pkgPath := "", byteOffset := 0 }, { name := "events", type := 45, offset := 8, embedded := false, tag := "", pkgPath := "fenestra/state", byteOffset := 104 }]) := by kernel_rfl
@[go_sem] theorem ze_153 : zeroA Tryz.prog 153 = some [.int .i64 0, .snil, .int .u8 0, .int .u8 0, .snil, .str [], .str [], .bool false, .snil] := by kernel_rfl
@[go_sem] theorem ei_153 : einfo Tryz.prog 153 = some (9, 128, 9) := by kernel_rfl
@[go_sem] theorem zv_153 : zeroV Tryz.prog 153 = some (.agg [.int .i64 0, .snil, .int .u8 0, .int .u8 0, .snil, .str [], .str [], .bool false, .snil]) := by kernel_rfl
@[go_sem] theorem fo_153_0 : fieldOff Tryz.prog 153 0 = some 0 := by kernel_rfl
@[go_sem] theorem fo_153_1 : fieldOff Tryz.prog 153 1 = some 8 := by kernel_rfl
@[go_sem] theorem ag_159 : aggT Tryz.prog 159 = some false := by kernel_rfl
@[go_sem] theorem sz_159 : sizeT Tryz.prog 159 = some 1 := by kernel_rfl
@[go_sem] theorem un_159 : Tryz.prog.underlying 159 = some (.pointer 5) := by kernel_rfl
@[go_sem] theorem ze_159 : zeroA Tryz.prog 159 = some [.nilp] := by kernel_rfl
@[go_sem] theorem ei_159 : einfo Tryz.prog 159 = some (1, 8, 1) := by kernel_rfl
@[go_sem] theorem zv_159 : zeroV Tryz.prog 159 = some (.nilp) := by kernel_rfl
@[go_sem] theorem ag_162 : aggT Tryz.prog 162 = some false := by kernel_rfl
@[go_sem] theorem sz_162 : sizeT Tryz.prog 162 = some 1 := by kernel_rfl
@[go_sem] theorem un_162 : Tryz.prog.underlying 162 = some (.func #[163] #[164] false) := by kernel_rfl
@[go_sem] theorem ze_162 : zeroA Tryz.prog 162 = some [.fnil] := by kernel_rfl
@[go_sem] theorem ei_162 : einfo Tryz.prog 162 = some (1, 8, 1) := by kernel_rfl
@[go_sem] theorem zv_162 : zeroV Tryz.prog 162 = some (.fnil) := by kernel_rfl
@[go_sem] theorem ag_163 : aggT Tryz.prog 163 = some false := by kernel_rfl
@[go_sem] theorem sz_163 : sizeT Tryz.prog 163 = some 1 := by kernel_rfl
@[go_sem] theorem un_163 : Tryz.prog.underlying 163 = some (.pointer 167) := by kernel_rfl
@[go_sem] theorem ze_163 : zeroA Tryz.prog 163 = some [.nilp] := by kernel_rfl
@[go_sem] theorem ei_163 : einfo Tryz.prog 163 = some (1, 8, 1) := by kernel_rfl
@[go_sem] theorem zv_163 : zeroV Tryz.prog 163 = some (.nilp) := by kernel_rfl
@[go_sem] theorem ag_164 : aggT Tryz.prog 164 = some false := by kernel_rfl
@[go_sem] theorem sz_164 : sizeT Tryz.prog 164 = some 1 := by kernel_rfl
@[go_sem] theorem un_164 : Tryz.prog.underlying 164 = some (.pointer 23) := by kernel_rfl
@[go_sem] theorem ze_164 : zeroA Tryz.prog 164 = some [.nilp] := by kernel_rfl
@[go_sem] theorem ei_164 : einfo Tryz.prog 164 = some (1, 8, 1) := by kernel_rfl
@[go_sem] theorem zv_164 : zeroV Tryz.prog 164 = some (.nilp) := by kernel_rfl
@[go_sem] theorem ag_165 : aggT Tryz.prog 165 = some false := by kernel_rfl
@[go_sem] theorem sz_165 : sizeT Tryz.prog 165 = some 1 := by kernel_rfl
@[go_sem] theorem un_165 : Tryz.prog.underlying 165 = some (.func #[162] #[108] false) := by kernel_rfl
@[go_sem] theorem ze_165 : zeroA Tryz.prog 165 = some [.fnil] := by kernel_rfl
@[go_sem] theorem ei_165 : einfo Tryz.prog 165 = some (1, 8, 1) := by kernel_rfl
@[go_sem] theorem zv_165 : zeroV Tryz.prog 165 = some (.fnil) := by kernel_rfl
@[go_sem] theorem ag_166 : aggT Tryz.prog 166 = some true := by kernel_rfl
@[go_sem] theorem sz_166 : sizeT Tryz.prog 166 = some 8 := by kernel_rfl
@[go_sem] theorem un_166 : Tryz.prog.underlying 166 = some (.struct #[{ name := "Attr", type := 3, offset := 0, embedded := false, tag := "", pkgPath := "", byteOffset := 0 }, { name := "Under", type := 3, offset := 1, embedded := false, tag := "", pkgPath := "", byteOffset := 8 }, { name := "Fore", type := 23, offset := 2, embedded := false, tag := "", pkgPath := "", byteOffset := 16 }, { name := "Back", type := 23, offset := 4, embedded := false, tag := "", pkgPath := "", byteOffset := 32 }, { name := "Line", type := 23, offset := 6, embedded := false, tag := "", pkgPath := "", byteOffset := 48 }]) := by kernel_rfl
@[go_sem] theorem ze_166 : zeroA Tryz.prog 166 = some [.int .i64 0, .int .i64 0, .int .i64 0, .int .i64 0, .int .i64 0, .int .i64 0, .int .i64 0, .int .i64 0] := by kernel_rfl
@[go_sem] theorem ei_166 : einfo Tryz.prog 166 = some (8, 64, 8) := by kernel_rfl
@[go_sem] theorem zv_166 : zeroV Tryz.prog 166 = some (.agg [.int .i64 0, .int .i64 0, .int .i64 0, .int .i64 0, .int .i64 0, .int .i64 0, .int .i64 0, .int .i64 0]) := by kernel_rfl
@[go_sem] theorem eg_166 : Tryz.prog.eqGuardType Tryz.prog.depth 166 = false := by kernel_rfl
@[go_sem] theorem sh_166 : Tryz.prog.stoodInHeld 166 = false := by kernel_rfl
@[go_sem] theorem fo_166_0 : fieldOff Tryz.prog 166 0 = some 0 := by kernel_rfl
@[go_sem] theorem fo_166_1 : fieldOff Tryz.prog 166 1 = some 1 := by kernel_rfl
@[go_sem] theorem fo_166_2 : fieldOff Tryz.prog 166 2 = some 2 := by kernel_rfl
@[go_sem] theorem fo_166_3 : fieldOff Tryz.prog 166 3 = some 4 := by kernel_rfl
@[go_sem] theorem fo_166_4 : fieldOff Tryz.prog 166 4 = some 6 := by kernel_rfl
@[go_sem] theorem ag_167 : aggT Tryz.prog 167 = some true := by kernel_rfl
@[go_sem] theorem sz_167 : sizeT Tryz.prog 167 = some 8 := by kernel_rfl
@[go_sem] theorem un_167 : Tryz.prog.underlying 167 = some (.struct #[{ name := "Attr", type := 3, offset := 0, embedded := false, tag := "", pkgPath := "", byteOffset := 0 }, { name := "Under", type := 3, offset := 1, embedded := false, tag := "", pkgPath := "", byteOffset := 8 }, { name := "Fore", type := 23, offset := 2, embedded := false, tag := "", pkgPath := "", byteOffset := 16 }, { name := "Back", type := 23, offset := 4, embedded := false, tag := "", pkgPath := "", byteOffset := 32 }, { name := "Line", type := 23, offset := 6, embedded := false, tag := "", pkgPath := "", byteOffset := 48 }]) := by kernel_rfl
@[go_sem] theorem ze_167 : zeroA Tryz.prog 167 = some [.int .i64 0, .int .i64 0, .int .i64 0, .int .i64 0, .int .i64 0, .int .i64 0, .int .i64 0, .int .i64 0] := by kernel_rfl
@[go_sem] theorem ei_167 : einfo Tryz.prog 167 = some (8, 64, 8) := by kernel_rfl
@[go_sem] theorem zv_167 : zeroV Tryz.prog 167 = some (.agg [.int .i64 0, .int .i64 0, .int .i64 0, .int .i64 0, .int .i64 0, .int .i64 0, .int .i64 0, .int .i64 0]) := by kernel_rfl
@[go_sem] theorem eg_167 : Tryz.prog.eqGuardType Tryz.prog.depth 167 = false := by kernel_rfl
@[go_sem] theorem sh_167 : Tryz.prog.stoodInHeld 167 = false := by kernel_rfl
@[go_sem] theorem fo_167_0 : fieldOff Tryz.prog 167 0 = some 0 := by kernel_rfl
@[go_sem] theorem fo_167_1 : fieldOff Tryz.prog 167 1 = some 1 := by kernel_rfl
@[go_sem] theorem fo_167_2 : fieldOff Tryz.prog 167 2 = some 2 := by kernel_rfl
@[go_sem] theorem fo_167_3 : fieldOff Tryz.prog 167 3 = some 4 := by kernel_rfl
@[go_sem] theorem fo_167_4 : fieldOff Tryz.prog 167 4 = some 6 := by kernel_rfl
@[go_sem] theorem ag_169 : aggT Tryz.prog 169 = some true := by kernel_rfl
@[go_sem] theorem sz_169 : sizeT Tryz.prog 169 = some 0 := by kernel_rfl
@[go_sem] theorem un_169 : Tryz.prog.underlying 169 = some (.struct #[]) := by kernel_rfl
@[go_sem] theorem ze_169 : zeroA Tryz.prog 169 = some [] := by kernel_rfl
@[go_sem] theorem ei_169 : einfo Tryz.prog 169 = some (0, 0, 0) := by kernel_rfl
@[go_sem] theorem zv_169 : zeroV Tryz.prog 169 = some (.agg []) := by kernel_rfl
@[go_sem] theorem eg_169 : Tryz.prog.eqGuardType Tryz.prog.depth 169 = false := by kernel_rfl
@[go_sem] theorem sh_169 : Tryz.prog.stoodInHeld 169 = false := by kernel_rfl
@[go_sem] theorem ag_170 : aggT Tryz.prog 170 = some true := by kernel_rfl
@[go_sem] theorem sz_170 : sizeT Tryz.prog 170 = some 0 := by kernel_rfl
@[go_sem] theorem un_170 : Tryz.prog.underlying 170 = some (.struct #[]) := by kernel_rfl
@[go_sem] theorem ze_170 : zeroA Tryz.prog 170 = some [] := by kernel_rfl
@[go_sem] theorem ei_170 : einfo Tryz.prog 170 = some (0, 0, 0) := by kernel_rfl
@[go_sem] theorem zv_170 : zeroV Tryz.prog 170 = some (.agg []) := by kernel_rfl
@[go_sem] theorem eg_170 : Tryz.prog.eqGuardType Tryz.prog.depth 170 = false := by kernel_rfl
@[go_sem] theorem sh_170 : Tryz.prog.stoodInHeld 170 = false := by kernel_rfl
@[go_sem] theorem ag_191 : aggT Tryz.prog 191 = some false := by kernel_rfl
@[go_sem] theorem sz_191 : sizeT Tryz.prog 191 = some 1 := by kernel_rfl
@[go_sem] theorem un_191 : Tryz.prog.underlying 191 = some (.map 5 25) := by kernel_rfl
@[go_sem] theorem ze_191 : zeroA Tryz.prog 191 = some [.mnil] := by kernel_rfl
@[go_sem] theorem ei_191 : einfo Tryz.prog 191 = some (1, 8, 1) := by kernel_rfl
@[go_sem] theorem zv_191 : zeroV Tryz.prog 191 = some (.mnil) := by kernel_rfl
@[go_sem] theorem ag_192 : aggT Tryz.prog 192 = some true := by kernel_rfl
@[go_sem] theorem sz_192 : sizeT Tryz.prog 192 = some 4 := by kernel_rfl
@[go_sem] theorem un_192 : Tryz.prog.underlying 192 = some (.array 4 9) := by kernel_rfl
@[go_sem] theorem ze_192 : zeroA Tryz.prog 192 = some [.str [], .str [], .str [], .str []] := by kernel_rfl
@[go_sem] theorem ei_192 : einfo Tryz.prog 192 = some (4, 64, 4) := by kernel_rfl
@[go_sem] theorem zv_192 : zeroV Tryz.prog 192 = some (.agg [.str [], .str [], .str [], .str []]) := by kernel_rfl
@[go_sem] theorem ag_196 : aggT Tryz.prog 196 = some false := by kernel_rfl
@[go_sem] theorem sz_196 : sizeT Tryz.prog 196 = some 1 := by kernel_rfl
@[go_sem] theorem un_196 : Tryz.prog.underlying 196 = some (.func #[9] #[25] false) := by kernel_rfl
@[go_sem] theorem ze_196 : zeroA Tryz.prog 196 = some [.fnil] := by kernel_rfl
@[go_sem] theorem ei_196 : einfo Tryz.prog 196 = some (1, 8, 1) := by kernel_rfl
@[go_sem] theorem zv_196 : zeroV Tryz.prog 196 = some (.fnil) := by kernel_rfl
@[go_sem] theorem ag_198 : aggT Tryz.prog 198 = some false := by kernel_rfl
@[go_sem] theorem sz_198 : sizeT Tryz.prog 198 = some 1 := by kernel_rfl
@[go_sem] theorem un_198 : Tryz.prog.underlying 198 = some (.map 9 196) := by kernel_rfl
@[go_sem] theorem ze_198 : zeroA Tryz.prog 198 = some [.mnil] := by kernel_rfl
@[go_sem] theorem ei_198 : einfo Tryz.prog 198 = some (1, 8, 1) := by kernel_rfl
@[go_sem] theorem zv_198 : zeroV Tryz.prog 198 = some (.mnil) := by kernel_rfl
@[go_sem] theorem ag_200 : aggT Tryz.prog 200 = some false := by kernel_rfl
@[go_sem] theorem sz_200 : sizeT Tryz.prog 200 = some 1 := by kernel_rfl
@[go_sem] theorem un_200 : Tryz.prog.underlying 200 = some (.func #[5, 9, 5, 142] #[] false) := by kernel_rfl
@[go_sem] theorem ze_200 : zeroA Tryz.prog 200 = some [.fnil] := by kernel_rfl
@[go_sem] theorem ei_200 : einfo Tryz.prog 200 = some (1, 8, 1) := by kernel_rfl
@[go_sem] theorem zv_200 : zeroV Tryz.prog 200 = some (.fnil) := by kernel_rfl
@[go_sem] theorem ag_201 : aggT Tryz.prog 201 = some false := by kernel_rfl
@[go_sem] theorem sz_201 : sizeT Tryz.prog 201 = some 1 := by kernel_rfl
@[go_sem] theorem un_201 : Tryz.prog.underlying 201 = some (.func #[38] #[25] false) := by kernel_rfl
@[go_sem] theorem ze_201 : zeroA Tryz.prog 201 = some [.fnil] := by kernel_rfl
@[go_sem] theorem ei_201 : einfo Tryz.prog 201 = some (1, 8, 1) := by kernel_rfl
@[go_sem] theorem zv_201 : zeroV Tryz.prog 201 = some (.fnil) := by kernel_rfl
@[go_sem] theorem ag_202 : aggT Tryz.prog 202 = some false := by kernel_rfl
@[go_sem] theorem sz_202 : sizeT Tryz.prog 202 = some 1 := by kernel_rfl
@[go_sem] theorem un_202 : Tryz.prog.underlying 202 = some (.func #[201] #[142] false) := by kernel_rfl
@[go_sem] theorem ze_202 : zeroA Tryz.prog 202 = some [.fnil] := by kernel_rfl
@[go_sem] theorem ei_202 : einfo Tryz.prog 202 = some (1, 8, 1) := by kernel_rfl
@[go_sem] theorem zv_202 : zeroV Tryz.prog 202 = some (.fnil) := by kernel_rfl
@[go_sem] theorem ag_203 : aggT Tryz.prog 203 = some false := by kernel_rfl
@[go_sem] theorem sz_203 : sizeT Tryz.prog 203 = some 1 := by kernel_rfl
@[go_sem] theorem un_203 : Tryz.prog.underlying 203 = some (.func #[3, 3] #[142] false) := by kernel_rfl
@[go_sem] theorem ze_203 : zeroA Tryz.prog 203 = some [.fnil] := by kernel_rfl
@[go_sem] theorem ei_203 : einfo Tryz.prog 203 = some (1, 8, 1) := by kernel_rfl
@[go_sem] theorem zv_203 : zeroV Tryz.prog 203 = some (.fnil) := by kernel_rfl
@[go_sem] theorem ag_204 : aggT Tryz.prog 204 = some false := by kernel_rfl
@[go_sem] theorem sz_204 : sizeT Tryz.prog 204 = some 1 := by kernel_rfl
@[go_sem] theorem un_204 : Tryz.prog.underlying 204 = some (.map 5 3) := by kernel_rfl
@[go_sem] theorem ze_204 : zeroA Tryz.prog 204 = some [.mnil] := by kernel_rfl
@[go_sem] theorem ei_204 : einfo Tryz.prog 204 = some (1, 8, 1) := by kernel_rfl
@[go_sem] theorem zv_204 : zeroV Tryz.prog 204 = some (.mnil) := by kernel_rfl
@[go_sem] theorem ag_206 : aggT Tryz.prog 206 = some true := by kernel_rfl
@[go_sem] theorem sz_206 : sizeT Tryz.prog 206 = some 2 := by kernel_rfl
@[go_sem] theorem un_206 : Tryz.prog.underlying 206 = some (.array 2 5) := by kernel_rfl
@[go_sem] theorem ze_206 : zeroA Tryz.prog 206 = some [.int .u8 0, .int .u8 0] := by kernel_rfl
@[go_sem] theorem ei_206 : einfo Tryz.prog 206 = some (2, 2, 2) := by kernel_rfl
@[go_sem] theorem zv_206 : zeroV Tryz.prog 206 = some (.agg [.int .u8 0, .int .u8 0]) := by kernel_rfl
@[go_sem] theorem ag_210 : aggT Tryz.prog 210 = some true := by kernel_rfl
@[go_sem] theorem sz_210 : sizeT Tryz.prog 210 = some 15 := by kernel_rfl
@[go_sem] theorem un_210 : Tryz.prog.underlying 210 = some (.array 15 3) := by kernel_rfl
@[go_sem] theorem ze_210 : zeroA Tryz.prog 210 = some [.int .i64 0, .int .i64 0, .int .i64 0, .int .i64 0, .int .i64 0, .int .i64 0, .int .i64 0, .int .i64 0, .int .i64 0, .int .i64 0, .int .i64 0, .int .i64 0, .int .i64 0, .int .i64 0, .int .i64 0] := by kernel_rfl
@[go_sem] theorem ei_210 : einfo Tryz.prog 210 = some (15, 120, 15) := by kernel_rfl
@[go_sem] theorem zv_210 : zeroV Tryz.prog 210 = some (.agg [.int .i64 0, .int .i64 0, .int .i64 0, .int .i64 0, .int .i64 0, .int .i64 0, .int .i64 0, .int .i64 0, .int .i64 0, .int .i64 0, .int .i64 0, .int .i64 0, .int .i64 0, .int .i64 0, .int .i64 0]) := by kernel_rfl
@[go_sem] theorem ag_213 : aggT Tryz.prog 213 = some false := by kernel_rfl
@[go_sem] theorem sz_213 : sizeT Tryz.prog 213 = some 1 := by kernel_rfl
@[go_sem] theorem un_213 : Tryz.prog.underlying 213 = some (.func #[3] #[] false) := by kernel_rfl
@[go_sem] theorem ze_213 : zeroA Tryz.prog 213 = some [.fnil] := by kernel_rfl
@[go_sem] theorem ei_213 : einfo Tryz.prog 213 = some (1, 8, 1) := by kernel_rfl
@[go_sem] theorem zv_213 : zeroV Tryz.prog 213 = some (.fnil) := by kernel_rfl
@[go_sem] theorem ag_215 : aggT Tryz.prog 215 = some false := by kernel_rfl
@[go_sem] theorem sz_215 : sizeT Tryz.prog 215 = some 1 := by kernel_rfl
@[go_sem] theorem un_215 : Tryz.prog.underlying 215 = some (.func #[151, 5] #[] false) := by kernel_rfl
@[go_sem] theorem ze_215 : zeroA Tryz.prog 215 = some [.fnil] := by kernel_rfl
@[go_sem] theorem ei_215 : einfo Tryz.prog 215 = some (1, 8, 1) := by kernel_rfl
@[go_sem] theorem zv_215 : zeroV Tryz.prog 215 = some (.fnil) := by kernel_rfl
@[go_sem] theorem ag_216 : aggT Tryz.prog 216 = some true := by kernel_rfl
@[go_sem] theorem sz_216 : sizeT Tryz.prog 216 = some 15 := by kernel_rfl
@[go_sem] theorem un_216 : Tryz.prog.underlying 216 = some (.array 15 215) := by kernel_rfl
@[go_sem] theorem ze_216 : zeroA Tryz.prog 216 = some [.fnil, .fnil, .fnil, .fnil, .fnil, .fnil, .fnil, .fnil, .fnil, .fnil, .fnil, .fnil, .fnil, .fnil, .fnil] := by kernel_rfl
@[go_sem] theorem ei_216 : einfo Tryz.prog 216 = some (15, 120, 15) := by kernel_rfl
@[go_sem] theorem zv_216 : zeroV Tryz.prog 216 = some (.agg [.fnil, .fnil, .fnil, .fnil, .fnil, .fnil, .fnil, .fnil, .fnil, .fnil, .fnil, .fnil, .fnil, .fnil, .fnil]) := by kernel_rfl
@[go_sem] theorem ag_220 : aggT Tryz.prog 220 = some false := by kernel_rfl
@[go_sem] theorem sz_220 : sizeT Tryz.prog 220 = some 1 := by kernel_rfl
@[go_sem] theorem un_220 : Tryz.prog.underlying 220 = some (.func #[63, 63] #[4] false) := by kernel_rfl
@[go_sem] theorem ze_220 : zeroA Tryz.prog 220 = some [.fnil] := by kernel_rfl
@[go_sem] theorem ei_220 : einfo Tryz.prog 220 = some (1, 8, 1) := by kernel_rfl
@[go_sem] theorem zv_220 : zeroV Tryz.prog 220 = some (.fnil) := by kernel_rfl
@[go_sem] theorem ag_221 : aggT Tryz.prog 221 = some false := by kernel_rfl
@[go_sem] theorem sz_221 : sizeT Tryz.prog 221 = some 1 := by kernel_rfl
@[go_sem] theorem un_221 : Tryz.prog.underlying 221 = some (.unsafePointer) := by kernel_rfl
@[go_sem] theorem ze_221 : zeroA Tryz.prog 221 = some [.nilp] := by kernel_rfl
@[go_sem] theorem ei_221 : einfo Tryz.prog 221 = some (1, 8, 1) := by kernel_rfl
@[go_sem] theorem zv_221 : zeroV Tryz.prog 221 = some (.nilp) := by kernel_rfl
@[go_sem] theorem ag_223 : aggT Tryz.prog 223 = some true := by kernel_rfl
@[go_sem] theorem sz_223 : sizeT Tryz.prog 223 = some 8 := by kernel_rfl
@[go_sem] theorem un_223 : Tryz.prog.underlying 223 = some (.array 8 3) := by kernel_rfl
@[go_sem] theorem ze_223 : zeroA Tryz.prog 223 = some [.int .i64 0, .int .i64 0, .int .i64 0, .int .i64 0, .int .i64 0, .int .i64 0, .int .i64 0, .int .i64 0] := by kernel_rfl
@[go_sem] theorem ei_223 : einfo Tryz.prog 223 = some (8, 64, 8) := by kernel_rfl
@[go_sem] theorem zv_223 : zeroV Tryz.prog 223 = some (.agg [.int .i64 0, .int .i64 0, .int .i64 0, .int .i64 0, .int .i64 0, .int .i64 0, .int .i64 0, .int .i64 0]) := by kernel_rfl
@[go_sem] theorem ag_230 : aggT Tryz.prog 230 = some false := by kernel_rfl
@[go_sem] theorem sz_230 : sizeT Tryz.prog 230 = some 1 := by kernel_rfl
@[go_sem] theorem un_230 : Tryz.prog.underlying 230 = some (.slice 52) := by kernel_rfl
@[go_sem] theorem ze_230 : zeroA Tryz.prog 230 = some [.snil] := by kernel_rfl
@[go_sem] theorem ei_230 : einfo Tryz.prog 230 = some (1, 24, 1) := by kernel_rfl
@[go_sem] theorem zv_230 : zeroV Tryz.prog 230 = some (.snil) := by kernel_rfl
@[go_sem] theorem ag_234 : aggT Tryz.prog 234 = some false := by kernel_rfl
@[go_sem] theorem sz_234 : sizeT Tryz.prog 234 = some 1 := by kernel_rfl
@[go_sem] theorem un_234 : Tryz.prog.underlying 234 = some (.func #[3] #[3, 3] false) := by kernel_rfl
@[go_sem] theorem ze_234 : zeroA Tryz.prog 234 = some [.fnil] := by kernel_rfl
@[go_sem] theorem ei_234 : einfo Tryz.prog 234 = some (1, 8, 1) := by kernel_rfl
@[go_sem] theorem zv_234 : zeroV Tryz.prog 234 = some (.fnil) := by kernel_rfl
@[go_sem] theorem ag_248 : aggT Tryz.prog 248 = some false := by kernel_rfl
@[go_sem] theorem sz_248 : sizeT Tryz.prog 248 = some 1 := by kernel_rfl
@[go_sem] theorem un_248 : Tryz.prog.underlying 248 = some (.func #[69] #[] false) := by kernel_rfl
@[go_sem] theorem ze_248 : zeroA Tryz.prog 248 = some [.fnil] := by kernel_rfl
@[go_sem] theorem ei_248 : einfo Tryz.prog 248 = some (1, 8, 1) := by kernel_rfl
@[go_sem] theorem zv_248 : zeroV Tryz.prog 248 = some (.fnil) := by kernel_rfl
@[go_sem] theorem ag_249 : aggT Tryz.prog 249 = some false := by kernel_rfl
@[go_sem] theorem sz_249 : sizeT Tryz.prog 249 = some 1 := by kernel_rfl
@[go_sem] theorem un_249 : Tryz.prog.underlying 249 = some (.func #[69] #[] false) := by kernel_rfl
@[go_sem] theorem ze_249 : zeroA Tryz.prog 249 = some [.fnil] := by kernel_rfl
@[go_sem] theorem ei_249 : einfo Tryz.prog 249 = some (1, 8, 1) := by kernel_rfl
@[go_sem] theorem zv_249 : zeroV Tryz.prog 249 = some (.fnil) := by kernel_rfl
@[go_sem] theorem ag_255 : aggT Tryz.prog 255 = some false := by kernel_rfl
@[go_sem] theorem sz_255 : sizeT Tryz.prog 255 = some 1 := by kernel_rfl
@[go_sem] theorem un_255 : Tryz.prog.underlying 255 = some (.int .u64) := by kernel_rfl
@[go_sem] theorem ze_255 : zeroA Tryz.prog 255 = some [.int .u64 0] := by kernel_rfl
@[go_sem] theorem ei_255 : einfo Tryz.prog 255 = some (1, 8, 1) := by kernel_rfl
@[go_sem] theorem zv_255 : zeroV Tryz.prog 255 = some (.int .u64 0) := by kernel_rfl
@[go_sem] theorem ag_256 : aggT Tryz.prog 256 = some false := by kernel_rfl
@[go_sem] theorem sz_256 : sizeT Tryz.prog 256 = some 1 := by kernel_rfl
@[go_sem] theorem un_256 : Tryz.prog.underlying 256 = some (.func #[74] #[] false) := by kernel_rfl
@[go_sem] theorem ze_256 : zeroA Tryz.prog 256 = some [.fnil] := by kernel_rfl
@[go_sem] theorem ei_256 : einfo Tryz.prog 256 = some (1, 8, 1) := by kernel_rfl
@[go_sem] theorem zv_256 : zeroV Tryz.prog 256 = some (.fnil) := by kernel_rfl
@[go_sem] theorem ag_257 : aggT Tryz.prog 257 = some false := by kernel_rfl
@[go_sem] theorem sz_257 : sizeT Tryz.prog 257 = some 1 := by kernel_rfl
@[go_sem] theorem un_257 : Tryz.prog.underlying 257 = some (.func #[74] #[] false) := by kernel_rfl
@[go_sem] theorem ze_257 : zeroA Tryz.prog 257 = some [.fnil] := by kernel_rfl
@[go_sem] theorem ei_257 : einfo Tryz.prog 257 = some (1, 8, 1) := by kernel_rfl
@[go_sem] theorem zv_257 : zeroV Tryz.prog 257 = some (.fnil) := by kernel_rfl
@[go_sem] theorem ag_265 : aggT Tryz.prog 265 = some true := by kernel_rfl
@[go_sem] theorem sz_265 : sizeT Tryz.prog 265 = some 256 := by kernel_rfl
@[go_sem] theorem un_265 : Tryz.prog.underlying 265 = some (.array 256 4) := by kernel_rfl
@[go_sem] theorem ag_266 : aggT Tryz.prog 266 = some true := by kernel_rfl
@[go_sem] theorem sz_266 : sizeT Tryz.prog 266 = some 256 := by kernel_rfl
@[go_sem] theorem un_266 : Tryz.prog.underlying 266 = some (.array 256 4) := by kernel_rfl
@[go_sem] theorem ag_270 : aggT Tryz.prog 270 = some false := by kernel_rfl
@[go_sem] theorem sz_270 : sizeT Tryz.prog 270 = some 1 := by kernel_rfl
@[go_sem] theorem un_270 : Tryz.prog.underlying 270 = some (.pointer 266) := by kernel_rfl
@[go_sem] theorem ze_270 : zeroA Tryz.prog 270 = some [.nilp] := by kernel_rfl
@[go_sem] theorem ei_270 : einfo Tryz.prog 270 = some (1, 8, 1) := by kernel_rfl
@[go_sem] theorem zv_270 : zeroV Tryz.prog 270 = some (.nilp) := by kernel_rfl
@[go_sem] theorem ag_273 : aggT Tryz.prog 273 = some false := by kernel_rfl
@[go_sem] theorem sz_273 : sizeT Tryz.prog 273 = some 1 := by kernel_rfl
@[go_sem] theorem un_273 : Tryz.prog.underlying 273 = some (.slice 9) := by kernel_rfl
@[go_sem] theorem ze_273 : zeroA Tryz.prog 273 = some [.snil] := by kernel_rfl
@[go_sem] theorem ei_273 : einfo Tryz.prog 273 = some (1, 24, 1) := by kernel_rfl
@[go_sem] theorem zv_273 : zeroV Tryz.prog 273 = some (.snil) := by kernel_rfl
@[go_sem] theorem ag_281 : aggT Tryz.prog 281 = some true := by kernel_rfl
@[go_sem] theorem sz_281 : sizeT Tryz.prog 281 = some 24 := by kernel_rfl
@[go_sem] theorem un_281 : Tryz.prog.underlying 281 = some (.array 24 5) := by kernel_rfl
@[go_sem] theorem ze_281 : zeroA Tryz.prog 281 = some [.int .u8 0, .int .u8 0, .int .u8 0, .int .u8 0, .int .u8 0, .int .u8 0, .int .u8 0, .int .u8 0, .int .u8 0, .int .u8 0, .int .u8 0, .int .u8 0, .int .u8 0, .int .u8 0, .int .u8 0, .int .u8 0, .int .u8 0, .int .u8 0, .int .u8 0, .int .u8 0, .int .u8 0, .int .u8 0, .int .u8 0, .int .u8 0] := by kernel_rfl
@[go_sem] theorem ei_281 : einfo Tryz.prog 281 = some (24, 24, 24) := by kernel_rfl
@[go_sem] theorem zv_281 : zeroV Tryz.prog 281 = some (.agg [.int .u8 0, .int .u8 0, .int .u8 0, .int .u8 0, .int .u8 0, .int .u8 0, .int .u8 0, .int .u8 0, .int .u8 0, .int .u8 0, .int .u8 0, .int .u8 0, .int .u8 0, .int .u8 0, .int .u8 0, .int .u8 0, .int .u8 0, .int .u8 0, .int .u8 0, .int .u8 0, .int .u8 0, .int .u8 0, .int .u8 0, .int .u8 0]) := by kernel_rfl
@[go_sem] theorem ag_285 : aggT Tryz.prog 285 = some true := by kernel_rfl
@[go_sem] theorem sz_285 : sizeT Tryz.prog 285 = some 16 := by kernel_rfl
@[go_sem] theorem un_285 : Tryz.prog.underlying 285 = some (.array 16 3) := by kernel_rfl
@[go_sem] theorem ze_285 : zeroA Tryz.prog 285 = some [.int .i64 0, .int .i64 0, .int .i64 0, .int .i64 0, .int .i64 0, .int .i64 0, .int .i64 0, .int .i64 0, .int .i64 0, .int .i64 0, .int .i64 0, .int .i64 0, .int .i64 0, .int .i64 0, .int .i64 0, .int .i64 0] := by kernel_rfl
@[go_sem] theorem ei_285 : einfo Tryz.prog 285 = some (16, 128, 16) := by kernel_rfl
@[go_sem] theorem zv_285 : zeroV Tryz.prog 285 = some (.agg [.int .i64 0, .int .i64 0, .int .i64 0, .int .i64 0, .int .i64 0, .int .i64 0, .int .i64 0, .int .i64 0, .int .i64 0, .int .i64 0, .int .i64 0, .int .i64 0, .int .i64 0, .int .i64 0, .int .i64 0, .int .i64 0]) := by kernel_rfl
@[go_sem] theorem ag_286 : aggT Tryz.prog 286 = some false := by kernel_rfl
@[go_sem] theorem sz_286 : sizeT Tryz.prog 286 = some 1 := by kernel_rfl
@[go_sem] theorem un_286 : Tryz.prog.underlying 286 = some (.func #[3] #[5] false) := by kernel_rfl
@[go_sem] theorem ze_286 : zeroA Tryz.prog 286 = some [.fnil] := by kernel_rfl
@[go_sem] theorem ei_286 : einfo Tryz.prog 286 = some (1, 8, 1) := by kernel_rfl
@[go_sem] theorem zv_286 : zeroV Tryz.prog 286 = some (.fnil) := by kernel_rfl
@[go_sem] theorem ag_299 : aggT Tryz.prog 299 = some false := by kernel_rfl
@[go_sem] theorem sz_299 : sizeT Tryz.prog 299 = some 1 := by kernel_rfl
@[go_sem] theorem un_299 : Tryz.prog.underlying 299 = some (.int .i64) := by kernel_rfl
@[go_sem] theorem ze_299 : zeroA Tryz.prog 299 = some [.int .i64 0] := by kernel_rfl
@[go_sem] theorem ei_299 : einfo Tryz.prog 299 = some (1, 8, 1) := by kernel_rfl
@[go_sem] theorem zv_299 : zeroV Tryz.prog 299 = some (.int .i64 0) := by kernel_rfl
@[go_sem] theorem ag_302 : aggT Tryz.prog 302 = some false := by kernel_rfl
@[go_sem] theorem sz_302 : sizeT Tryz.prog 302 = some 1 := by kernel_rfl
@[go_sem] theorem un_302 : Tryz.prog.underlying 302 = some (.pointer 321) := by kernel_rfl
@[go_sem] theorem ze_302 : zeroA Tryz.prog 302 = some [.nilp] := by kernel_rfl
@[go_sem] theorem ei_302 : einfo Tryz.prog 302 = some (1, 8, 1) := by kernel_rfl
@[go_sem] theorem zv_302 : zeroV Tryz.prog 302 = some (.nilp) := by kernel_rfl
@[go_sem] theorem ag_314 : aggT Tryz.prog 314 = some true := by kernel_rfl
@[go_sem] theorem sz_314 : sizeT Tryz.prog 314 = some 20 := by kernel_rfl
@[go_sem] theorem un_314 : Tryz.prog.underlying 314 = some (.array 20 255) := by kernel_rfl
@[go_sem] theorem ze_314 : zeroA Tryz.prog 314 = some [.int .u64 0, .int .u64 0, .int .u64 0, .int .u64 0, .int .u64 0, .int .u64 0, .int .u64 0, .int .u64 0, .int .u64 0, .int .u64 0, .int .u64 0, .int .u64 0, .int .u64 0, .int .u64 0, .int .u64 0, .int .u64 0, .int .u64 0, .int .u64 0, .int .u64 0, .int .u64 0] := by kernel_rfl
@[go_sem] theorem ei_314 : einfo Tryz.prog 314 = some (20, 160, 20) := by kernel_rfl
@[go_sem] theorem zv_314 : zeroV Tryz.prog 314 = some (.agg [.int .u64 0, .int .u64 0, .int .u64 0, .int .u64 0, .int .u64 0, .int .u64 0, .int .u64 0, .int .u64 0, .int .u64 0, .int .u64 0, .int .u64 0, .int .u64 0, .int .u64 0, .int .u64 0, .int .u64 0, .int .u64 0, .int .u64 0, .int .u64 0, .int .u64 0, .int .u64 0]) := by kernel_rfl
@[go_sem] theorem ag_315 : aggT Tryz.prog 315 = some true := by kernel_rfl
@[go_sem] theorem sz_315 : sizeT Tryz.prog 315 = some 65 := by kernel_rfl
@[go_sem] theorem un_315 : Tryz.prog.underlying 315 = some (.array 65 5) := by kernel_rfl
@[go_sem] theorem ag_320 : aggT Tryz.prog 320 = some true := by kernel_rfl
@[go_sem] theorem sz_320 : sizeT Tryz.prog 320 = some 3 := by kernel_rfl
@[go_sem] theorem un_320 : Tryz.prog.underlying 320 = some (.struct #[{ name := "Func", type := 9, offset := 0, embedded := false, tag := "", pkgPath := "", byteOffset := 0 }, { name := "Num", type := 9, offset := 1, embedded := false, tag := "", pkgPath := "", byteOffset := 16 }, { name := "Err", type := 95, offset := 2, embedded := false, tag := "", pkgPath := "", byteOffset := 32 }]) := by kernel_rfl
@[go_sem] theorem ze_320 : zeroA Tryz.prog 320 = some [.str [], .str [], .inil] := by kernel_rfl
@[go_sem] theorem ei_320 : einfo Tryz.prog 320 = some (3, 48, 3) := by kernel_rfl
@[go_sem] theorem zv_320 : zeroV Tryz.prog 320 = some (.agg [.str [], .str [], .inil]) := by kernel_rfl
@[go_sem] theorem fo_320_0 : fieldOff Tryz.prog 320 0 = some 0 := by kernel_rfl
@[go_sem] theorem fo_320_1 : fieldOff Tryz.prog 320 1 = some 1 := by kernel_rfl
@[go_sem] theorem fo_320_2 : fieldOff Tryz.prog 320 2 = some 2 := by kernel_rfl
@[go_sem] theorem ag_321 : aggT Tryz.prog 321 = some true := by kernel_rfl
@[go_sem] theorem sz_321 : sizeT Tryz.prog 321 = some 3 := by kernel_rfl
@[go_sem] theorem un_321 : Tryz.prog.underlying 321 = some (.struct #[{ name := "Func", type := 9, offset := 0, embedded := false, tag := "", pkgPath := "", byteOffset := 0 }, { name := "Num", type := 9, offset := 1, embedded := false, tag := "", pkgPath := "", byteOffset := 16 }, { name := "Err", type := 95, offset := 2, embedded := false, tag := "", pkgPath := "", byteOffset := 32 }]) := by kernel_rfl
@[go_sem] theorem ze_321 : zeroA Tryz.prog 321 = some [.str [], .str [], .inil] := by kernel_rfl
@[go_sem] theorem ei_321 : einfo Tryz.prog 321 = some (3, 48, 3) := by kernel_rfl
@[go_sem] theorem zv_321 : zeroV Tryz.prog 321 = some (.agg [.str [], .str [], .inil]) := by kernel_rfl
@[go_sem] theorem fo_321_0 : fieldOff Tryz.prog 321 0 = some 0 := by kernel_rfl
@[go_sem] theorem fo_321_1 : fieldOff Tryz.prog 321 1 = some 1 := by kernel_rfl
@[go_sem] theorem fo_321_2 : fieldOff Tryz.prog 321 2 = some 2 := by kernel_rfl
@[go_sem] theorem ag_326 : aggT Tryz.prog 326 = some false := by kernel_rfl
@[go_sem] theorem sz_326 : sizeT Tryz.prog 326 = some 1 := by kernel_rfl
@[go_sem] theorem un_326 : Tryz.prog.underlying 326 = some (.func #[61] #[38, 32] false) := by kernel_rfl
@[go_sem] theorem ze_326 : zeroA Tryz.prog 326 = some [.fnil] := by kernel_rfl
@[go_sem] theorem ei_326 : einfo Tryz.prog 326 = some (1, 8, 1) := by kernel_rfl
@[go_sem] theorem zv_326 : zeroV Tryz.prog 326 = some (.fnil) := by kernel_rfl
@[go_sem] theorem ag_340 : aggT Tryz.prog 340 = some true := by kernel_rfl
@[go_sem] theorem sz_340 : sizeT Tryz.prog 340 = some 64 := by kernel_rfl
@[go_sem] theorem un_340 : Tryz.prog.underlying 340 = some (.array 64 5) := by kernel_rfl
@[go_sem] theorem ze_340 : zeroA Tryz.prog 340 = some [.int .u8 0, .int .u8 0, .int .u8 0, .int .u8 0, .int .u8 0, .int .u8 0, .int .u8 0, .int .u8 0, .int .u8 0, .int .u8 0, .int .u8 0, .int .u8 0, .int .u8 0, .int .u8 0, .int .u8 0, .int .u8 0, .int .u8 0, .int .u8 0, .int .u8 0, .int .u8 0, .int .u8 0, .int .u8 0, .int .u8 0, .int .u8 0, .int .u8 0, .int .u8 0, .int .u8 0, .int .u8 0, .int .u8 0, .int .u8 0, .int .u8 0, .int .u8 0, .int .u8 0, .int .u8 0, .int .u8 0, .int .u8 0, .int .u8 0, .int .u8 0, .int .u8 0, .int .u8 0, .int .u8 0, .int .u8 0, .int .u8 0, .int .u8 0, .int .u8 0, .int .u8 0, .int .u8 0, .int .u8 0, .int .u8 0, .int .u8 0, .int .u8 0, .int .u8 0, .int .u8 0, .int .u8 0, .int .u8 0, .int .u8 0, .int .u8 0, .int .u8 0, .int .u8 0, .int .u8 0, .int .u8 0, .int .u8 0, .int .u8 0, .int .u8 0] := by kernel_rfl
@[go_sem] theorem ei_340 : einfo Tryz.prog 340 = some (64, 64, 64) := by kernel_rfl
@[go_sem] theorem zv_340 : zeroV Tryz.prog 340 = some (.agg [.int .u8 0, .int .u8 0, .int .u8 0, .int .u8 0, .int .u8 0, .int .u8 0, .int .u8 0, .int .u8 0, .int .u8 0, .int .u8 0, .int .u8 0, .int .u8 0, .int .u8 0, .int .u8 0, .int .u8 0, .int .u8 0, .int .u8 0, .int .u8 0, .int .u8 0, .int .u8 0, .int .u8 0, .int .u8 0, .int .u8 0, .int .u8 0, .int .u8 0, .int .u8 0, .int .u8 0, .int .u8 0, .int .u8 0, .int .u8 0, .int .u8 0, .int .u8 0, .int .u8 0, .int .u8 0, .int .u8 0, .int .u8 0, .int .u8 0, .int .u8 0, .int .u8 0, .int .u8 0, .int .u8 0, .int .u8 0, .int .u8 0, .int .u8 0, .int .u8 0, .int .u8 0, .int .u8 0, .int .u8 0, .int .u8 0, .int .u8 0, .int .u8 0, .int .u8 0, .int .u8 0, .int .u8 0, .int .u8 0, .int .u8 0, .int .u8 0, .int .u8 0, .int .u8 0, .int .u8 0, .int .u8 0, .int .u8 0, .int .u8 0, .int .u8 0]) := by kernel_rfl
@[go_sem] theorem ag_341 : aggT Tryz.prog 341 = some true := by kernel_rfl
@[go_sem] theorem sz_341 : sizeT Tryz.prog 341 = some 4 := by kernel_rfl
@[go_sem] theorem un_341 : Tryz.prog.underlying 341 = some (.struct #[{ name := "_interface", type := 17, offset := 0, embedded := false, tag := "", pkgPath := "runtime", byteOffset := 0 }, { name := "concrete", type := 17, offset := 1, embedded := false, tag := "", pkgPath := "runtime", byteOffset := 8 }, { name := "asserted", type := 17, offset := 2, embedded := false, tag := "", pkgPath := "runtime", byteOffset := 16 }, { name := "missingMethod", type := 9, offset := 3, embedded := false, tag := "", pkgPath := "runtime", byteOffset := 24 }]) := by kernel_rfl
@[go_sem] theorem ze_341 : zeroA Tryz.prog 341 = some [.nilp, .nilp, .nilp, .str []] := by kernel_rfl
@[go_sem] theorem ei_341 : einfo Tryz.prog 341 = some (4, 40, 4) := by kernel_rfl
@[go_sem] theorem zv_341 : zeroV Tryz.prog 341 = some (.agg [.nilp, .nilp, .nilp, .str []]) := by kernel_rfl
@[go_sem] theorem fo_341_0 : fieldOff Tryz.prog 341 0 = some 0 := by kernel_rfl
@[go_sem] theorem fo_341_1 : fieldOff Tryz.prog 341 1 = some 1 := by kernel_rfl
@[go_sem] theorem fo_341_2 : fieldOff Tryz.prog 341 2 = some 2 := by kernel_rfl
@[go_sem] theorem fo_341_3 : fieldOff Tryz.prog 341 3 = some 3 := by kernel_rfl
@[go_sem] theorem ag_342 : aggT Tryz.prog 342 = some true := by kernel_rfl
@[go_sem] theorem sz_342 : sizeT Tryz.prog 342 = some 4 := by kernel_rfl
@[go_sem] theorem un_342 : Tryz.prog.underlying 342 = some (.struct #[{ name := "_interface", type := 17, offset := 0, embedded := false, tag := "", pkgPath := "runtime", byteOffset := 0 }, { name := "concrete", type := 17, offset := 1, embedded := false, tag := "", pkgPath := "runtime", byteOffset := 8 }, { name := "asserted", type := 17, offset := 2, embedded := false, tag := "", pkgPath := "runtime", byteOffset := 16 }, { name := "missingMethod", type := 9, offset := 3, embedded := false, tag := "", pkgPath := "runtime", byteOffset := 24 }]) := by kernel_rfl
@[go_sem] theorem ze_342 : zeroA Tryz.prog 342 = some [.nilp, .nilp, .nilp, .str []] := by kernel_rfl
@[go_sem] theorem ei_342 : einfo Tryz.prog 342 = some (4, 40, 4) := by kernel_rfl
@[go_sem] theorem zv_342 : zeroV Tryz.prog 342 = some (.agg [.nilp, .nilp, .nilp, .str []]) := by kernel_rfl
@[go_sem] theorem fo_342_0 : fieldOff Tryz.prog 342 0 = some 0 := by kernel_rfl
@[go_sem] theorem fo_342_1 : fieldOff Tryz.prog 342 1 = some 1 := by kernel_rfl
@[go_sem] theorem fo_342_2 : fieldOff Tryz.prog 342 2 = some 2 := by kernel_rfl
@[go_sem] theorem fo_342_3 : fieldOff Tryz.prog 342 3 = some 3 := by kernel_rfl
@[go_sem] theorem ag_346 : aggT Tryz.prog 346 = some false := by kernel_rfl
@[go_sem] theorem sz_346 : sizeT Tryz.prog 346 = some 1 := by kernel_rfl
@[go_sem] theorem un_346 : Tryz.prog.underlying 346 = some (.int .u8) := by kernel_rfl
@[go_sem] theorem ze_346 : zeroA Tryz.prog 346 = some [.int .u8 0] := by kernel_rfl
@[go_sem] theorem ei_346 : einfo Tryz.prog 346 = some (1, 1, 1) := by kernel_rfl
@[go_sem] theorem zv_346 : zeroV Tryz.prog 346 = some (.int .u8 0) := by kernel_rfl
@[go_sem] theorem ag_347 : aggT Tryz.prog 347 = some false := by kernel_rfl
@[go_sem] theorem sz_347 : sizeT Tryz.prog 347 = some 1 := by kernel_rfl
@[go_sem] theorem un_347 : Tryz.prog.underlying 347 = some (.int .u8) := by kernel_rfl
@[go_sem] theorem ze_347 : zeroA Tryz.prog 347 = some [.int .u8 0] := by kernel_rfl
@[go_sem] theorem ei_347 : einfo Tryz.prog 347 = some (1, 1, 1) := by kernel_rfl
@[go_sem] theorem zv_347 : zeroV Tryz.prog 347 = some (.int .u8 0) := by kernel_rfl
@[go_sem] theorem ag_348 : aggT Tryz.prog 348 = some false := by kernel_rfl
@[go_sem] theorem sz_348 : sizeT Tryz.prog 348 = some 1 := by kernel_rfl
@[go_sem] theorem un_348 : Tryz.prog.underlying 348 = some (.func #[221, 221] #[4] false) := by kernel_rfl
@[go_sem] theorem ze_348 : zeroA Tryz.prog 348 = some [.fnil] := by kernel_rfl
@[go_sem] theorem ei_348 : einfo Tryz.prog 348 = some (1, 8, 1) := by kernel_rfl
@[go_sem] theorem zv_348 : zeroV Tryz.prog 348 = some (.fnil) := by kernel_rfl
@[go_sem] theorem ag_349 : aggT Tryz.prog 349 = some false := by kernel_rfl
@[go_sem] theorem sz_349 : sizeT Tryz.prog 349 = some 1 := by kernel_rfl
@[go_sem] theorem un_349 : Tryz.prog.underlying 349 = some (.int .i32) := by kernel_rfl
@[go_sem] theorem ze_349 : zeroA Tryz.prog 349 = some [.int .i32 0] := by kernel_rfl
@[go_sem] theorem ei_349 : einfo Tryz.prog 349 = some (1, 4, 1) := by kernel_rfl
@[go_sem] theorem zv_349 : zeroV Tryz.prog 349 = some (.int .i32 0) := by kernel_rfl
@[go_sem] theorem ag_350 : aggT Tryz.prog 350 = some false := by kernel_rfl
@[go_sem] theorem sz_350 : sizeT Tryz.prog 350 = some 1 := by kernel_rfl
@[go_sem] theorem un_350 : Tryz.prog.underlying 350 = some (.int .i32) := by kernel_rfl
@[go_sem] theorem ze_350 : zeroA Tryz.prog 350 = some [.int .i32 0] := by kernel_rfl
@[go_sem] theorem ei_350 : einfo Tryz.prog 350 = some (1, 4, 1) := by kernel_rfl
@[go_sem] theorem zv_350 : zeroV Tryz.prog 350 = some (.int .i32 0) := by kernel_rfl
@[go_sem] theorem ag_351 : aggT Tryz.prog 351 = some true := by kernel_rfl
@[go_sem] theorem sz_351 : sizeT Tryz.prog 351 = some 11 := by kernel_rfl
@[go_sem] theorem un_351 : Tryz.prog.underlying 351 = some (.struct #[{ name := "Size_", type := 12, offset := 0, embedded := false, tag := "", pkgPath := "", byteOffset := 0 }, { name := "PtrBytes", type := 12, offset := 1, embedded := false, tag := "", pkgPath := "", byteOffset := 8 }, { name := "Hash", type := 27, offset := 2, embedded := false, tag := "", pkgPath := "", byteOffset := 16 }, { name := "TFlag", type := 346, offset := 3, embedded := false, tag := "", pkgPath := "", byteOffset := 20 }, { name := "Align_", type := 5, offset := 4, embedded := false, tag := "", pkgPath := "", byteOffset := 21 }, { name := "FieldAlign_", type := 5, offset := 5, embedded := false, tag := "", pkgPath := "", byteOffset := 22 }, { name := "Kind_", type := 347, offset := 6, embedded := false, tag := "", pkgPath := "", byteOffset := 23 }, { name := "Equal", type := 348, offset := 7, embedded := false, tag := "", pkgPath := "", byteOffset := 24 }, { name := "GCData", type := 159, offset := 8, embedded := false, tag := "", pkgPath := "", byteOffset := 32 }, { name := "Str", type := 349, offset := 9, embedded := false, tag := "", pkgPath := "", byteOffset := 40 }, { name := "PtrToThis", type := 350, offset := 10, embedded := false, tag := "", pkgPath := "", byteOffset := 44 }]) := by kernel_rfl
@[go_sem] theorem ze_351 : zeroA Tryz.prog 351 = some [.int .u64 0, .int .u64 0, .int .u32 0, .int .u8 0, .int .u8 0, .int .u8 0, .int .u8 0, .fnil, .nilp, .int .i32 0, .int .i32 0] := by kernel_rfl
@[go_sem] theorem ei_351 : einfo Tryz.prog 351 = some (11, 48, 11) := by kernel_rfl
@[go_sem] theorem zv_351 : zeroV Tryz.prog 351 = some (.agg [.int .u64 0, .int .u64 0, .int .u32 0, .int .u8 0, .int .u8 0, .int .u8 0, .int .u8 0, .fnil, .nilp, .int .i32 0, .int .i32 0]) := by kernel_rfl
@[go_sem] theorem fo_351_0 : fieldOff Tryz.prog 351 0 = some 0 := by kernel_rfl
@[go_sem] theorem fo_351_1 : fieldOff Tryz.prog 351 1 = some 1 := by kernel_rfl
@[go_sem] theorem fo_351_2 : fieldOff Tryz.prog 351 2 = some 2 := by kernel_rfl
@[go_sem] theorem fo_351_3 : fieldOff Tryz.prog 351 3 = some 3 := by kernel_rfl
@[go_sem] theorem fo_351_4 : fieldOff Tryz.prog 351 4 = some 4 := by kernel_rfl
@[go_sem] theorem fo_351_5 : fieldOff Tryz.prog 351 5 = some 5 := by kernel_rfl
@[go_sem] theorem fo_351_6 : fieldOff Tryz.prog 351 6 = some 6 := by kernel_rfl
@[go_sem] theorem fo_351_7 : fieldOff Tryz.prog 351 7 = some 7 := by kernel_rfl
@[go_sem] theorem fo_351_8 : fieldOff Tryz.prog 351 8 = some 8 := by kernel_rfl
@[go_sem] theorem fo_351_9 : fieldOff Tryz.prog 351 9 = some 9 := by kernel_rfl
@[go_sem] theorem fo_351_10 : fieldOff Tryz.prog 351 10 = some 10 := by kernel_rfl
@[go_sem] theorem ag_352 : aggT Tryz.prog 352 = some true := by kernel_rfl
@[go_sem] theorem sz_352 : sizeT Tryz.prog 352 = some 11 := by kernel_rfl
@[go_sem] theorem un_352 : Tryz.prog.underlying 352 = some (.struct #[{ name := "Size_", type := 12, offset := 0, embedded := false, tag := "", pkgPath := "", byteOffset := 0 }, { name := "PtrBytes", type := 12, offset := 1, embedded := false, tag := "", pkgPath := "", byteOffset := 8 }, { name := "Hash", type := 27, offset := 2, embedded := false, tag := "", pkgPath := "", byteOffset := 16 }, { name := "TFlag", type := 346, offset := 3, embedded := false, tag := "", pkgPath := "", byteOffset := 20 }, { name := "Align_", type := 5, offset := 4, embedded := false, tag := "", pkgPath := "", byteOffset := 21 }, { name := "FieldAlign_", type := 5, offset := 5, embedded := false, tag := "", pkgPath := "", byteOffset := 22 }, { name := "Kind_", type := 347, offset := 6, embedded := false, tag := "", pkgPath := "", byteOffset := 23 }, { name := "Equal", type := 348, offset := 7, embedded := false, tag := "", pkgPath := "", byteOffset := 24 }, { name := "GCData", type := 159, offset := 8, embedded := false, tag := "", pkgPath := "", byteOffset := 32 }, { name := "Str", type := 349, offset := 9, embedded := false, tag := "", pkgPath := "", byteOffset := 40 }, { name := "PtrToThis", type := 350, offset := 10, embedded := false, tag := "", pkgPath := "", byteOffset := 44 }]) := by kernel_rfl
@[go_sem] theorem ze_352 : zeroA Tryz.prog 352 = some [.int .u64 0, .int .u64 0, .int .u32 0, .int .u8 0, .int .u8 0, .int .u8 0, .int .u8 0, .fnil, .nilp, .int .i32 0, .int .i32 0] := by kernel_rfl
@[go_sem] theorem ei_352 : einfo Tryz.prog 352 = some (11, 48, 11) := by kernel_rfl
@[go_sem] theorem zv_352 : zeroV Tryz.prog 352 = some (.agg [.int .u64 0, .int .u64 0, .int .u32 0, .int .u8 0, .int .u8 0, .int .u8 0, .int .u8 0, .fnil, .nilp, .int .i32 0, .int .i32 0]) := by kernel_rfl
@[go_sem] theorem fo_352_0 : fieldOff Tryz.prog 352 0 = some 0 := by kernel_rfl
@[go_sem] theorem fo_352_1 : fieldOff Tryz.prog 352 1 = some 1 := by kernel_rfl
@[go_sem] theorem fo_352_2 : fieldOff Tryz.prog 352 2 = some 2 := by kernel_rfl
@[go_sem] theorem fo_352_3 : fieldOff Tryz.prog 352 3 = some 3 := by kernel_rfl
@[go_sem] theorem fo_352_4 : fieldOff Tryz.prog 352 4 = some 4 := by kernel_rfl
@[go_sem] theorem fo_352_5 : fieldOff Tryz.prog 352 5 = some 5 := by kernel_rfl
@[go_sem] theorem fo_352_6 : fieldOff Tryz.prog 352 6 = some 6 := by kernel_rfl
@[go_sem] theorem fo_352_7 : fieldOff Tryz.prog 352 7 = some 7 := by kernel_rfl
@[go_sem] theorem fo_352_8 : fieldOff Tryz.prog 352 8 = some 8 := by kernel_rfl
@[go_sem] theorem fo_352_9 : fieldOff Tryz.prog 352 9 = some 9 := by kernel_rfl
@[go_sem] theorem fo_352_10 : fieldOff Tryz.prog 352 10 = some 10 := by kernel_rfl
@[go_sem] theorem bl_1 : isBld Tryz.prog 1 = false := by kernel_rfl
@[go_sem] theorem bl_2 : isBld Tryz.prog 2 = false := by kernel_rfl
@[go_sem] theorem bl_3 : isBld Tryz.prog 3 = false := by kernel_rfl
@[go_sem] theorem bl_4 : isBld Tryz.prog 4 = false := by kernel_rfl
@[go_sem] theorem bl_5 : isBld Tryz.prog 5 = false := by kernel_rfl
@[go_sem] theorem co_5 : Tryz.prog.cellsOf 5 = 1 := by kernel_rfl
@[go_sem] theorem bl_6 : isBld Tryz.prog 6 = false := by kernel_rfl
@[go_sem] theorem co_6 : Tryz.prog.cellsOf 6 = 1 := by kernel_rfl
@[go_sem] theorem bl_7 : isBld Tryz.prog 7 = false := by kernel_rfl
@[go_sem] theorem bl_9 : isBld Tryz.prog 9 = false := by kernel_rfl
@[go_sem] theorem bl_11 : isBld Tryz.prog 11 = false := by kernel_rfl
@[go_sem] theorem bl_12 : isBld Tryz.prog 12 = false := by kernel_rfl
@[go_sem] theorem bl_15 : isBld Tryz.prog 15 = false := by kernel_rfl
@[go_sem] theorem bl_17 : isBld Tryz.prog 17 = false := by kernel_rfl
@[go_sem] theorem bl_20 : isBld Tryz.prog 20 = false := by kernel_rfl
@[go_sem] theorem bl_21 : isBld Tryz.prog 21 = false := by kernel_rfl
@[go_sem] theorem bl_22 : isBld Tryz.prog 22 = false := by kernel_rfl
@[go_sem] theorem bl_23 : isBld Tryz.prog 23 = false := by kernel_rfl
@[go_sem] theorem bl_24 : isBld Tryz.prog 24 = false := by kernel_rfl
@[go_sem] theorem bl_25 : isBld Tryz.prog 25 = false := by kernel_rfl
@[go_sem] theorem bl_27 : isBld Tryz.prog 27 = false := by kernel_rfl
@[go_sem] theorem bl_30 : isBld Tryz.prog 30 = false := by kernel_rfl
@[go_sem] theorem bl_32 : isBld Tryz.prog 32 = false := by kernel_rfl
@[go_sem] theorem bl_34 : isBld Tryz.prog 34 = false := by kernel_rfl
@[go_sem] theorem bl_38 : isBld Tryz.prog 38 = false := by kernel_rfl
@[go_sem] theorem bl_39 : isBld Tryz.prog 39 = false := by kernel_rfl
@[go_sem] theorem bl_40 : isBld Tryz.prog 40 = false := by kernel_rfl
@[go_sem] theorem bl_41 : isBld Tryz.prog 41 = false := by kernel_rfl
@[go_sem] theorem bl_43 : isBld Tryz.prog 43 = false := by kernel_rfl
@[go_sem] theorem bl_44 : isBld Tryz.prog 44 = false := by kernel_rfl
@[go_sem] theorem bl_45 : isBld Tryz.prog 45 = false := by kernel_rfl
@[go_sem] theorem bl_52 : isBld Tryz.prog 52 = false := by kernel_rfl
@[go_sem] theorem bl_54 : isBld Tryz.prog 54 = false := by kernel_rfl
@[go_sem] theorem bl_61 : isBld Tryz.prog 61 = false := by kernel_rfl
@[go_sem] theorem bl_62 : isBld Tryz.prog 62 = false := by kernel_rfl
@[go_sem] theorem bl_63 : isBld Tryz.prog 63 = false := by kernel_rfl
@[go_sem] theorem bl_69 : isBld Tryz.prog 69 = false := by kernel_rfl
@[go_sem] theorem bl_71 : isBld Tryz.prog 71 = false := by kernel_rfl
@[go_sem] theorem bl_74 : isBld Tryz.prog 74 = false := by kernel_rfl
@[go_sem] theorem bl_75 : isBld Tryz.prog 75 = false := by kernel_rfl
@[go_sem] theorem bl_76 : isBld Tryz.prog 76 = false := by kernel_rfl
@[go_sem] theorem bl_78 : isBld Tryz.prog 78 = false := by kernel_rfl
@[go_sem] theorem bl_84 : isBld Tryz.prog 84 = false := by kernel_rfl
@[go_sem] theorem bl_85 : isBld Tryz.prog 85 = false := by kernel_rfl
@[go_sem] theorem bl_88 : isBld Tryz.prog 88 = false := by kernel_rfl
@[go_sem] theorem bl_89 : isBld Tryz.prog 89 = true := by kernel_rfl
@[go_sem] theorem lo_89 : liesOk Tryz.prog 89 2 = true := by kernel_rfl
@[go_sem] theorem bl_90 : isBld Tryz.prog 90 = true := by kernel_rfl
@[go_sem] theorem lo_90 : liesOk Tryz.prog 90 2 = true := by kernel_rfl
@[go_sem] theorem bl_94 : isBld Tryz.prog 94 = false := by kernel_rfl
@[go_sem] theorem bl_95 : isBld Tryz.prog 95 = false := by kernel_rfl
@[go_sem] theorem bl_98 : isBld Tryz.prog 98 = false := by kernel_rfl
@[go_sem] theorem bl_99 : isBld Tryz.prog 99 = false := by kernel_rfl
@[go_sem] theorem bl_101 : isBld Tryz.prog 101 = false := by kernel_rfl
@[go_sem] theorem bl_102 : isBld Tryz.prog 102 = false := by kernel_rfl
@[go_sem] theorem bl_103 : isBld Tryz.prog 103 = false := by kernel_rfl
@[go_sem] theorem bl_104 : isBld Tryz.prog 104 = false := by kernel_rfl
@[go_sem] theorem bl_105 : isBld Tryz.prog 105 = false := by kernel_rfl
@[go_sem] theorem bl_106 : isBld Tryz.prog 106 = false := by kernel_rfl
@[go_sem] theorem bl_107 : isBld Tryz.prog 107 = false := by kernel_rfl
@[go_sem] theorem bl_108 : isBld Tryz.prog 108 = false := by kernel_rfl
@[go_sem] theorem bl_110 : isBld Tryz.prog 110 = false := by kernel_rfl
@[go_sem] theorem bl_115 : isBld Tryz.prog 115 = false := by kernel_rfl
@[go_sem] theorem bl_117 : isBld Tryz.prog 117 = false := by kernel_rfl
@[go_sem] theorem bl_122 : isBld Tryz.prog 122 = false := by kernel_rfl
@[go_sem] theorem bl_123 : isBld Tryz.prog 123 = false := by kernel_rfl
@[go_sem] theorem bl_124 : isBld Tryz.prog 124 = false := by kernel_rfl
@[go_sem] theorem bl_135 : isBld Tryz.prog 135 = false := by kernel_rfl
@[go_sem] theorem bl_137 : isBld Tryz.prog 137 = false := by kernel_rfl
@[go_sem] theorem bl_139 : isBld Tryz.prog 139 = false := by kernel_rfl
@[go_sem] theorem bl_140 : isBld Tryz.prog 140 = false := by kernel_rfl
@[go_sem] theorem bl_141 : isBld Tryz.prog 141 = false := by kernel_rfl
@[go_sem] theorem bl_142 : isBld Tryz.prog 142 = false := by kernel_rfl
@[go_sem] theorem bl_144 : isBld Tryz.prog 144 = false := by kernel_rfl
@[go_sem] theorem bl_147 : isBld Tryz.prog 147 = false := by kernel_rfl
@[go_sem] theorem bl_151 : isBld Tryz.prog 151 = false := by kernel_rfl
@[go_sem] theorem bl_152 : isBld Tryz.prog 152 = false := by kernel_rfl
@[go_sem] theorem bl_153 : isBld Tryz.prog 153 = false := by kernel_rfl
@[go_sem] theorem bl_159 : isBld Tryz.prog 159 = false := by kernel_rfl
@[go_sem] theorem bl_162 : isBld Tryz.prog 162 = false := by kernel_rfl
@[go_sem] theorem bl_163 : isBld Tryz.prog 163 = false := by kernel_rfl
@[go_sem] theorem bl_164 : isBld Tryz.prog 164 = false := by kernel_rfl
@[go_sem] theorem bl_165 : isBld Tryz.prog 165 = false := by kernel_rfl
@[go_sem] theorem bl_166 : isBld Tryz.prog 166 = false := by kernel_rfl
@[go_sem] theorem bl_167 : isBld Tryz.prog 167 = false := by kernel_rfl
@[go_sem] theorem bl_169 : isBld Tryz.prog 169 = false := by kernel_rfl
@[go_sem] theorem bl_170 : isBld Tryz.prog 170 = false := by kernel_rfl
@[go_sem] theorem bl_191 : isBld Tryz.prog 191 = false := by kernel_rfl
@[go_sem] theorem bl_192 : isBld Tryz.prog 192 = false := by kernel_rfl
@[go_sem] theorem bl_196 : isBld Tryz.prog 196 = false := by kernel_rfl
@[go_sem] theorem bl_198 : isBld Tryz.prog 198 = false := by kernel_rfl
@[go_sem] theorem bl_200 : isBld Tryz.prog 200 = false := by kernel_rfl
@[go_sem] theorem bl_201 : isBld Tryz.prog 201 = false := by kernel_rfl
@[go_sem] theorem bl_202 : isBld Tryz.prog 202 = false := by kernel_rfl
@[go_sem] theorem bl_203 : isBld Tryz.prog 203 = false := by kernel_rfl
@[go_sem] theorem bl_204 : isBld Tryz.prog 204 = false := by kernel_rfl
@[go_sem] theorem bl_206 : isBld Tryz.prog 206 = false := by kernel_rfl
@[go_sem] theorem bl_210 : isBld Tryz.prog 210 = false := by kernel_rfl
@[go_sem] theorem bl_213 : isBld Tryz.prog 213 = false := by kernel_rfl
@[go_sem] theorem bl_215 : isBld Tryz.prog 215 = false := by kernel_rfl
@[go_sem] theorem bl_216 : isBld Tryz.prog 216 = false := by kernel_rfl
@[go_sem] theorem bl_220 : isBld Tryz.prog 220 = false := by kernel_rfl
@[go_sem] theorem bl_221 : isBld Tryz.prog 221 = false := by kernel_rfl
@[go_sem] theorem bl_223 : isBld Tryz.prog 223 = false := by kernel_rfl
@[go_sem] theorem bl_230 : isBld Tryz.prog 230 = false := by kernel_rfl
@[go_sem] theorem bl_234 : isBld Tryz.prog 234 = false := by kernel_rfl
@[go_sem] theorem bl_248 : isBld Tryz.prog 248 = false := by kernel_rfl
@[go_sem] theorem bl_249 : isBld Tryz.prog 249 = false := by kernel_rfl
@[go_sem] theorem bl_255 : isBld Tryz.prog 255 = false := by kernel_rfl
@[go_sem] theorem bl_256 : isBld Tryz.prog 256 = false := by kernel_rfl
@[go_sem] theorem bl_257 : isBld Tryz.prog 257 = false := by kernel_rfl
@[go_sem] theorem bl_265 : isBld Tryz.prog 265 = false := by kernel_rfl
@[go_sem] theorem bl_266 : isBld Tryz.prog 266 = false := by kernel_rfl
@[go_sem] theorem bl_270 : isBld Tryz.prog 270 = false := by kernel_rfl
@[go_sem] theorem bl_273 : isBld Tryz.prog 273 = false := by kernel_rfl
@[go_sem] theorem bl_281 : isBld Tryz.prog 281 = false := by kernel_rfl
@[go_sem] theorem bl_285 : isBld Tryz.prog 285 = false := by kernel_rfl
@[go_sem] theorem bl_286 : isBld Tryz.prog 286 = false := by kernel_rfl
@[go_sem] theorem bl_299 : isBld Tryz.prog 299 = false := by kernel_rfl
@[go_sem] theorem bl_302 : isBld Tryz.prog 302 = false := by kernel_rfl
@[go_sem] theorem bl_314 : isBld Tryz.prog 314 = false := by kernel_rfl
@[go_sem] theorem bl_315 : isBld Tryz.prog 315 = false := by kernel_rfl
@[go_sem] theorem bl_320 : isBld Tryz.prog 320 = false := by kernel_rfl
@[go_sem] theorem bl_321 : isBld Tryz.prog 321 = false := by kernel_rfl
@[go_sem] theorem bl_326 : isBld Tryz.prog 326 = false := by kernel_rfl
@[go_sem] theorem bl_340 : isBld Tryz.prog 340 = false := by kernel_rfl
@[go_sem] theorem bl_341 : isBld Tryz.prog 341 = false := by kernel_rfl
@[go_sem] theorem bl_342 : isBld Tryz.prog 342 = false := by kernel_rfl
@[go_sem] theorem bl_346 : isBld Tryz.prog 346 = false := by kernel_rfl
@[go_sem] theorem co_346 : Tryz.prog.cellsOf 346 = 1 := by kernel_rfl
@[go_sem] theorem bl_347 : isBld Tryz.prog 347 = false := by kernel_rfl
@[go_sem] theorem co_347 : Tryz.prog.cellsOf 347 = 1 := by kernel_rfl
@[go_sem] theorem bl_348 : isBld Tryz.prog 348 = false := by kernel_rfl
@[go_sem] theorem bl_349 : isBld Tryz.prog 349 = false := by kernel_rfl
@[go_sem] theorem bl_350 : isBld Tryz.prog 350 = false := by kernel_rfl
@[go_sem] theorem bl_351 : isBld Tryz.prog 351 = false := by kernel_rfl
@[go_sem] theorem bl_352 : isBld Tryz.prog 352 = false := by kernel_rfl
theorem mixed : Tryz.prog.follows .mixedOrders = true := by kernel_rfl
end Go.Proofs.YthdbijpefkapnaaGreatDoor
