/- YtnndmokndgnidaaDoorTy. Texts of the proof of a law about recordings: a layer of abstract values above the worlds, the types, the walks of the functions that the law reaches, the law and its card. Own work of an AI agent. -/
import Derived.Test.YtnndmokndgnidaaDoorProg
import Derived.Test.YtnndmokndgnidaaDoorCore1
set_option linter.all false
set_option linter.unusedVariables false
set_option linter.unusedSimpArgs false
namespace Go.Proofs.YtnndmokndgnidaaDoor
open Go.Fen
attribute [go_sem] Int.reduceBEq Int.reduceBNe Nat.reduceBEq Nat.reduceEqDiff Nat.reduceLT Nat.reduceAdd Nat.reduceSub Nat.reduceMul Nat.reduceLeDiff reduceCtorEq Int.reduceToNat Int.reduceAdd Int.reduceSub Int.reduceMul Int.reduceLT Int.reduceLE Int.reduceNeg Int.reduceEq
attribute [go_sem ↓] reduceIte
@[go_sem] theorem ag_1 : aggT Tryd.prog 1 = some false := by kernel_rfl
@[go_sem] theorem sz_1 : sizeT Tryd.prog 1 = some 1 := by kernel_rfl
@[go_sem] theorem un_1 : Tryd.prog.underlying 1 = some (.func #[] #[] false) := by kernel_rfl
@[go_sem] theorem ze_1 : zeroA Tryd.prog 1 = some [.fnil] := by kernel_rfl
@[go_sem] theorem ei_1 : einfo Tryd.prog 1 = some (1, 8, 1) := by kernel_rfl
@[go_sem] theorem zv_1 : zeroV Tryd.prog 1 = some (.fnil) := by kernel_rfl
@[go_sem] theorem ag_2 : aggT Tryd.prog 2 = some false := by kernel_rfl
@[go_sem] theorem sz_2 : sizeT Tryd.prog 2 = some 1 := by kernel_rfl
@[go_sem] theorem un_2 : Tryd.prog.underlying 2 = some (.int .i64) := by kernel_rfl
@[go_sem] theorem ze_2 : zeroA Tryd.prog 2 = some [.int .i64 0] := by kernel_rfl
@[go_sem] theorem ei_2 : einfo Tryd.prog 2 = some (1, 8, 1) := by kernel_rfl
@[go_sem] theorem zv_2 : zeroV Tryd.prog 2 = some (.int .i64 0) := by kernel_rfl
@[go_sem] theorem ag_3 : aggT Tryd.prog 3 = some false := by kernel_rfl
@[go_sem] theorem sz_3 : sizeT Tryd.prog 3 = some 1 := by kernel_rfl
@[go_sem] theorem un_3 : Tryd.prog.underlying 3 = some (.int .i64) := by kernel_rfl
@[go_sem] theorem ze_3 : zeroA Tryd.prog 3 = some [.int .i64 0] := by kernel_rfl
@[go_sem] theorem ei_3 : einfo Tryd.prog 3 = some (1, 8, 1) := by kernel_rfl
@[go_sem] theorem zv_3 : zeroV Tryd.prog 3 = some (.int .i64 0) := by kernel_rfl
@[go_sem] theorem ag_4 : aggT Tryd.prog 4 = some false := by kernel_rfl
@[go_sem] theorem sz_4 : sizeT Tryd.prog 4 = some 1 := by kernel_rfl
@[go_sem] theorem un_4 : Tryd.prog.underlying 4 = some (.bool) := by kernel_rfl
@[go_sem] theorem ze_4 : zeroA Tryd.prog 4 = some [.bool false] := by kernel_rfl
@[go_sem] theorem ei_4 : einfo Tryd.prog 4 = some (1, 1, 1) := by kernel_rfl
@[go_sem] theorem zv_4 : zeroV Tryd.prog 4 = some (.bool false) := by kernel_rfl
@[go_sem] theorem ag_5 : aggT Tryd.prog 5 = some false := by kernel_rfl
@[go_sem] theorem sz_5 : sizeT Tryd.prog 5 = some 1 := by kernel_rfl
@[go_sem] theorem un_5 : Tryd.prog.underlying 5 = some (.int .u8) := by kernel_rfl
@[go_sem] theorem ze_5 : zeroA Tryd.prog 5 = some [.int .u8 0] := by kernel_rfl
@[go_sem] theorem ei_5 : einfo Tryd.prog 5 = some (1, 1, 1) := by kernel_rfl
@[go_sem] theorem zv_5 : zeroV Tryd.prog 5 = some (.int .u8 0) := by kernel_rfl
@[go_sem] theorem ag_6 : aggT Tryd.prog 6 = some false := by kernel_rfl
@[go_sem] theorem sz_6 : sizeT Tryd.prog 6 = some 1 := by kernel_rfl
@[go_sem] theorem un_6 : Tryd.prog.underlying 6 = some (.int .u8) := by kernel_rfl
@[go_sem] theorem ze_6 : zeroA Tryd.prog 6 = some [.int .u8 0] := by kernel_rfl
@[go_sem] theorem ei_6 : einfo Tryd.prog 6 = some (1, 1, 1) := by kernel_rfl
@[go_sem] theorem zv_6 : zeroV Tryd.prog 6 = some (.int .u8 0) := by kernel_rfl
@[go_sem] theorem ag_7 : aggT Tryd.prog 7 = some true := by kernel_rfl
@[go_sem] theorem sz_7 : sizeT Tryd.prog 7 = some 4 := by kernel_rfl
@[go_sem] theorem un_7 : Tryd.prog.underlying 7 = some (.struct #[{ name := "x", type := 2, offset := 0, embedded := false, tag := "", pkgPath := "runtime", byteOffset := 0 }, { name := "y", type := 3, offset := 1, embedded := false, tag := "", pkgPath := "runtime", byteOffset := 8 }, { name := "signed", type := 4, offset := 2, embedded := false, tag := "", pkgPath := "runtime", byteOffset := 16 }, { name := "code", type := 6, offset := 3, embedded := false, tag := "", pkgPath := "runtime", byteOffset := 17 }]) := by kernel_rfl
@[go_sem] theorem ze_7 : zeroA Tryd.prog 7 = some [.int .i64 0, .int .i64 0, .bool false, .int .u8 0] := by kernel_rfl
@[go_sem] theorem ei_7 : einfo Tryd.prog 7 = some (4, 24, 4) := by kernel_rfl
@[go_sem] theorem zv_7 : zeroV Tryd.prog 7 = some (.agg [.int .i64 0, .int .i64 0, .bool false, .int .u8 0]) := by kernel_rfl
@[go_sem] theorem fo_7_0 : fieldOff Tryd.prog 7 0 = some 0 := by kernel_rfl
@[go_sem] theorem fo_7_1 : fieldOff Tryd.prog 7 1 = some 1 := by kernel_rfl
@[go_sem] theorem fo_7_2 : fieldOff Tryd.prog 7 2 = some 2 := by kernel_rfl
@[go_sem] theorem fo_7_3 : fieldOff Tryd.prog 7 3 = some 3 := by kernel_rfl
@[go_sem] theorem ag_8 : aggT Tryd.prog 8 = some true := by kernel_rfl
@[go_sem] theorem sz_8 : sizeT Tryd.prog 8 = some 4 := by kernel_rfl
@[go_sem] theorem un_8 : Tryd.prog.underlying 8 = some (.struct #[{ name := "x", type := 2, offset := 0, embedded := false, tag := "", pkgPath := "runtime", byteOffset := 0 }, { name := "y", type := 3, offset := 1, embedded := false, tag := "", pkgPath := "runtime", byteOffset := 8 }, { name := "signed", type := 4, offset := 2, embedded := false, tag := "", pkgPath := "runtime", byteOffset := 16 }, { name := "code", type := 6, offset := 3, embedded := false, tag := "", pkgPath := "runtime", byteOffset := 17 }]) := by kernel_rfl
@[go_sem] theorem ze_8 : zeroA Tryd.prog 8 = some [.int .i64 0, .int .i64 0, .bool false, .int .u8 0] := by kernel_rfl
@[go_sem] theorem ei_8 : einfo Tryd.prog 8 = some (4, 24, 4) := by kernel_rfl
@[go_sem] theorem zv_8 : zeroV Tryd.prog 8 = some (.agg [.int .i64 0, .int .i64 0, .bool false, .int .u8 0]) := by kernel_rfl
@[go_sem] theorem fo_8_0 : fieldOff Tryd.prog 8 0 = some 0 := by kernel_rfl
@[go_sem] theorem fo_8_1 : fieldOff Tryd.prog 8 1 = some 1 := by kernel_rfl
@[go_sem] theorem fo_8_2 : fieldOff Tryd.prog 8 2 = some 2 := by kernel_rfl
@[go_sem] theorem fo_8_3 : fieldOff Tryd.prog 8 3 = some 3 := by kernel_rfl
@[go_sem] theorem ag_9 : aggT Tryd.prog 9 = some false := by kernel_rfl
@[go_sem] theorem sz_9 : sizeT Tryd.prog 9 = some 1 := by kernel_rfl
@[go_sem] theorem un_9 : Tryd.prog.underlying 9 = some (.string) := by kernel_rfl
@[go_sem] theorem ze_9 : zeroA Tryd.prog 9 = some [.str []] := by kernel_rfl
@[go_sem] theorem ei_9 : einfo Tryd.prog 9 = some (1, 16, 1) := by kernel_rfl
@[go_sem] theorem zv_9 : zeroV Tryd.prog 9 = some (.str []) := by kernel_rfl
@[go_sem] theorem ag_10 : aggT Tryd.prog 10 = some false := by kernel_rfl
@[go_sem] theorem sz_10 : sizeT Tryd.prog 10 = some 1 := by kernel_rfl
@[go_sem] theorem un_10 : Tryd.prog.underlying 10 = some (.string) := by kernel_rfl
@[go_sem] theorem ze_10 : zeroA Tryd.prog 10 = some [.str []] := by kernel_rfl
@[go_sem] theorem ei_10 : einfo Tryd.prog 10 = some (1, 16, 1) := by kernel_rfl
@[go_sem] theorem zv_10 : zeroV Tryd.prog 10 = some (.str []) := by kernel_rfl
@[go_sem] theorem ag_11 : aggT Tryd.prog 11 = some false := by kernel_rfl
@[go_sem] theorem sz_11 : sizeT Tryd.prog 11 = some 1 := by kernel_rfl
@[go_sem] theorem un_11 : Tryd.prog.underlying 11 = some (.string) := by kernel_rfl
@[go_sem] theorem ze_11 : zeroA Tryd.prog 11 = some [.str []] := by kernel_rfl
@[go_sem] theorem ei_11 : einfo Tryd.prog 11 = some (1, 16, 1) := by kernel_rfl
@[go_sem] theorem zv_11 : zeroV Tryd.prog 11 = some (.str []) := by kernel_rfl
@[go_sem] theorem ag_12 : aggT Tryd.prog 12 = some false := by kernel_rfl
@[go_sem] theorem sz_12 : sizeT Tryd.prog 12 = some 1 := by kernel_rfl
@[go_sem] theorem un_12 : Tryd.prog.underlying 12 = some (.int .u64) := by kernel_rfl
@[go_sem] theorem ze_12 : zeroA Tryd.prog 12 = some [.int .u64 0] := by kernel_rfl
@[go_sem] theorem ei_12 : einfo Tryd.prog 12 = some (1, 8, 1) := by kernel_rfl
@[go_sem] theorem zv_12 : zeroV Tryd.prog 12 = some (.int .u64 0) := by kernel_rfl
@[go_sem] theorem ag_13 : aggT Tryd.prog 13 = some true := by kernel_rfl
@[go_sem] theorem sz_13 : sizeT Tryd.prog 13 = some 2 := by kernel_rfl
@[go_sem] theorem un_13 : Tryd.prog.underlying 13 = some (.struct #[{ name := "msg", type := 9, offset := 0, embedded := false, tag := "", pkgPath := "runtime", byteOffset := 0 }, { name := "addr", type := 12, offset := 1, embedded := false, tag := "", pkgPath := "runtime", byteOffset := 16 }]) := by kernel_rfl
@[go_sem] theorem ze_13 : zeroA Tryd.prog 13 = some [.str [], .int .u64 0] := by kernel_rfl
@[go_sem] theorem ei_13 : einfo Tryd.prog 13 = some (2, 24, 2) := by kernel_rfl
@[go_sem] theorem zv_13 : zeroV Tryd.prog 13 = some (.agg [.str [], .int .u64 0]) := by kernel_rfl
@[go_sem] theorem fo_13_0 : fieldOff Tryd.prog 13 0 = some 0 := by kernel_rfl
@[go_sem] theorem fo_13_1 : fieldOff Tryd.prog 13 1 = some 1 := by kernel_rfl
@[go_sem] theorem ag_14 : aggT Tryd.prog 14 = some true := by kernel_rfl
@[go_sem] theorem sz_14 : sizeT Tryd.prog 14 = some 2 := by kernel_rfl
@[go_sem] theorem un_14 : Tryd.prog.underlying 14 = some (.struct #[{ name := "msg", type := 9, offset := 0, embedded := false, tag := "", pkgPath := "runtime", byteOffset := 0 }, { name := "addr", type := 12, offset := 1, embedded := false, tag := "", pkgPath := "runtime", byteOffset := 16 }]) := by kernel_rfl
@[go_sem] theorem ze_14 : zeroA Tryd.prog 14 = some [.str [], .int .u64 0] := by kernel_rfl
@[go_sem] theorem ei_14 : einfo Tryd.prog 14 = some (2, 24, 2) := by kernel_rfl
@[go_sem] theorem zv_14 : zeroV Tryd.prog 14 = some (.agg [.str [], .int .u64 0]) := by kernel_rfl
@[go_sem] theorem fo_14_0 : fieldOff Tryd.prog 14 0 = some 0 := by kernel_rfl
@[go_sem] theorem fo_14_1 : fieldOff Tryd.prog 14 1 = some 1 := by kernel_rfl
@[go_sem] theorem ag_15 : aggT Tryd.prog 15 = some false := by kernel_rfl
@[go_sem] theorem sz_15 : sizeT Tryd.prog 15 = some 1 := by kernel_rfl
@[go_sem] theorem un_15 : Tryd.prog.underlying 15 = some (.pointer 167) := by kernel_rfl
@[go_sem] theorem ze_15 : zeroA Tryd.prog 15 = some [.nilp] := by kernel_rfl
@[go_sem] theorem ei_15 : einfo Tryd.prog 15 = some (1, 8, 1) := by kernel_rfl
@[go_sem] theorem zv_15 : zeroV Tryd.prog 15 = some (.nilp) := by kernel_rfl
@[go_sem] theorem ag_16 : aggT Tryd.prog 16 = some false := by kernel_rfl
@[go_sem] theorem sz_16 : sizeT Tryd.prog 16 = some 1 := by kernel_rfl
@[go_sem] theorem un_16 : Tryd.prog.underlying 16 = some (.pointer 170) := by kernel_rfl
@[go_sem] theorem ze_16 : zeroA Tryd.prog 16 = some [.nilp] := by kernel_rfl
@[go_sem] theorem ei_16 : einfo Tryd.prog 16 = some (1, 8, 1) := by kernel_rfl
@[go_sem] theorem zv_16 : zeroV Tryd.prog 16 = some (.nilp) := by kernel_rfl
@[go_sem] theorem ag_17 : aggT Tryd.prog 17 = some false := by kernel_rfl
@[go_sem] theorem sz_17 : sizeT Tryd.prog 17 = some 1 := by kernel_rfl
@[go_sem] theorem un_17 : Tryd.prog.underlying 17 = some (.pointer 177) := by kernel_rfl
@[go_sem] theorem ze_17 : zeroA Tryd.prog 17 = some [.nilp] := by kernel_rfl
@[go_sem] theorem ei_17 : einfo Tryd.prog 17 = some (1, 8, 1) := by kernel_rfl
@[go_sem] theorem zv_17 : zeroV Tryd.prog 17 = some (.nilp) := by kernel_rfl
@[go_sem] theorem ag_18 : aggT Tryd.prog 18 = some true := by kernel_rfl
@[go_sem] theorem sz_18 : sizeT Tryd.prog 18 = some 1 := by kernel_rfl
@[go_sem] theorem un_18 : Tryd.prog.underlying 18 = some (.struct #[{ name := "typ", type := 17, offset := 0, embedded := false, tag := "", pkgPath := "internal/runtime/maps", byteOffset := 0 }]) := by kernel_rfl
@[go_sem] theorem ze_18 : zeroA Tryd.prog 18 = some [.nilp] := by kernel_rfl
@[go_sem] theorem ei_18 : einfo Tryd.prog 18 = some (1, 8, 1) := by kernel_rfl
@[go_sem] theorem zv_18 : zeroV Tryd.prog 18 = some (.agg [.nilp]) := by kernel_rfl
@[go_sem] theorem fo_18_0 : fieldOff Tryd.prog 18 0 = some 0 := by kernel_rfl
@[go_sem] theorem ag_19 : aggT Tryd.prog 19 = some true := by kernel_rfl
@[go_sem] theorem sz_19 : sizeT Tryd.prog 19 = some 1 := by kernel_rfl
@[go_sem] theorem un_19 : Tryd.prog.underlying 19 = some (.struct #[{ name := "typ", type := 17, offset := 0, embedded := false, tag := "", pkgPath := "internal/runtime/maps", byteOffset := 0 }]) := by kernel_rfl
@[go_sem] theorem ze_19 : zeroA Tryd.prog 19 = some [.nilp] := by kernel_rfl
@[go_sem] theorem ei_19 : einfo Tryd.prog 19 = some (1, 8, 1) := by kernel_rfl
@[go_sem] theorem zv_19 : zeroV Tryd.prog 19 = some (.agg [.nilp]) := by kernel_rfl
@[go_sem] theorem fo_19_0 : fieldOff Tryd.prog 19 0 = some 0 := by kernel_rfl
@[go_sem] theorem ag_20 : aggT Tryd.prog 20 = some false := by kernel_rfl
@[go_sem] theorem sz_20 : sizeT Tryd.prog 20 = some 1 := by kernel_rfl
@[go_sem] theorem un_20 : Tryd.prog.underlying 20 = some (.interface #[]) := by kernel_rfl
@[go_sem] theorem ze_20 : zeroA Tryd.prog 20 = some [.inil] := by kernel_rfl
@[go_sem] theorem ei_20 : einfo Tryd.prog 20 = some (1, 16, 1) := by kernel_rfl
@[go_sem] theorem zv_20 : zeroV Tryd.prog 20 = some (.inil) := by kernel_rfl
@[go_sem] theorem ag_21 : aggT Tryd.prog 21 = some false := by kernel_rfl
@[go_sem] theorem sz_21 : sizeT Tryd.prog 21 = some 1 := by kernel_rfl
@[go_sem] theorem un_21 : Tryd.prog.underlying 21 = some (.int .i32) := by kernel_rfl
@[go_sem] theorem ze_21 : zeroA Tryd.prog 21 = some [.int .i32 0] := by kernel_rfl
@[go_sem] theorem ei_21 : einfo Tryd.prog 21 = some (1, 4, 1) := by kernel_rfl
@[go_sem] theorem zv_21 : zeroV Tryd.prog 21 = some (.int .i32 0) := by kernel_rfl
@[go_sem] theorem ag_22 : aggT Tryd.prog 22 = some false := by kernel_rfl
@[go_sem] theorem sz_22 : sizeT Tryd.prog 22 = some 1 := by kernel_rfl
@[go_sem] theorem un_22 : Tryd.prog.underlying 22 = some (.slice 47) := by kernel_rfl
@[go_sem] theorem ze_22 : zeroA Tryd.prog 22 = some [.snil] := by kernel_rfl
@[go_sem] theorem ei_22 : einfo Tryd.prog 22 = some (1, 24, 1) := by kernel_rfl
@[go_sem] theorem zv_22 : zeroV Tryd.prog 22 = some (.snil) := by kernel_rfl
@[go_sem] theorem ag_23 : aggT Tryd.prog 23 = some true := by kernel_rfl
@[go_sem] theorem sz_23 : sizeT Tryd.prog 23 = some 3 := by kernel_rfl
@[go_sem] theorem un_23 : Tryd.prog.underlying 23 = some (.struct #[{ name := "Cols", type := 3, offset := 0, embedded := false, tag := "", pkgPath := "", byteOffset := 0 }, { name := "Rows", type := 3, offset := 1, embedded := false, tag := "", pkgPath := "", byteOffset := 8 }, { name := "Items", type := 22, offset := 2, embedded := false, tag := "", pkgPath := "", byteOffset := 16 }]) := by kernel_rfl
@[go_sem] theorem ze_23 : zeroA Tryd.prog 23 = some [.int .i64 0, .int .i64 0, .snil] := by kernel_rfl
@[go_sem] theorem ei_23 : einfo Tryd.prog 23 = some (3, 40, 3) := by kernel_rfl
@[go_sem] theorem zv_23 : zeroV Tryd.prog 23 = some (.agg [.int .i64 0, .int .i64 0, .snil]) := by kernel_rfl
@[go_sem] theorem fo_23_0 : fieldOff Tryd.prog 23 0 = some 0 := by kernel_rfl
@[go_sem] theorem fo_23_1 : fieldOff Tryd.prog 23 1 = some 1 := by kernel_rfl
@[go_sem] theorem fo_23_2 : fieldOff Tryd.prog 23 2 = some 2 := by kernel_rfl
@[go_sem] theorem ag_24 : aggT Tryd.prog 24 = some true := by kernel_rfl
@[go_sem] theorem sz_24 : sizeT Tryd.prog 24 = some 3 := by kernel_rfl
@[go_sem] theorem un_24 : Tryd.prog.underlying 24 = some (.struct #[{ name := "Cols", type := 3, offset := 0, embedded := false, tag := "", pkgPath := "", byteOffset := 0 }, { name := "Rows", type := 3, offset := 1, embedded := false, tag := "", pkgPath := "", byteOffset := 8 }, { name := "Items", type := 22, offset := 2, embedded := false, tag := "", pkgPath := "", byteOffset := 16 }]) := by kernel_rfl
@[go_sem] theorem ze_24 : zeroA Tryd.prog 24 = some [.int .i64 0, .int .i64 0, .snil] := by kernel_rfl
@[go_sem] theorem ei_24 : einfo Tryd.prog 24 = some (3, 40, 3) := by kernel_rfl
@[go_sem] theorem zv_24 : zeroV Tryd.prog 24 = some (.agg [.int .i64 0, .int .i64 0, .snil]) := by kernel_rfl
@[go_sem] theorem fo_24_0 : fieldOff Tryd.prog 24 0 = some 0 := by kernel_rfl
@[go_sem] theorem fo_24_1 : fieldOff Tryd.prog 24 1 = some 1 := by kernel_rfl
@[go_sem] theorem fo_24_2 : fieldOff Tryd.prog 24 2 = some 2 := by kernel_rfl
@[go_sem] theorem ag_25 : aggT Tryd.prog 25 = some false := by kernel_rfl
@[go_sem] theorem sz_25 : sizeT Tryd.prog 25 = some 1 := by kernel_rfl
@[go_sem] theorem un_25 : Tryd.prog.underlying 25 = some (.slice 59) := by kernel_rfl
@[go_sem] theorem ze_25 : zeroA Tryd.prog 25 = some [.snil] := by kernel_rfl
@[go_sem] theorem ei_25 : einfo Tryd.prog 25 = some (1, 24, 1) := by kernel_rfl
@[go_sem] theorem zv_25 : zeroV Tryd.prog 25 = some (.snil) := by kernel_rfl
@[go_sem] theorem ag_26 : aggT Tryd.prog 26 = some true := by kernel_rfl
@[go_sem] theorem sz_26 : sizeT Tryd.prog 26 = some 3 := by kernel_rfl
@[go_sem] theorem un_26 : Tryd.prog.underlying 26 = some (.struct #[{ name := "Cols", type := 5, offset := 0, embedded := false, tag := "", pkgPath := "", byteOffset := 0 }, { name := "Rows", type := 5, offset := 1, embedded := false, tag := "", pkgPath := "", byteOffset := 1 }, { name := "Items", type := 25, offset := 2, embedded := false, tag := "", pkgPath := "", byteOffset := 8 }]) := by kernel_rfl
@[go_sem] theorem ze_26 : zeroA Tryd.prog 26 = some [.int .u8 0, .int .u8 0, .snil] := by kernel_rfl
@[go_sem] theorem ei_26 : einfo Tryd.prog 26 = some (3, 32, 3) := by kernel_rfl
@[go_sem] theorem zv_26 : zeroV Tryd.prog 26 = some (.agg [.int .u8 0, .int .u8 0, .snil]) := by kernel_rfl
@[go_sem] theorem fo_26_0 : fieldOff Tryd.prog 26 0 = some 0 := by kernel_rfl
@[go_sem] theorem fo_26_1 : fieldOff Tryd.prog 26 1 = some 1 := by kernel_rfl
@[go_sem] theorem fo_26_2 : fieldOff Tryd.prog 26 2 = some 2 := by kernel_rfl
@[go_sem] theorem ag_27 : aggT Tryd.prog 27 = some true := by kernel_rfl
@[go_sem] theorem sz_27 : sizeT Tryd.prog 27 = some 3 := by kernel_rfl
@[go_sem] theorem un_27 : Tryd.prog.underlying 27 = some (.struct #[{ name := "Cols", type := 5, offset := 0, embedded := false, tag := "", pkgPath := "", byteOffset := 0 }, { name := "Rows", type := 5, offset := 1, embedded := false, tag := "", pkgPath := "", byteOffset := 1 }, { name := "Items", type := 25, offset := 2, embedded := false, tag := "", pkgPath := "", byteOffset := 8 }]) := by kernel_rfl
@[go_sem] theorem ze_27 : zeroA Tryd.prog 27 = some [.int .u8 0, .int .u8 0, .snil] := by kernel_rfl
@[go_sem] theorem ei_27 : einfo Tryd.prog 27 = some (3, 32, 3) := by kernel_rfl
@[go_sem] theorem zv_27 : zeroV Tryd.prog 27 = some (.agg [.int .u8 0, .int .u8 0, .snil]) := by kernel_rfl
@[go_sem] theorem fo_27_0 : fieldOff Tryd.prog 27 0 = some 0 := by kernel_rfl
@[go_sem] theorem fo_27_1 : fieldOff Tryd.prog 27 1 = some 1 := by kernel_rfl
@[go_sem] theorem fo_27_2 : fieldOff Tryd.prog 27 2 = some 2 := by kernel_rfl
@[go_sem] theorem ag_28 : aggT Tryd.prog 28 = some true := by kernel_rfl
@[go_sem] theorem sz_28 : sizeT Tryd.prog 28 = some 2 := by kernel_rfl
@[go_sem] theorem un_28 : Tryd.prog.underlying 28 = some (.array 2 3) := by kernel_rfl
@[go_sem] theorem ze_28 : zeroA Tryd.prog 28 = some [.int .i64 0, .int .i64 0] := by kernel_rfl
@[go_sem] theorem ei_28 : einfo Tryd.prog 28 = some (2, 16, 2) := by kernel_rfl
@[go_sem] theorem zv_28 : zeroV Tryd.prog 28 = some (.agg [.int .i64 0, .int .i64 0]) := by kernel_rfl
@[go_sem] theorem ag_29 : aggT Tryd.prog 29 = some false := by kernel_rfl
@[go_sem] theorem sz_29 : sizeT Tryd.prog 29 = some 1 := by kernel_rfl
@[go_sem] theorem un_29 : Tryd.prog.underlying 29 = some (.func #[24] #[24] false) := by kernel_rfl
@[go_sem] theorem ze_29 : zeroA Tryd.prog 29 = some [.fnil] := by kernel_rfl
@[go_sem] theorem ei_29 : einfo Tryd.prog 29 = some (1, 8, 1) := by kernel_rfl
@[go_sem] theorem zv_29 : zeroV Tryd.prog 29 = some (.fnil) := by kernel_rfl
@[go_sem] theorem ag_30 : aggT Tryd.prog 30 = some false := by kernel_rfl
@[go_sem] theorem sz_30 : sizeT Tryd.prog 30 = some 1 := by kernel_rfl
@[go_sem] theorem un_30 : Tryd.prog.underlying 30 = some (.func #[] #[24] false) := by kernel_rfl
@[go_sem] theorem ze_30 : zeroA Tryd.prog 30 = some [.fnil] := by kernel_rfl
@[go_sem] theorem ei_30 : einfo Tryd.prog 30 = some (1, 8, 1) := by kernel_rfl
@[go_sem] theorem zv_30 : zeroV Tryd.prog 30 = some (.fnil) := by kernel_rfl
@[go_sem] theorem ag_31 : aggT Tryd.prog 31 = some true := by kernel_rfl
@[go_sem] theorem sz_31 : sizeT Tryd.prog 31 = some 6 := by kernel_rfl
@[go_sem] theorem un_31 : Tryd.prog.underlying 31 = some (.array 2 24) := by kernel_rfl
@[go_sem] theorem ze_31 : zeroA Tryd.prog 31 = some [.int .i64 0, .int .i64 0, .snil, .int .i64 0, .int .i64 0, .snil] := by kernel_rfl
@[go_sem] theorem ei_31 : einfo Tryd.prog 31 = some (6, 80, 6) := by kernel_rfl
@[go_sem] theorem zv_31 : zeroV Tryd.prog 31 = some (.agg [.int .i64 0, .int .i64 0, .snil, .int .i64 0, .int .i64 0, .snil]) := by kernel_rfl
@[go_sem] theorem ag_32 : aggT Tryd.prog 32 = some false := by kernel_rfl
@[go_sem] theorem sz_32 : sizeT Tryd.prog 32 = some 1 := by kernel_rfl
@[go_sem] theorem un_32 : Tryd.prog.underlying 32 = some (.int .u64) := by kernel_rfl
@[go_sem] theorem ze_32 : zeroA Tryd.prog 32 = some [.int .u64 0] := by kernel_rfl
@[go_sem] theorem ei_32 : einfo Tryd.prog 32 = some (1, 8, 1) := by kernel_rfl
@[go_sem] theorem zv_32 : zeroV Tryd.prog 32 = some (.int .u64 0) := by kernel_rfl
@[go_sem] theorem ag_33 : aggT Tryd.prog 33 = some true := by kernel_rfl
@[go_sem] theorem sz_33 : sizeT Tryd.prog 33 = some 6 := by kernel_rfl
@[go_sem] theorem un_33 : Tryd.prog.underlying 33 = some (.array 3 28) := by kernel_rfl
@[go_sem] theorem ze_33 : zeroA Tryd.prog 33 = some [.int .i64 0, .int .i64 0, .int .i64 0, .int .i64 0, .int .i64 0, .int .i64 0] := by kernel_rfl
@[go_sem] theorem ei_33 : einfo Tryd.prog 33 = some (6, 48, 6) := by kernel_rfl
@[go_sem] theorem zv_33 : zeroV Tryd.prog 33 = some (.agg [.int .i64 0, .int .i64 0, .int .i64 0, .int .i64 0, .int .i64 0, .int .i64 0]) := by kernel_rfl
@[go_sem] theorem ag_34 : aggT Tryd.prog 34 = some false := by kernel_rfl
@[go_sem] theorem sz_34 : sizeT Tryd.prog 34 = some 1 := by kernel_rfl
@[go_sem] theorem un_34 : Tryd.prog.underlying 34 = some (.int .i64) := by kernel_rfl
@[go_sem] theorem ze_34 : zeroA Tryd.prog 34 = some [.int .i64 0] := by kernel_rfl
@[go_sem] theorem ei_34 : einfo Tryd.prog 34 = some (1, 8, 1) := by kernel_rfl
@[go_sem] theorem zv_34 : zeroV Tryd.prog 34 = some (.int .i64 0) := by kernel_rfl
@[go_sem] theorem ag_36 : aggT Tryd.prog 36 = some false := by kernel_rfl
@[go_sem] theorem sz_36 : sizeT Tryd.prog 36 = some 1 := by kernel_rfl
@[go_sem] theorem un_36 : Tryd.prog.underlying 36 = some (.func #[24, 3, 3] #[24, 34] false) := by kernel_rfl
@[go_sem] theorem ze_36 : zeroA Tryd.prog 36 = some [.fnil] := by kernel_rfl
@[go_sem] theorem ei_36 : einfo Tryd.prog 36 = some (1, 8, 1) := by kernel_rfl
@[go_sem] theorem zv_36 : zeroV Tryd.prog 36 = some (.fnil) := by kernel_rfl
@[go_sem] theorem ag_37 : aggT Tryd.prog 37 = some false := by kernel_rfl
@[go_sem] theorem sz_37 : sizeT Tryd.prog 37 = some 1 := by kernel_rfl
@[go_sem] theorem un_37 : Tryd.prog.underlying 37 = some (.func #[24, 3] #[24, 34] false) := by kernel_rfl
@[go_sem] theorem ze_37 : zeroA Tryd.prog 37 = some [.fnil] := by kernel_rfl
@[go_sem] theorem ei_37 : einfo Tryd.prog 37 = some (1, 8, 1) := by kernel_rfl
@[go_sem] theorem zv_37 : zeroV Tryd.prog 37 = some (.fnil) := by kernel_rfl
@[go_sem] theorem ag_38 : aggT Tryd.prog 38 = some false := by kernel_rfl
@[go_sem] theorem sz_38 : sizeT Tryd.prog 38 = some 1 := by kernel_rfl
@[go_sem] theorem un_38 : Tryd.prog.underlying 38 = some (.func #[24, 34, 24, 34] #[4] false) := by kernel_rfl
@[go_sem] theorem ze_38 : zeroA Tryd.prog 38 = some [.fnil] := by kernel_rfl
@[go_sem] theorem ei_38 : einfo Tryd.prog 38 = some (1, 8, 1) := by kernel_rfl
@[go_sem] theorem zv_38 : zeroV Tryd.prog 38 = some (.fnil) := by kernel_rfl
@[go_sem] theorem ag_39 : aggT Tryd.prog 39 = some false := by kernel_rfl
@[go_sem] theorem sz_39 : sizeT Tryd.prog 39 = some 1 := by kernel_rfl
@[go_sem] theorem un_39 : Tryd.prog.underlying 39 = some (.func #[] #[4] false) := by kernel_rfl
@[go_sem] theorem ze_39 : zeroA Tryd.prog 39 = some [.fnil] := by kernel_rfl
@[go_sem] theorem ei_39 : einfo Tryd.prog 39 = some (1, 8, 1) := by kernel_rfl
@[go_sem] theorem zv_39 : zeroV Tryd.prog 39 = some (.fnil) := by kernel_rfl
@[go_sem] theorem ag_40 : aggT Tryd.prog 40 = some false := by kernel_rfl
@[go_sem] theorem sz_40 : sizeT Tryd.prog 40 = some 1 := by kernel_rfl
@[go_sem] theorem un_40 : Tryd.prog.underlying 40 = some (.func #[24, 27, 28] #[4] false) := by kernel_rfl
@[go_sem] theorem ze_40 : zeroA Tryd.prog 40 = some [.fnil] := by kernel_rfl
@[go_sem] theorem ei_40 : einfo Tryd.prog 40 = some (1, 8, 1) := by kernel_rfl
@[go_sem] theorem zv_40 : zeroV Tryd.prog 40 = some (.fnil) := by kernel_rfl
@[go_sem] theorem ag_41 : aggT Tryd.prog 41 = some false := by kernel_rfl
@[go_sem] theorem sz_41 : sizeT Tryd.prog 41 = some 1 := by kernel_rfl
@[go_sem] theorem un_41 : Tryd.prog.underlying 41 = some (.int .u16) := by kernel_rfl
@[go_sem] theorem ze_41 : zeroA Tryd.prog 41 = some [.int .u16 0] := by kernel_rfl
@[go_sem] theorem ei_41 : einfo Tryd.prog 41 = some (1, 2, 1) := by kernel_rfl
@[go_sem] theorem zv_41 : zeroV Tryd.prog 41 = some (.int .u16 0) := by kernel_rfl
@[go_sem] theorem ag_42 : aggT Tryd.prog 42 = some false := by kernel_rfl
@[go_sem] theorem sz_42 : sizeT Tryd.prog 42 = some 1 := by kernel_rfl
@[go_sem] theorem un_42 : Tryd.prog.underlying 42 = some (.int .u32) := by kernel_rfl
@[go_sem] theorem ze_42 : zeroA Tryd.prog 42 = some [.int .u32 0] := by kernel_rfl
@[go_sem] theorem ei_42 : einfo Tryd.prog 42 = some (1, 4, 1) := by kernel_rfl
@[go_sem] theorem zv_42 : zeroV Tryd.prog 42 = some (.int .u32 0) := by kernel_rfl
@[go_sem] theorem ag_43 : aggT Tryd.prog 43 = some false := by kernel_rfl
@[go_sem] theorem sz_43 : sizeT Tryd.prog 43 = some 1 := by kernel_rfl
@[go_sem] theorem un_43 : Tryd.prog.underlying 43 = some (.func #[24, 24] #[4] false) := by kernel_rfl
@[go_sem] theorem ze_43 : zeroA Tryd.prog 43 = some [.fnil] := by kernel_rfl
@[go_sem] theorem ei_43 : einfo Tryd.prog 43 = some (1, 8, 1) := by kernel_rfl
@[go_sem] theorem zv_43 : zeroV Tryd.prog 43 = some (.fnil) := by kernel_rfl
@[go_sem] theorem ag_45 : aggT Tryd.prog 45 = some false := by kernel_rfl
@[go_sem] theorem sz_45 : sizeT Tryd.prog 45 = some 1 := by kernel_rfl
@[go_sem] theorem un_45 : Tryd.prog.underlying 45 = some (.func #[24] #[3, 34] false) := by kernel_rfl
@[go_sem] theorem ze_45 : zeroA Tryd.prog 45 = some [.fnil] := by kernel_rfl
@[go_sem] theorem ei_45 : einfo Tryd.prog 45 = some (1, 8, 1) := by kernel_rfl
@[go_sem] theorem zv_45 : zeroV Tryd.prog 45 = some (.fnil) := by kernel_rfl
@[go_sem] theorem ag_46 : aggT Tryd.prog 46 = some true := by kernel_rfl
@[go_sem] theorem sz_46 : sizeT Tryd.prog 46 = some 5 := by kernel_rfl
@[go_sem] theorem un_46 : Tryd.prog.underlying 46 = some (.struct #[{ name := "Wait", type := 3, offset := 0, embedded := false, tag := "", pkgPath := "", byteOffset := 0 }, { name := "Kind", type := 3, offset := 1, embedded := false, tag := "", pkgPath := "", byteOffset := 8 }, { name := "Cols", type := 3, offset := 2, embedded := false, tag := "", pkgPath := "", byteOffset := 16 }, { name := "Rows", type := 3, offset := 3, embedded := false, tag := "", pkgPath := "", byteOffset := 24 }, { name := "Text", type := 9, offset := 4, embedded := false, tag := "", pkgPath := "", byteOffset := 32 }]) := by kernel_rfl
@[go_sem] theorem ze_46 : zeroA Tryd.prog 46 = some [.int .i64 0, .int .i64 0, .int .i64 0, .int .i64 0, .str []] := by kernel_rfl
@[go_sem] theorem ei_46 : einfo Tryd.prog 46 = some (5, 48, 5) := by kernel_rfl
@[go_sem] theorem zv_46 : zeroV Tryd.prog 46 = some (.agg [.int .i64 0, .int .i64 0, .int .i64 0, .int .i64 0, .str []]) := by kernel_rfl
@[go_sem] theorem eg_46 : Tryd.prog.eqGuardType Tryd.prog.depth 46 = false := by kernel_rfl
@[go_sem] theorem sh_46 : Tryd.prog.stoodInHeld 46 = false := by kernel_rfl
@[go_sem] theorem fo_46_0 : fieldOff Tryd.prog 46 0 = some 0 := by kernel_rfl
@[go_sem] theorem fo_46_1 : fieldOff Tryd.prog 46 1 = some 1 := by kernel_rfl
@[go_sem] theorem fo_46_2 : fieldOff Tryd.prog 46 2 = some 2 := by kernel_rfl
@[go_sem] theorem fo_46_3 : fieldOff Tryd.prog 46 3 = some 3 := by kernel_rfl
@[go_sem] theorem fo_46_4 : fieldOff Tryd.prog 46 4 = some 4 := by kernel_rfl
@[go_sem] theorem ag_47 : aggT Tryd.prog 47 = some true := by kernel_rfl
@[go_sem] theorem sz_47 : sizeT Tryd.prog 47 = some 5 := by kernel_rfl
@[go_sem] theorem un_47 : Tryd.prog.underlying 47 = some (.struct #[{ name := "Wait", type := 3, offset := 0, embedded := false, tag := "", pkgPath := "", byteOffset := 0 }, { name := "Kind", type := 3, offset := 1, embedded := false, tag := "", pkgPath := "", byteOffset := 8 }, { name := "Cols", type := 3, offset := 2, embedded := false, tag := "", pkgPath := "", byteOffset := 16 }, { name := "Rows", type := 3, offset := 3, embedded := false, tag := "", pkgPath := "", byteOffset := 24 }, { name := "Text", type := 9, offset := 4, embedded := false, tag := "", pkgPath := "", byteOffset := 32 }]) := by kernel_rfl
@[go_sem] theorem ze_47 : zeroA Tryd.prog 47 = some [.int .i64 0, .int .i64 0, .int .i64 0, .int .i64 0, .str []] := by kernel_rfl
@[go_sem] theorem ei_47 : einfo Tryd.prog 47 = some (5, 48, 5) := by kernel_rfl
@[go_sem] theorem zv_47 : zeroV Tryd.prog 47 = some (.agg [.int .i64 0, .int .i64 0, .int .i64 0, .int .i64 0, .str []]) := by kernel_rfl
@[go_sem] theorem eg_47 : Tryd.prog.eqGuardType Tryd.prog.depth 47 = false := by kernel_rfl
@[go_sem] theorem sh_47 : Tryd.prog.stoodInHeld 47 = false := by kernel_rfl
@[go_sem] theorem fo_47_0 : fieldOff Tryd.prog 47 0 = some 0 := by kernel_rfl
@[go_sem] theorem fo_47_1 : fieldOff Tryd.prog 47 1 = some 1 := by kernel_rfl
@[go_sem] theorem fo_47_2 : fieldOff Tryd.prog 47 2 = some 2 := by kernel_rfl
@[go_sem] theorem fo_47_3 : fieldOff Tryd.prog 47 3 = some 3 := by kernel_rfl
@[go_sem] theorem fo_47_4 : fieldOff Tryd.prog 47 4 = some 4 := by kernel_rfl
@[go_sem] theorem ag_48 : aggT Tryd.prog 48 = some false := by kernel_rfl
@[go_sem] theorem sz_48 : sizeT Tryd.prog 48 = some 1 := by kernel_rfl
@[go_sem] theorem un_48 : Tryd.prog.underlying 48 = some (.func #[27, 41, 41, 42] #[4] false) := by kernel_rfl
@[go_sem] theorem ze_48 : zeroA Tryd.prog 48 = some [.fnil] := by kernel_rfl
@[go_sem] theorem ei_48 : einfo Tryd.prog 48 = some (1, 8, 1) := by kernel_rfl
@[go_sem] theorem zv_48 : zeroV Tryd.prog 48 = some (.fnil) := by kernel_rfl
@[go_sem] theorem ag_49 : aggT Tryd.prog 49 = some false := by kernel_rfl
@[go_sem] theorem sz_49 : sizeT Tryd.prog 49 = some 1 := by kernel_rfl
@[go_sem] theorem un_49 : Tryd.prog.underlying 49 = some (.int .u64) := by kernel_rfl
@[go_sem] theorem ze_49 : zeroA Tryd.prog 49 = some [.int .u64 0] := by kernel_rfl
@[go_sem] theorem ei_49 : einfo Tryd.prog 49 = some (1, 8, 1) := by kernel_rfl
@[go_sem] theorem zv_49 : zeroV Tryd.prog 49 = some (.int .u64 0) := by kernel_rfl
@[go_sem] theorem ag_50 : aggT Tryd.prog 50 = some false := by kernel_rfl
@[go_sem] theorem sz_50 : sizeT Tryd.prog 50 = some 1 := by kernel_rfl
@[go_sem] theorem un_50 : Tryd.prog.underlying 50 = some (.func #[24] #[34] false) := by kernel_rfl
@[go_sem] theorem ze_50 : zeroA Tryd.prog 50 = some [.fnil] := by kernel_rfl
@[go_sem] theorem ei_50 : einfo Tryd.prog 50 = some (1, 8, 1) := by kernel_rfl
@[go_sem] theorem zv_50 : zeroV Tryd.prog 50 = some (.fnil) := by kernel_rfl
@[go_sem] theorem ag_51 : aggT Tryd.prog 51 = some false := by kernel_rfl
@[go_sem] theorem sz_51 : sizeT Tryd.prog 51 = some 1 := by kernel_rfl
@[go_sem] theorem un_51 : Tryd.prog.underlying 51 = some (.func #[24, 24, 3] #[24, 34] false) := by kernel_rfl
@[go_sem] theorem ze_51 : zeroA Tryd.prog 51 = some [.fnil] := by kernel_rfl
@[go_sem] theorem ei_51 : einfo Tryd.prog 51 = some (1, 8, 1) := by kernel_rfl
@[go_sem] theorem zv_51 : zeroV Tryd.prog 51 = some (.fnil) := by kernel_rfl
@[go_sem] theorem ag_52 : aggT Tryd.prog 52 = some false := by kernel_rfl
@[go_sem] theorem sz_52 : sizeT Tryd.prog 52 = some 1 := by kernel_rfl
@[go_sem] theorem un_52 : Tryd.prog.underlying 52 = some (.func #[27, 42] #[4] false) := by kernel_rfl
@[go_sem] theorem ze_52 : zeroA Tryd.prog 52 = some [.fnil] := by kernel_rfl
@[go_sem] theorem ei_52 : einfo Tryd.prog 52 = some (1, 8, 1) := by kernel_rfl
@[go_sem] theorem zv_52 : zeroV Tryd.prog 52 = some (.fnil) := by kernel_rfl
@[go_sem] theorem ag_54 : aggT Tryd.prog 54 = some false := by kernel_rfl
@[go_sem] theorem sz_54 : sizeT Tryd.prog 54 = some 1 := by kernel_rfl
@[go_sem] theorem un_54 : Tryd.prog.underlying 54 = some (.func #[24] #[9, 34] false) := by kernel_rfl
@[go_sem] theorem ze_54 : zeroA Tryd.prog 54 = some [.fnil] := by kernel_rfl
@[go_sem] theorem ei_54 : einfo Tryd.prog 54 = some (1, 8, 1) := by kernel_rfl
@[go_sem] theorem zv_54 : zeroV Tryd.prog 54 = some (.fnil) := by kernel_rfl
@[go_sem] theorem ag_55 : aggT Tryd.prog 55 = some false := by kernel_rfl
@[go_sem] theorem sz_55 : sizeT Tryd.prog 55 = some 1 := by kernel_rfl
@[go_sem] theorem un_55 : Tryd.prog.underlying 55 = some (.func #[9] #[24, 34] false) := by kernel_rfl
@[go_sem] theorem ze_55 : zeroA Tryd.prog 55 = some [.fnil] := by kernel_rfl
@[go_sem] theorem ei_55 : einfo Tryd.prog 55 = some (1, 8, 1) := by kernel_rfl
@[go_sem] theorem zv_55 : zeroV Tryd.prog 55 = some (.fnil) := by kernel_rfl
@[go_sem] theorem ag_56 : aggT Tryd.prog 56 = some false := by kernel_rfl
@[go_sem] theorem sz_56 : sizeT Tryd.prog 56 = some 1 := by kernel_rfl
@[go_sem] theorem un_56 : Tryd.prog.underlying 56 = some (.func #[9, 9] #[3] false) := by kernel_rfl
@[go_sem] theorem ze_56 : zeroA Tryd.prog 56 = some [.fnil] := by kernel_rfl
@[go_sem] theorem ei_56 : einfo Tryd.prog 56 = some (1, 8, 1) := by kernel_rfl
@[go_sem] theorem zv_56 : zeroV Tryd.prog 56 = some (.fnil) := by kernel_rfl
@[go_sem] theorem ag_57 : aggT Tryd.prog 57 = some false := by kernel_rfl
@[go_sem] theorem sz_57 : sizeT Tryd.prog 57 = some 1 := by kernel_rfl
@[go_sem] theorem un_57 : Tryd.prog.underlying 57 = some (.func #[27, 27] #[4] false) := by kernel_rfl
@[go_sem] theorem ze_57 : zeroA Tryd.prog 57 = some [.fnil] := by kernel_rfl
@[go_sem] theorem ei_57 : einfo Tryd.prog 57 = some (1, 8, 1) := by kernel_rfl
@[go_sem] theorem zv_57 : zeroV Tryd.prog 57 = some (.fnil) := by kernel_rfl
@[go_sem] theorem ag_58 : aggT Tryd.prog 58 = some true := by kernel_rfl
@[go_sem] theorem sz_58 : sizeT Tryd.prog 58 = some 5 := by kernel_rfl
@[go_sem] theorem un_58 : Tryd.prog.underlying 58 = some (.struct #[{ name := "Wait", type := 42, offset := 0, embedded := false, tag := "", pkgPath := "", byteOffset := 0 }, { name := "Kind", type := 5, offset := 1, embedded := false, tag := "", pkgPath := "", byteOffset := 4 }, { name := "Cols", type := 5, offset := 2, embedded := false, tag := "", pkgPath := "", byteOffset := 5 }, { name := "Rows", type := 5, offset := 3, embedded := false, tag := "", pkgPath := "", byteOffset := 6 }, { name := "Text", type := 9, offset := 4, embedded := false, tag := "", pkgPath := "", byteOffset := 8 }]) := by kernel_rfl
@[go_sem] theorem ze_58 : zeroA Tryd.prog 58 = some [.int .u32 0, .int .u8 0, .int .u8 0, .int .u8 0, .str []] := by kernel_rfl
@[go_sem] theorem ei_58 : einfo Tryd.prog 58 = some (5, 24, 5) := by kernel_rfl
@[go_sem] theorem zv_58 : zeroV Tryd.prog 58 = some (.agg [.int .u32 0, .int .u8 0, .int .u8 0, .int .u8 0, .str []]) := by kernel_rfl
@[go_sem] theorem eg_58 : Tryd.prog.eqGuardType Tryd.prog.depth 58 = false := by kernel_rfl
@[go_sem] theorem sh_58 : Tryd.prog.stoodInHeld 58 = false := by kernel_rfl
@[go_sem] theorem fo_58_0 : fieldOff Tryd.prog 58 0 = some 0 := by kernel_rfl
@[go_sem] theorem fo_58_1 : fieldOff Tryd.prog 58 1 = some 1 := by kernel_rfl
@[go_sem] theorem fo_58_2 : fieldOff Tryd.prog 58 2 = some 2 := by kernel_rfl
@[go_sem] theorem fo_58_3 : fieldOff Tryd.prog 58 3 = some 3 := by kernel_rfl
@[go_sem] theorem fo_58_4 : fieldOff Tryd.prog 58 4 = some 4 := by kernel_rfl
@[go_sem] theorem ag_59 : aggT Tryd.prog 59 = some true := by kernel_rfl
@[go_sem] theorem sz_59 : sizeT Tryd.prog 59 = some 5 := by kernel_rfl
@[go_sem] theorem un_59 : Tryd.prog.underlying 59 = some (.struct #[{ name := "Wait", type := 42, offset := 0, embedded := false, tag := "", pkgPath := "", byteOffset := 0 }, { name := "Kind", type := 5, offset := 1, embedded := false, tag := "", pkgPath := "", byteOffset := 4 }, { name := "Cols", type := 5, offset := 2, embedded := false, tag := "", pkgPath := "", byteOffset := 5 }, { name := "Rows", type := 5, offset := 3, embedded := false, tag := "", pkgPath := "", byteOffset := 6 }, { name := "Text", type := 9, offset := 4, embedded := false, tag := "", pkgPath := "", byteOffset := 8 }]) := by kernel_rfl
@[go_sem] theorem ze_59 : zeroA Tryd.prog 59 = some [.int .u32 0, .int .u8 0, .int .u8 0, .int .u8 0, .str []] := by kernel_rfl
@[go_sem] theorem ei_59 : einfo Tryd.prog 59 = some (5, 24, 5) := by kernel_rfl
@[go_sem] theorem zv_59 : zeroV Tryd.prog 59 = some (.agg [.int .u32 0, .int .u8 0, .int .u8 0, .int .u8 0, .str []]) := by kernel_rfl
@[go_sem] theorem eg_59 : Tryd.prog.eqGuardType Tryd.prog.depth 59 = false := by kernel_rfl
@[go_sem] theorem sh_59 : Tryd.prog.stoodInHeld 59 = false := by kernel_rfl
@[go_sem] theorem fo_59_0 : fieldOff Tryd.prog 59 0 = some 0 := by kernel_rfl
@[go_sem] theorem fo_59_1 : fieldOff Tryd.prog 59 1 = some 1 := by kernel_rfl
@[go_sem] theorem fo_59_2 : fieldOff Tryd.prog 59 2 = some 2 := by kernel_rfl
@[go_sem] theorem fo_59_3 : fieldOff Tryd.prog 59 3 = some 3 := by kernel_rfl
@[go_sem] theorem fo_59_4 : fieldOff Tryd.prog 59 4 = some 4 := by kernel_rfl
@[go_sem] theorem ag_60 : aggT Tryd.prog 60 = some false := by kernel_rfl
@[go_sem] theorem sz_60 : sizeT Tryd.prog 60 = some 1 := by kernel_rfl
@[go_sem] theorem un_60 : Tryd.prog.underlying 60 = some (.func #[3, 3, 3] #[4] false) := by kernel_rfl
@[go_sem] theorem ze_60 : zeroA Tryd.prog 60 = some [.fnil] := by kernel_rfl
@[go_sem] theorem ei_60 : einfo Tryd.prog 60 = some (1, 8, 1) := by kernel_rfl
@[go_sem] theorem zv_60 : zeroV Tryd.prog 60 = some (.fnil) := by kernel_rfl
@[go_sem] theorem ag_61 : aggT Tryd.prog 61 = some false := by kernel_rfl
@[go_sem] theorem sz_61 : sizeT Tryd.prog 61 = some 1 := by kernel_rfl
@[go_sem] theorem un_61 : Tryd.prog.underlying 61 = some (.func #[24, 62] #[24] false) := by kernel_rfl
@[go_sem] theorem ze_61 : zeroA Tryd.prog 61 = some [.fnil] := by kernel_rfl
@[go_sem] theorem ei_61 : einfo Tryd.prog 61 = some (1, 8, 1) := by kernel_rfl
@[go_sem] theorem zv_61 : zeroV Tryd.prog 61 = some (.fnil) := by kernel_rfl
@[go_sem] theorem ag_62 : aggT Tryd.prog 62 = some false := by kernel_rfl
@[go_sem] theorem sz_62 : sizeT Tryd.prog 62 = some 1 := by kernel_rfl
@[go_sem] theorem un_62 : Tryd.prog.underlying 62 = some (.func #[3, 3] #[3] false) := by kernel_rfl
@[go_sem] theorem ze_62 : zeroA Tryd.prog 62 = some [.fnil] := by kernel_rfl
@[go_sem] theorem ei_62 : einfo Tryd.prog 62 = some (1, 8, 1) := by kernel_rfl
@[go_sem] theorem zv_62 : zeroV Tryd.prog 62 = some (.fnil) := by kernel_rfl
@[go_sem] theorem ag_64 : aggT Tryd.prog 64 = some false := by kernel_rfl
@[go_sem] theorem sz_64 : sizeT Tryd.prog 64 = some 1 := by kernel_rfl
@[go_sem] theorem un_64 : Tryd.prog.underlying 64 = some (.func #[] #[24, 9] false) := by kernel_rfl
@[go_sem] theorem ze_64 : zeroA Tryd.prog 64 = some [.fnil] := by kernel_rfl
@[go_sem] theorem ei_64 : einfo Tryd.prog 64 = some (1, 8, 1) := by kernel_rfl
@[go_sem] theorem zv_64 : zeroV Tryd.prog 64 = some (.fnil) := by kernel_rfl
@[go_sem] theorem ag_65 : aggT Tryd.prog 65 = some false := by kernel_rfl
@[go_sem] theorem sz_65 : sizeT Tryd.prog 65 = some 1 := by kernel_rfl
@[go_sem] theorem un_65 : Tryd.prog.underlying 65 = some (.func #[24, 96] #[4] true) := by kernel_rfl
@[go_sem] theorem ze_65 : zeroA Tryd.prog 65 = some [.fnil] := by kernel_rfl
@[go_sem] theorem ei_65 : einfo Tryd.prog 65 = some (1, 8, 1) := by kernel_rfl
@[go_sem] theorem zv_65 : zeroV Tryd.prog 65 = some (.fnil) := by kernel_rfl
@[go_sem] theorem ag_66 : aggT Tryd.prog 66 = some false := by kernel_rfl
@[go_sem] theorem sz_66 : sizeT Tryd.prog 66 = some 1 := by kernel_rfl
@[go_sem] theorem un_66 : Tryd.prog.underlying 66 = some (.func #[24, 3, 3] #[4] false) := by kernel_rfl
@[go_sem] theorem ze_66 : zeroA Tryd.prog 66 = some [.fnil] := by kernel_rfl
@[go_sem] theorem ei_66 : einfo Tryd.prog 66 = some (1, 8, 1) := by kernel_rfl
@[go_sem] theorem zv_66 : zeroV Tryd.prog 66 = some (.fnil) := by kernel_rfl
@[go_sem] theorem ag_67 : aggT Tryd.prog 67 = some false := by kernel_rfl
@[go_sem] theorem sz_67 : sizeT Tryd.prog 67 = some 1 := by kernel_rfl
@[go_sem] theorem un_67 : Tryd.prog.underlying 67 = some (.func #[98] #[] false) := by kernel_rfl
@[go_sem] theorem ze_67 : zeroA Tryd.prog 67 = some [.fnil] := by kernel_rfl
@[go_sem] theorem ei_67 : einfo Tryd.prog 67 = some (1, 8, 1) := by kernel_rfl
@[go_sem] theorem zv_67 : zeroV Tryd.prog 67 = some (.fnil) := by kernel_rfl
@[go_sem] theorem ag_68 : aggT Tryd.prog 68 = some false := by kernel_rfl
@[go_sem] theorem sz_68 : sizeT Tryd.prog 68 = some 1 := by kernel_rfl
@[go_sem] theorem un_68 : Tryd.prog.underlying 68 = some (.func #[98] #[] false) := by kernel_rfl
@[go_sem] theorem ze_68 : zeroA Tryd.prog 68 = some [.fnil] := by kernel_rfl
@[go_sem] theorem ei_68 : einfo Tryd.prog 68 = some (1, 8, 1) := by kernel_rfl
@[go_sem] theorem zv_68 : zeroV Tryd.prog 68 = some (.fnil) := by kernel_rfl
@[go_sem] theorem ag_69 : aggT Tryd.prog 69 = some false := by kernel_rfl
@[go_sem] theorem sz_69 : sizeT Tryd.prog 69 = some 1 := by kernel_rfl
@[go_sem] theorem un_69 : Tryd.prog.underlying 69 = some (.func #[24] #[68] false) := by kernel_rfl
@[go_sem] theorem ze_69 : zeroA Tryd.prog 69 = some [.fnil] := by kernel_rfl
@[go_sem] theorem ei_69 : einfo Tryd.prog 69 = some (1, 8, 1) := by kernel_rfl
@[go_sem] theorem zv_69 : zeroV Tryd.prog 69 = some (.fnil) := by kernel_rfl
@[go_sem] theorem ag_70 : aggT Tryd.prog 70 = some false := by kernel_rfl
@[go_sem] theorem sz_70 : sizeT Tryd.prog 70 = some 1 := by kernel_rfl
@[go_sem] theorem un_70 : Tryd.prog.underlying 70 = some (.func #[3, 3] #[4] false) := by kernel_rfl
@[go_sem] theorem ze_70 : zeroA Tryd.prog 70 = some [.fnil] := by kernel_rfl
@[go_sem] theorem ei_70 : einfo Tryd.prog 70 = some (1, 8, 1) := by kernel_rfl
@[go_sem] theorem zv_70 : zeroV Tryd.prog 70 = some (.fnil) := by kernel_rfl
@[go_sem] theorem ag_71 : aggT Tryd.prog 71 = some false := by kernel_rfl
@[go_sem] theorem sz_71 : sizeT Tryd.prog 71 = some 1 := by kernel_rfl
@[go_sem] theorem un_71 : Tryd.prog.underlying 71 = some (.func #[22, 72] #[4] false) := by kernel_rfl
@[go_sem] theorem ze_71 : zeroA Tryd.prog 71 = some [.fnil] := by kernel_rfl
@[go_sem] theorem ei_71 : einfo Tryd.prog 71 = some (1, 8, 1) := by kernel_rfl
@[go_sem] theorem zv_71 : zeroV Tryd.prog 71 = some (.fnil) := by kernel_rfl
@[go_sem] theorem ag_72 : aggT Tryd.prog 72 = some false := by kernel_rfl
@[go_sem] theorem sz_72 : sizeT Tryd.prog 72 = some 1 := by kernel_rfl
@[go_sem] theorem un_72 : Tryd.prog.underlying 72 = some (.func #[47] #[4] false) := by kernel_rfl
@[go_sem] theorem ze_72 : zeroA Tryd.prog 72 = some [.fnil] := by kernel_rfl
@[go_sem] theorem ei_72 : einfo Tryd.prog 72 = some (1, 8, 1) := by kernel_rfl
@[go_sem] theorem zv_72 : zeroV Tryd.prog 72 = some (.fnil) := by kernel_rfl
@[go_sem] theorem ag_73 : aggT Tryd.prog 73 = some false := by kernel_rfl
@[go_sem] theorem sz_73 : sizeT Tryd.prog 73 = some 1 := by kernel_rfl
@[go_sem] theorem un_73 : Tryd.prog.underlying 73 = some (.func #[99] #[22] true) := by kernel_rfl
@[go_sem] theorem ze_73 : zeroA Tryd.prog 73 = some [.fnil] := by kernel_rfl
@[go_sem] theorem ei_73 : einfo Tryd.prog 73 = some (1, 8, 1) := by kernel_rfl
@[go_sem] theorem zv_73 : zeroV Tryd.prog 73 = some (.fnil) := by kernel_rfl
@[go_sem] theorem ag_74 : aggT Tryd.prog 74 = some false := by kernel_rfl
@[go_sem] theorem sz_74 : sizeT Tryd.prog 74 = some 1 := by kernel_rfl
@[go_sem] theorem un_74 : Tryd.prog.underlying 74 = some (.func #[3] #[9] false) := by kernel_rfl
@[go_sem] theorem ze_74 : zeroA Tryd.prog 74 = some [.fnil] := by kernel_rfl
@[go_sem] theorem ei_74 : einfo Tryd.prog 74 = some (1, 8, 1) := by kernel_rfl
@[go_sem] theorem zv_74 : zeroV Tryd.prog 74 = some (.fnil) := by kernel_rfl
@[go_sem] theorem ag_75 : aggT Tryd.prog 75 = some false := by kernel_rfl
@[go_sem] theorem sz_75 : sizeT Tryd.prog 75 = some 1 := by kernel_rfl
@[go_sem] theorem un_75 : Tryd.prog.underlying 75 = some (.func #[3, 3] #[9] false) := by kernel_rfl
@[go_sem] theorem ze_75 : zeroA Tryd.prog 75 = some [.fnil] := by kernel_rfl
@[go_sem] theorem ei_75 : einfo Tryd.prog 75 = some (1, 8, 1) := by kernel_rfl
@[go_sem] theorem zv_75 : zeroV Tryd.prog 75 = some (.fnil) := by kernel_rfl
@[go_sem] theorem ag_76 : aggT Tryd.prog 76 = some false := by kernel_rfl
@[go_sem] theorem sz_76 : sizeT Tryd.prog 76 = some 1 := by kernel_rfl
@[go_sem] theorem un_76 : Tryd.prog.underlying 76 = some (.map 3 5) := by kernel_rfl
@[go_sem] theorem ze_76 : zeroA Tryd.prog 76 = some [.mnil] := by kernel_rfl
@[go_sem] theorem ei_76 : einfo Tryd.prog 76 = some (1, 8, 1) := by kernel_rfl
@[go_sem] theorem zv_76 : zeroV Tryd.prog 76 = some (.mnil) := by kernel_rfl
@[go_sem] theorem ag_77 : aggT Tryd.prog 77 = some false := by kernel_rfl
@[go_sem] theorem sz_77 : sizeT Tryd.prog 77 = some 1 := by kernel_rfl
@[go_sem] theorem un_77 : Tryd.prog.underlying 77 = some (.map 5 3) := by kernel_rfl
@[go_sem] theorem ze_77 : zeroA Tryd.prog 77 = some [.mnil] := by kernel_rfl
@[go_sem] theorem ei_77 : einfo Tryd.prog 77 = some (1, 8, 1) := by kernel_rfl
@[go_sem] theorem zv_77 : zeroV Tryd.prog 77 = some (.mnil) := by kernel_rfl
@[go_sem] theorem ag_78 : aggT Tryd.prog 78 = some false := by kernel_rfl
@[go_sem] theorem sz_78 : sizeT Tryd.prog 78 = some 1 := by kernel_rfl
@[go_sem] theorem un_78 : Tryd.prog.underlying 78 = some (.func #[] #[77] false) := by kernel_rfl
@[go_sem] theorem ze_78 : zeroA Tryd.prog 78 = some [.fnil] := by kernel_rfl
@[go_sem] theorem ei_78 : einfo Tryd.prog 78 = some (1, 8, 1) := by kernel_rfl
@[go_sem] theorem zv_78 : zeroV Tryd.prog 78 = some (.fnil) := by kernel_rfl
@[go_sem] theorem ag_79 : aggT Tryd.prog 79 = some false := by kernel_rfl
@[go_sem] theorem sz_79 : sizeT Tryd.prog 79 = some 1 := by kernel_rfl
@[go_sem] theorem un_79 : Tryd.prog.underlying 79 = some (.pointer 82) := by kernel_rfl
@[go_sem] theorem ze_79 : zeroA Tryd.prog 79 = some [.nilp] := by kernel_rfl
@[go_sem] theorem ei_79 : einfo Tryd.prog 79 = some (1, 8, 1) := by kernel_rfl
@[go_sem] theorem zv_79 : zeroV Tryd.prog 79 = some (.nilp) := by kernel_rfl
@[go_sem] theorem ag_80 : aggT Tryd.prog 80 = some false := by kernel_rfl
@[go_sem] theorem sz_80 : sizeT Tryd.prog 80 = some 1 := by kernel_rfl
@[go_sem] theorem un_80 : Tryd.prog.underlying 80 = some (.slice 5) := by kernel_rfl
@[go_sem] theorem ze_80 : zeroA Tryd.prog 80 = some [.snil] := by kernel_rfl
@[go_sem] theorem ei_80 : einfo Tryd.prog 80 = some (1, 24, 1) := by kernel_rfl
@[go_sem] theorem zv_80 : zeroV Tryd.prog 80 = some (.snil) := by kernel_rfl
@[go_sem] theorem ag_81 : aggT Tryd.prog 81 = some true := by kernel_rfl
@[go_sem] theorem sz_81 : sizeT Tryd.prog 81 = some 2 := by kernel_rfl
@[go_sem] theorem un_81 : Tryd.prog.underlying 81 = some (.struct #[{ name := "addr", type := 79, offset := 0, embedded := false, tag := "", pkgPath := "strings", byteOffset := 0 }, { name := "buf", type := 80, offset := 1, embedded := false, tag := "", pkgPath := "strings", byteOffset := 8 }]) := by kernel_rfl
@[go_sem] theorem ze_81 : zeroA Tryd.prog 81 = some [.nilp, .snil] := by kernel_rfl
@[go_sem] theorem ei_81 : einfo Tryd.prog 81 = some (2, 32, 2) := by kernel_rfl
@[go_sem] theorem zv_81 : zeroV Tryd.prog 81 = some (.agg [.nilp, .snil]) := by kernel_rfl
@[go_sem] theorem fo_81_0 : fieldOff Tryd.prog 81 0 = some 0 := by kernel_rfl
@[go_sem] theorem fo_81_1 : fieldOff Tryd.prog 81 1 = some 1 := by kernel_rfl
@[go_sem] theorem ag_82 : aggT Tryd.prog 82 = some true := by kernel_rfl
@[go_sem] theorem sz_82 : sizeT Tryd.prog 82 = some 2 := by kernel_rfl
@[go_sem] theorem un_82 : Tryd.prog.underlying 82 = some (.struct #[{ name := "addr", type := 79, offset := 0, embedded := false, tag := "", pkgPath := "strings", byteOffset := 0 }, { name := "buf", type := 80, offset := 1, embedded := false, tag := "", pkgPath := "strings", byteOffset := 8 }]) := by kernel_rfl
@[go_sem] theorem ze_82 : zeroA Tryd.prog 82 = some [.nilp, .snil] := by kernel_rfl
@[go_sem] theorem ei_82 : einfo Tryd.prog 82 = some (2, 32, 2) := by kernel_rfl
@[go_sem] theorem zv_82 : zeroV Tryd.prog 82 = some (.agg [.nilp, .snil]) := by kernel_rfl
@[go_sem] theorem fo_82_0 : fieldOff Tryd.prog 82 0 = some 0 := by kernel_rfl
@[go_sem] theorem fo_82_1 : fieldOff Tryd.prog 82 1 = some 1 := by kernel_rfl
@[go_sem] theorem ag_83 : aggT Tryd.prog 83 = some false := by kernel_rfl
@[go_sem] theorem sz_83 : sizeT Tryd.prog 83 = some 1 := by kernel_rfl
@[go_sem] theorem un_83 : Tryd.prog.underlying 83 = some (.interface #[("Error", 88)]) := by kernel_rfl
@[go_sem] theorem ze_83 : zeroA Tryd.prog 83 = some [.inil] := by kernel_rfl
@[go_sem] theorem ei_83 : einfo Tryd.prog 83 = some (1, 16, 1) := by kernel_rfl
@[go_sem] theorem zv_83 : zeroV Tryd.prog 83 = some (.inil) := by kernel_rfl
@[go_sem] theorem ag_84 : aggT Tryd.prog 84 = some false := by kernel_rfl
@[go_sem] theorem sz_84 : sizeT Tryd.prog 84 = some 1 := by kernel_rfl
@[go_sem] theorem un_84 : Tryd.prog.underlying 84 = some (.interface #[("Error", 88)]) := by kernel_rfl
@[go_sem] theorem ze_84 : zeroA Tryd.prog 84 = some [.inil] := by kernel_rfl
@[go_sem] theorem ei_84 : einfo Tryd.prog 84 = some (1, 16, 1) := by kernel_rfl
@[go_sem] theorem zv_84 : zeroV Tryd.prog 84 = some (.inil) := by kernel_rfl
@[go_sem] theorem ag_86 : aggT Tryd.prog 86 = some false := by kernel_rfl
@[go_sem] theorem sz_86 : sizeT Tryd.prog 86 = some 1 := by kernel_rfl
@[go_sem] theorem un_86 : Tryd.prog.underlying 86 = some (.func #[9] #[3, 84] false) := by kernel_rfl
@[go_sem] theorem ze_86 : zeroA Tryd.prog 86 = some [.fnil] := by kernel_rfl
@[go_sem] theorem ei_86 : einfo Tryd.prog 86 = some (1, 8, 1) := by kernel_rfl
@[go_sem] theorem zv_86 : zeroV Tryd.prog 86 = some (.fnil) := by kernel_rfl
@[go_sem] theorem ag_87 : aggT Tryd.prog 87 = some false := by kernel_rfl
@[go_sem] theorem sz_87 : sizeT Tryd.prog 87 = some 1 := by kernel_rfl
@[go_sem] theorem un_87 : Tryd.prog.underlying 87 = some (.func #[9] #[9] false) := by kernel_rfl
@[go_sem] theorem ze_87 : zeroA Tryd.prog 87 = some [.fnil] := by kernel_rfl
@[go_sem] theorem ei_87 : einfo Tryd.prog 87 = some (1, 8, 1) := by kernel_rfl
@[go_sem] theorem zv_87 : zeroV Tryd.prog 87 = some (.fnil) := by kernel_rfl
@[go_sem] theorem ag_88 : aggT Tryd.prog 88 = some false := by kernel_rfl
@[go_sem] theorem sz_88 : sizeT Tryd.prog 88 = some 1 := by kernel_rfl
@[go_sem] theorem un_88 : Tryd.prog.underlying 88 = some (.func #[] #[9] false) := by kernel_rfl
@[go_sem] theorem ze_88 : zeroA Tryd.prog 88 = some [.fnil] := by kernel_rfl
@[go_sem] theorem ei_88 : einfo Tryd.prog 88 = some (1, 8, 1) := by kernel_rfl
@[go_sem] theorem zv_88 : zeroV Tryd.prog 88 = some (.fnil) := by kernel_rfl
@[go_sem] theorem ag_90 : aggT Tryd.prog 90 = some false := by kernel_rfl
@[go_sem] theorem sz_90 : sizeT Tryd.prog 90 = some 1 := by kernel_rfl
@[go_sem] theorem un_90 : Tryd.prog.underlying 90 = some (.pointer 92) := by kernel_rfl
@[go_sem] theorem ze_90 : zeroA Tryd.prog 90 = some [.nilp] := by kernel_rfl
@[go_sem] theorem ei_90 : einfo Tryd.prog 90 = some (1, 8, 1) := by kernel_rfl
@[go_sem] theorem zv_90 : zeroV Tryd.prog 90 = some (.nilp) := by kernel_rfl
@[go_sem] theorem ag_91 : aggT Tryd.prog 91 = some true := by kernel_rfl
@[go_sem] theorem sz_91 : sizeT Tryd.prog 91 = some 1 := by kernel_rfl
@[go_sem] theorem un_91 : Tryd.prog.underlying 91 = some (.struct #[{ name := "s", type := 9, offset := 0, embedded := false, tag := "", pkgPath := "fenestra/record", byteOffset := 0 }]) := by kernel_rfl
@[go_sem] theorem ze_91 : zeroA Tryd.prog 91 = some [.str []] := by kernel_rfl
@[go_sem] theorem ei_91 : einfo Tryd.prog 91 = some (1, 16, 1) := by kernel_rfl
@[go_sem] theorem zv_91 : zeroV Tryd.prog 91 = some (.agg [.str []]) := by kernel_rfl
@[go_sem] theorem fo_91_0 : fieldOff Tryd.prog 91 0 = some 0 := by kernel_rfl
@[go_sem] theorem ag_92 : aggT Tryd.prog 92 = some true := by kernel_rfl
@[go_sem] theorem sz_92 : sizeT Tryd.prog 92 = some 1 := by kernel_rfl
@[go_sem] theorem un_92 : Tryd.prog.underlying 92 = some (.struct #[{ name := "s", type := 9, offset := 0, embedded := false, tag := "", pkgPath := "fenestra/record", byteOffset := 0 }]) := by kernel_rfl
@[go_sem] theorem ze_92 : zeroA Tryd.prog 92 = some [.str []] := by kernel_rfl
@[go_sem] theorem ei_92 : einfo Tryd.prog 92 = some (1, 16, 1) := by kernel_rfl
@[go_sem] theorem zv_92 : zeroV Tryd.prog 92 = some (.agg [.str []]) := by kernel_rfl
@[go_sem] theorem fo_92_0 : fieldOff Tryd.prog 92 0 = some 0 := by kernel_rfl
@[go_sem] theorem ag_93 : aggT Tryd.prog 93 = some false := by kernel_rfl
@[go_sem] theorem sz_93 : sizeT Tryd.prog 93 = some 1 := by kernel_rfl
@[go_sem] theorem un_93 : Tryd.prog.underlying 93 = some (.func #[] #[24, 4] false) := by kernel_rfl
@[go_sem] theorem ze_93 : zeroA Tryd.prog 93 = some [.fnil] := by kernel_rfl
@[go_sem] theorem ei_93 : einfo Tryd.prog 93 = some (1, 8, 1) := by kernel_rfl
@[go_sem] theorem zv_93 : zeroV Tryd.prog 93 = some (.fnil) := by kernel_rfl
@[go_sem] theorem ag_94 : aggT Tryd.prog 94 = some false := by kernel_rfl
@[go_sem] theorem sz_94 : sizeT Tryd.prog 94 = some 1 := by kernel_rfl
@[go_sem] theorem un_94 : Tryd.prog.underlying 94 = some (.func #[9] #[3] false) := by kernel_rfl
@[go_sem] theorem ze_94 : zeroA Tryd.prog 94 = some [.fnil] := by kernel_rfl
@[go_sem] theorem ei_94 : einfo Tryd.prog 94 = some (1, 8, 1) := by kernel_rfl
@[go_sem] theorem zv_94 : zeroV Tryd.prog 94 = some (.fnil) := by kernel_rfl
@[go_sem] theorem ag_95 : aggT Tryd.prog 95 = some false := by kernel_rfl
@[go_sem] theorem sz_95 : sizeT Tryd.prog 95 = some 1 := by kernel_rfl
@[go_sem] theorem un_95 : Tryd.prog.underlying 95 = some (.func #[9, 5] #[3] false) := by kernel_rfl
@[go_sem] theorem ze_95 : zeroA Tryd.prog 95 = some [.fnil] := by kernel_rfl
@[go_sem] theorem ei_95 : einfo Tryd.prog 95 = some (1, 8, 1) := by kernel_rfl
@[go_sem] theorem zv_95 : zeroV Tryd.prog 95 = some (.fnil) := by kernel_rfl
@[go_sem] theorem ag_96 : aggT Tryd.prog 96 = some false := by kernel_rfl
@[go_sem] theorem sz_96 : sizeT Tryd.prog 96 = some 1 := by kernel_rfl
@[go_sem] theorem un_96 : Tryd.prog.underlying 96 = some (.slice 3) := by kernel_rfl
@[go_sem] theorem ze_96 : zeroA Tryd.prog 96 = some [.snil] := by kernel_rfl
@[go_sem] theorem ei_96 : einfo Tryd.prog 96 = some (1, 24, 1) := by kernel_rfl
@[go_sem] theorem zv_96 : zeroV Tryd.prog 96 = some (.snil) := by kernel_rfl
@[go_sem] theorem ag_97 : aggT Tryd.prog 97 = some false := by kernel_rfl
@[go_sem] theorem sz_97 : sizeT Tryd.prog 97 = some 1 := by kernel_rfl
@[go_sem] theorem un_97 : Tryd.prog.underlying 97 = some (.func #[24, 3] #[3, 34] false) := by kernel_rfl
@[go_sem] theorem ze_97 : zeroA Tryd.prog 97 = some [.fnil] := by kernel_rfl
@[go_sem] theorem ei_97 : einfo Tryd.prog 97 = some (1, 8, 1) := by kernel_rfl
@[go_sem] theorem zv_97 : zeroV Tryd.prog 97 = some (.fnil) := by kernel_rfl
@[go_sem] theorem ag_98 : aggT Tryd.prog 98 = some false := by kernel_rfl
@[go_sem] theorem sz_98 : sizeT Tryd.prog 98 = some 1 := by kernel_rfl
@[go_sem] theorem un_98 : Tryd.prog.underlying 98 = some (.func #[3, 47] #[4] false) := by kernel_rfl
@[go_sem] theorem ze_98 : zeroA Tryd.prog 98 = some [.fnil] := by kernel_rfl
@[go_sem] theorem ei_98 : einfo Tryd.prog 98 = some (1, 8, 1) := by kernel_rfl
@[go_sem] theorem zv_98 : zeroV Tryd.prog 98 = some (.fnil) := by kernel_rfl
@[go_sem] theorem ag_99 : aggT Tryd.prog 99 = some false := by kernel_rfl
@[go_sem] theorem sz_99 : sizeT Tryd.prog 99 = some 1 := by kernel_rfl
@[go_sem] theorem un_99 : Tryd.prog.underlying 99 = some (.slice 22) := by kernel_rfl
@[go_sem] theorem ze_99 : zeroA Tryd.prog 99 = some [.snil] := by kernel_rfl
@[go_sem] theorem ei_99 : einfo Tryd.prog 99 = some (1, 24, 1) := by kernel_rfl
@[go_sem] theorem zv_99 : zeroV Tryd.prog 99 = some (.snil) := by kernel_rfl
@[go_sem] theorem ag_100 : aggT Tryd.prog 100 = some false := by kernel_rfl
@[go_sem] theorem sz_100 : sizeT Tryd.prog 100 = some 1 := by kernel_rfl
@[go_sem] theorem un_100 : Tryd.prog.underlying 100 = some (.func #[22, 3] #[22] false) := by kernel_rfl
@[go_sem] theorem ze_100 : zeroA Tryd.prog 100 = some [.fnil] := by kernel_rfl
@[go_sem] theorem ei_100 : einfo Tryd.prog 100 = some (1, 8, 1) := by kernel_rfl
@[go_sem] theorem zv_100 : zeroV Tryd.prog 100 = some (.fnil) := by kernel_rfl
@[go_sem] theorem ag_101 : aggT Tryd.prog 101 = some false := by kernel_rfl
@[go_sem] theorem sz_101 : sizeT Tryd.prog 101 = some 1 := by kernel_rfl
@[go_sem] theorem un_101 : Tryd.prog.underlying 101 = some (.pointer 5) := by kernel_rfl
@[go_sem] theorem ze_101 : zeroA Tryd.prog 101 = some [.nilp] := by kernel_rfl
@[go_sem] theorem ei_101 : einfo Tryd.prog 101 = some (1, 8, 1) := by kernel_rfl
@[go_sem] theorem zv_101 : zeroV Tryd.prog 101 = some (.nilp) := by kernel_rfl
@[go_sem] theorem ag_102 : aggT Tryd.prog 102 = some true := by kernel_rfl
@[go_sem] theorem sz_102 : sizeT Tryd.prog 102 = some 0 := by kernel_rfl
@[go_sem] theorem un_102 : Tryd.prog.underlying 102 = some (.struct #[]) := by kernel_rfl
@[go_sem] theorem ze_102 : zeroA Tryd.prog 102 = some [] := by kernel_rfl
@[go_sem] theorem ei_102 : einfo Tryd.prog 102 = some (0, 0, 0) := by kernel_rfl
@[go_sem] theorem zv_102 : zeroV Tryd.prog 102 = some (.agg []) := by kernel_rfl
@[go_sem] theorem eg_102 : Tryd.prog.eqGuardType Tryd.prog.depth 102 = false := by kernel_rfl
@[go_sem] theorem sh_102 : Tryd.prog.stoodInHeld 102 = false := by kernel_rfl
@[go_sem] theorem ag_103 : aggT Tryd.prog 103 = some true := by kernel_rfl
@[go_sem] theorem sz_103 : sizeT Tryd.prog 103 = some 0 := by kernel_rfl
@[go_sem] theorem un_103 : Tryd.prog.underlying 103 = some (.struct #[]) := by kernel_rfl
@[go_sem] theorem ze_103 : zeroA Tryd.prog 103 = some [] := by kernel_rfl
@[go_sem] theorem ei_103 : einfo Tryd.prog 103 = some (0, 0, 0) := by kernel_rfl
@[go_sem] theorem zv_103 : zeroV Tryd.prog 103 = some (.agg []) := by kernel_rfl
@[go_sem] theorem eg_103 : Tryd.prog.eqGuardType Tryd.prog.depth 103 = false := by kernel_rfl
@[go_sem] theorem sh_103 : Tryd.prog.stoodInHeld 103 = false := by kernel_rfl
@[go_sem] theorem ag_104 : aggT Tryd.prog 104 = some false := by kernel_rfl
@[go_sem] theorem sz_104 : sizeT Tryd.prog 104 = some 1 := by kernel_rfl
@[go_sem] theorem un_104 : Tryd.prog.underlying 104 = some (.func #[9] #[] false) := by kernel_rfl
@[go_sem] theorem ze_104 : zeroA Tryd.prog 104 = some [.fnil] := by kernel_rfl
@[go_sem] theorem ei_104 : einfo Tryd.prog 104 = some (1, 8, 1) := by kernel_rfl
@[go_sem] theorem zv_104 : zeroV Tryd.prog 104 = some (.fnil) := by kernel_rfl
@[go_sem] theorem ag_106 : aggT Tryd.prog 106 = some false := by kernel_rfl
@[go_sem] theorem sz_106 : sizeT Tryd.prog 106 = some 1 := by kernel_rfl
@[go_sem] theorem un_106 : Tryd.prog.underlying 106 = some (.func #[] #[3, 3] false) := by kernel_rfl
@[go_sem] theorem ze_106 : zeroA Tryd.prog 106 = some [.fnil] := by kernel_rfl
@[go_sem] theorem ei_106 : einfo Tryd.prog 106 = some (1, 8, 1) := by kernel_rfl
@[go_sem] theorem zv_106 : zeroV Tryd.prog 106 = some (.fnil) := by kernel_rfl
@[go_sem] theorem ag_107 : aggT Tryd.prog 107 = some false := by kernel_rfl
@[go_sem] theorem sz_107 : sizeT Tryd.prog 107 = some 1 := by kernel_rfl
@[go_sem] theorem un_107 : Tryd.prog.underlying 107 = some (.func #[] #[47] false) := by kernel_rfl
@[go_sem] theorem ze_107 : zeroA Tryd.prog 107 = some [.fnil] := by kernel_rfl
@[go_sem] theorem ei_107 : einfo Tryd.prog 107 = some (1, 8, 1) := by kernel_rfl
@[go_sem] theorem zv_107 : zeroV Tryd.prog 107 = some (.fnil) := by kernel_rfl
@[go_sem] theorem ag_108 : aggT Tryd.prog 108 = some false := by kernel_rfl
@[go_sem] theorem sz_108 : sizeT Tryd.prog 108 = some 1 := by kernel_rfl
@[go_sem] theorem un_108 : Tryd.prog.underlying 108 = some (.func #[22, 72] #[3] false) := by kernel_rfl
@[go_sem] theorem ze_108 : zeroA Tryd.prog 108 = some [.fnil] := by kernel_rfl
@[go_sem] theorem ei_108 : einfo Tryd.prog 108 = some (1, 8, 1) := by kernel_rfl
@[go_sem] theorem zv_108 : zeroV Tryd.prog 108 = some (.fnil) := by kernel_rfl
@[go_sem] theorem ag_109 : aggT Tryd.prog 109 = some false := by kernel_rfl
@[go_sem] theorem sz_109 : sizeT Tryd.prog 109 = some 1 := by kernel_rfl
@[go_sem] theorem un_109 : Tryd.prog.underlying 109 = some (.func #[2, 3] #[9] false) := by kernel_rfl
@[go_sem] theorem ze_109 : zeroA Tryd.prog 109 = some [.fnil] := by kernel_rfl
@[go_sem] theorem ei_109 : einfo Tryd.prog 109 = some (1, 8, 1) := by kernel_rfl
@[go_sem] theorem zv_109 : zeroV Tryd.prog 109 = some (.fnil) := by kernel_rfl
@[go_sem] theorem ag_110 : aggT Tryd.prog 110 = some false := by kernel_rfl
@[go_sem] theorem sz_110 : sizeT Tryd.prog 110 = some 1 := by kernel_rfl
@[go_sem] theorem un_110 : Tryd.prog.underlying 110 = some (.unsafePointer) := by kernel_rfl
@[go_sem] theorem ze_110 : zeroA Tryd.prog 110 = some [.nilp] := by kernel_rfl
@[go_sem] theorem ei_110 : einfo Tryd.prog 110 = some (1, 8, 1) := by kernel_rfl
@[go_sem] theorem zv_110 : zeroV Tryd.prog 110 = some (.nilp) := by kernel_rfl
@[go_sem] theorem ag_111 : aggT Tryd.prog 111 = some false := by kernel_rfl
@[go_sem] theorem sz_111 : sizeT Tryd.prog 111 = some 1 := by kernel_rfl
@[go_sem] theorem un_111 : Tryd.prog.underlying 111 = some (.func #[110] #[110] false) := by kernel_rfl
@[go_sem] theorem ze_111 : zeroA Tryd.prog 111 = some [.fnil] := by kernel_rfl
@[go_sem] theorem ei_111 : einfo Tryd.prog 111 = some (1, 8, 1) := by kernel_rfl
@[go_sem] theorem zv_111 : zeroV Tryd.prog 111 = some (.fnil) := by kernel_rfl
@[go_sem] theorem ag_112 : aggT Tryd.prog 112 = some false := by kernel_rfl
@[go_sem] theorem sz_112 : sizeT Tryd.prog 112 = some 1 := by kernel_rfl
@[go_sem] theorem un_112 : Tryd.prog.underlying 112 = some (.func #[4] #[] false) := by kernel_rfl
@[go_sem] theorem ze_112 : zeroA Tryd.prog 112 = some [.fnil] := by kernel_rfl
@[go_sem] theorem ei_112 : einfo Tryd.prog 112 = some (1, 8, 1) := by kernel_rfl
@[go_sem] theorem zv_112 : zeroV Tryd.prog 112 = some (.fnil) := by kernel_rfl
@[go_sem] theorem ag_113 : aggT Tryd.prog 113 = some false := by kernel_rfl
@[go_sem] theorem sz_113 : sizeT Tryd.prog 113 = some 1 := by kernel_rfl
@[go_sem] theorem un_113 : Tryd.prog.underlying 113 = some (.func #[] #[3] false) := by kernel_rfl
@[go_sem] theorem ze_113 : zeroA Tryd.prog 113 = some [.fnil] := by kernel_rfl
@[go_sem] theorem ei_113 : einfo Tryd.prog 113 = some (1, 8, 1) := by kernel_rfl
@[go_sem] theorem zv_113 : zeroV Tryd.prog 113 = some (.fnil) := by kernel_rfl
@[go_sem] theorem ag_115 : aggT Tryd.prog 115 = some false := by kernel_rfl
@[go_sem] theorem sz_115 : sizeT Tryd.prog 115 = some 1 := by kernel_rfl
@[go_sem] theorem un_115 : Tryd.prog.underlying 115 = some (.func #[3] #[3] false) := by kernel_rfl
@[go_sem] theorem ze_115 : zeroA Tryd.prog 115 = some [.fnil] := by kernel_rfl
@[go_sem] theorem ei_115 : einfo Tryd.prog 115 = some (1, 8, 1) := by kernel_rfl
@[go_sem] theorem zv_115 : zeroV Tryd.prog 115 = some (.fnil) := by kernel_rfl
@[go_sem] theorem ag_116 : aggT Tryd.prog 116 = some true := by kernel_rfl
@[go_sem] theorem sz_116 : sizeT Tryd.prog 116 = some 24 := by kernel_rfl
@[go_sem] theorem un_116 : Tryd.prog.underlying 116 = some (.array 24 5) := by kernel_rfl
@[go_sem] theorem ze_116 : zeroA Tryd.prog 116 = some [.int .u8 0, .int .u8 0, .int .u8 0, .int .u8 0, .int .u8 0, .int .u8 0, .int .u8 0, .int .u8 0, .int .u8 0, .int .u8 0, .int .u8 0, .int .u8 0, .int .u8 0, .int .u8 0, .int .u8 0, .int .u8 0, .int .u8 0, .int .u8 0, .int .u8 0, .int .u8 0, .int .u8 0, .int .u8 0, .int .u8 0, .int .u8 0] := by kernel_rfl
@[go_sem] theorem ei_116 : einfo Tryd.prog 116 = some (24, 24, 24) := by kernel_rfl
@[go_sem] theorem zv_116 : zeroV Tryd.prog 116 = some (.agg [.int .u8 0, .int .u8 0, .int .u8 0, .int .u8 0, .int .u8 0, .int .u8 0, .int .u8 0, .int .u8 0, .int .u8 0, .int .u8 0, .int .u8 0, .int .u8 0, .int .u8 0, .int .u8 0, .int .u8 0, .int .u8 0, .int .u8 0, .int .u8 0, .int .u8 0, .int .u8 0, .int .u8 0, .int .u8 0, .int .u8 0, .int .u8 0]) := by kernel_rfl
@[go_sem] theorem ag_117 : aggT Tryd.prog 117 = some false := by kernel_rfl
@[go_sem] theorem sz_117 : sizeT Tryd.prog 117 = some 1 := by kernel_rfl
@[go_sem] theorem un_117 : Tryd.prog.underlying 117 = some (.func #[49] #[3] false) := by kernel_rfl
@[go_sem] theorem ze_117 : zeroA Tryd.prog 117 = some [.fnil] := by kernel_rfl
@[go_sem] theorem ei_117 : einfo Tryd.prog 117 = some (1, 8, 1) := by kernel_rfl
@[go_sem] theorem zv_117 : zeroV Tryd.prog 117 = some (.fnil) := by kernel_rfl
@[go_sem] theorem ag_118 : aggT Tryd.prog 118 = some false := by kernel_rfl
@[go_sem] theorem sz_118 : sizeT Tryd.prog 118 = some 1 := by kernel_rfl
@[go_sem] theorem un_118 : Tryd.prog.underlying 118 = some (.func #[80, 49] #[] false) := by kernel_rfl
@[go_sem] theorem ze_118 : zeroA Tryd.prog 118 = some [.fnil] := by kernel_rfl
@[go_sem] theorem ei_118 : einfo Tryd.prog 118 = some (1, 8, 1) := by kernel_rfl
@[go_sem] theorem zv_118 : zeroV Tryd.prog 118 = some (.fnil) := by kernel_rfl
@[go_sem] theorem ag_120 : aggT Tryd.prog 120 = some false := by kernel_rfl
@[go_sem] theorem sz_120 : sizeT Tryd.prog 120 = some 1 := by kernel_rfl
@[go_sem] theorem un_120 : Tryd.prog.underlying 120 = some (.func #[80, 49, 3, 4, 4] #[80, 9] false) := by kernel_rfl
@[go_sem] theorem ze_120 : zeroA Tryd.prog 120 = some [.fnil] := by kernel_rfl
@[go_sem] theorem ei_120 : einfo Tryd.prog 120 = some (1, 8, 1) := by kernel_rfl
@[go_sem] theorem zv_120 : zeroV Tryd.prog 120 = some (.fnil) := by kernel_rfl
@[go_sem] theorem ag_121 : aggT Tryd.prog 121 = some false := by kernel_rfl
@[go_sem] theorem sz_121 : sizeT Tryd.prog 121 = some 1 := by kernel_rfl
@[go_sem] theorem un_121 : Tryd.prog.underlying 121 = some (.func #[9, 9] #[9] false) := by kernel_rfl
@[go_sem] theorem ze_121 : zeroA Tryd.prog 121 = some [.fnil] := by kernel_rfl
@[go_sem] theorem ei_121 : einfo Tryd.prog 121 = some (1, 8, 1) := by kernel_rfl
@[go_sem] theorem zv_121 : zeroV Tryd.prog 121 = some (.fnil) := by kernel_rfl
@[go_sem] theorem ag_123 : aggT Tryd.prog 123 = some false := by kernel_rfl
@[go_sem] theorem sz_123 : sizeT Tryd.prog 123 = some 1 := by kernel_rfl
@[go_sem] theorem un_123 : Tryd.prog.underlying 123 = some (.func #[9, 3, 3] #[49, 84] false) := by kernel_rfl
@[go_sem] theorem ze_123 : zeroA Tryd.prog 123 = some [.fnil] := by kernel_rfl
@[go_sem] theorem ei_123 : einfo Tryd.prog 123 = some (1, 8, 1) := by kernel_rfl
@[go_sem] theorem zv_123 : zeroV Tryd.prog 123 = some (.fnil) := by kernel_rfl
@[go_sem] theorem ag_125 : aggT Tryd.prog 125 = some false := by kernel_rfl
@[go_sem] theorem sz_125 : sizeT Tryd.prog 125 = some 1 := by kernel_rfl
@[go_sem] theorem un_125 : Tryd.prog.underlying 125 = some (.func #[9] #[42, 42] false) := by kernel_rfl
@[go_sem] theorem ze_125 : zeroA Tryd.prog 125 = some [.fnil] := by kernel_rfl
@[go_sem] theorem ei_125 : einfo Tryd.prog 125 = some (1, 8, 1) := by kernel_rfl
@[go_sem] theorem zv_125 : zeroV Tryd.prog 125 = some (.fnil) := by kernel_rfl
@[go_sem] theorem ag_126 : aggT Tryd.prog 126 = some false := by kernel_rfl
@[go_sem] theorem sz_126 : sizeT Tryd.prog 126 = some 1 := by kernel_rfl
@[go_sem] theorem un_126 : Tryd.prog.underlying 126 = some (.func #[4] #[3] false) := by kernel_rfl
@[go_sem] theorem ze_126 : zeroA Tryd.prog 126 = some [.fnil] := by kernel_rfl
@[go_sem] theorem ei_126 : einfo Tryd.prog 126 = some (1, 8, 1) := by kernel_rfl
@[go_sem] theorem zv_126 : zeroV Tryd.prog 126 = some (.fnil) := by kernel_rfl
@[go_sem] theorem ag_127 : aggT Tryd.prog 127 = some true := by kernel_rfl
@[go_sem] theorem sz_127 : sizeT Tryd.prog 127 = some 20 := by kernel_rfl
@[go_sem] theorem un_127 : Tryd.prog.underlying 127 = some (.array 20 49) := by kernel_rfl
@[go_sem] theorem ze_127 : zeroA Tryd.prog 127 = some [.int .u64 0, .int .u64 0, .int .u64 0, .int .u64 0, .int .u64 0, .int .u64 0, .int .u64 0, .int .u64 0, .int .u64 0, .int .u64 0, .int .u64 0, .int .u64 0, .int .u64 0, .int .u64 0, .int .u64 0, .int .u64 0, .int .u64 0, .int .u64 0, .int .u64 0, .int .u64 0] := by kernel_rfl
@[go_sem] theorem ei_127 : einfo Tryd.prog 127 = some (20, 160, 20) := by kernel_rfl
@[go_sem] theorem zv_127 : zeroV Tryd.prog 127 = some (.agg [.int .u64 0, .int .u64 0, .int .u64 0, .int .u64 0, .int .u64 0, .int .u64 0, .int .u64 0, .int .u64 0, .int .u64 0, .int .u64 0, .int .u64 0, .int .u64 0, .int .u64 0, .int .u64 0, .int .u64 0, .int .u64 0, .int .u64 0, .int .u64 0, .int .u64 0, .int .u64 0]) := by kernel_rfl
@[go_sem] theorem ag_128 : aggT Tryd.prog 128 = some true := by kernel_rfl
@[go_sem] theorem sz_128 : sizeT Tryd.prog 128 = some 65 := by kernel_rfl
@[go_sem] theorem un_128 : Tryd.prog.underlying 128 = some (.array 65 5) := by kernel_rfl
@[go_sem] theorem ag_129 : aggT Tryd.prog 129 = some false := by kernel_rfl
@[go_sem] theorem sz_129 : sizeT Tryd.prog 129 = some 1 := by kernel_rfl
@[go_sem] theorem un_129 : Tryd.prog.underlying 129 = some (.func #[3] #[4] false) := by kernel_rfl
@[go_sem] theorem ze_129 : zeroA Tryd.prog 129 = some [.fnil] := by kernel_rfl
@[go_sem] theorem ei_129 : einfo Tryd.prog 129 = some (1, 8, 1) := by kernel_rfl
@[go_sem] theorem zv_129 : zeroV Tryd.prog 129 = some (.fnil) := by kernel_rfl
@[go_sem] theorem ag_130 : aggT Tryd.prog 130 = some false := by kernel_rfl
@[go_sem] theorem sz_130 : sizeT Tryd.prog 130 = some 1 := by kernel_rfl
@[go_sem] theorem un_130 : Tryd.prog.underlying 130 = some (.func #[32] #[3] false) := by kernel_rfl
@[go_sem] theorem ze_130 : zeroA Tryd.prog 130 = some [.fnil] := by kernel_rfl
@[go_sem] theorem ei_130 : einfo Tryd.prog 130 = some (1, 8, 1) := by kernel_rfl
@[go_sem] theorem zv_130 : zeroV Tryd.prog 130 = some (.fnil) := by kernel_rfl
@[go_sem] theorem ag_131 : aggT Tryd.prog 131 = some false := by kernel_rfl
@[go_sem] theorem sz_131 : sizeT Tryd.prog 131 = some 1 := by kernel_rfl
@[go_sem] theorem un_131 : Tryd.prog.underlying 131 = some (.func #[9, 5] #[9] false) := by kernel_rfl
@[go_sem] theorem ze_131 : zeroA Tryd.prog 131 = some [.fnil] := by kernel_rfl
@[go_sem] theorem ei_131 : einfo Tryd.prog 131 = some (1, 8, 1) := by kernel_rfl
@[go_sem] theorem zv_131 : zeroV Tryd.prog 131 = some (.fnil) := by kernel_rfl
@[go_sem] theorem ag_132 : aggT Tryd.prog 132 = some true := by kernel_rfl
@[go_sem] theorem sz_132 : sizeT Tryd.prog 132 = some 256 := by kernel_rfl
@[go_sem] theorem un_132 : Tryd.prog.underlying 132 = some (.array 256 4) := by kernel_rfl
@[go_sem] theorem ag_133 : aggT Tryd.prog 133 = some true := by kernel_rfl
@[go_sem] theorem sz_133 : sizeT Tryd.prog 133 = some 256 := by kernel_rfl
@[go_sem] theorem un_133 : Tryd.prog.underlying 133 = some (.array 256 4) := by kernel_rfl
@[go_sem] theorem ag_135 : aggT Tryd.prog 135 = some false := by kernel_rfl
@[go_sem] theorem sz_135 : sizeT Tryd.prog 135 = some 1 := by kernel_rfl
@[go_sem] theorem un_135 : Tryd.prog.underlying 135 = some (.func #[9] #[133, 4] false) := by kernel_rfl
@[go_sem] theorem ze_135 : zeroA Tryd.prog 135 = some [.fnil] := by kernel_rfl
@[go_sem] theorem ei_135 : einfo Tryd.prog 135 = some (1, 8, 1) := by kernel_rfl
@[go_sem] theorem zv_135 : zeroV Tryd.prog 135 = some (.fnil) := by kernel_rfl
@[go_sem] theorem ag_136 : aggT Tryd.prog 136 = some false := by kernel_rfl
@[go_sem] theorem sz_136 : sizeT Tryd.prog 136 = some 1 := by kernel_rfl
@[go_sem] theorem un_136 : Tryd.prog.underlying 136 = some (.func #[9, 137] #[9] false) := by kernel_rfl
@[go_sem] theorem ze_136 : zeroA Tryd.prog 136 = some [.fnil] := by kernel_rfl
@[go_sem] theorem ei_136 : einfo Tryd.prog 136 = some (1, 8, 1) := by kernel_rfl
@[go_sem] theorem zv_136 : zeroV Tryd.prog 136 = some (.fnil) := by kernel_rfl
@[go_sem] theorem ag_137 : aggT Tryd.prog 137 = some false := by kernel_rfl
@[go_sem] theorem sz_137 : sizeT Tryd.prog 137 = some 1 := by kernel_rfl
@[go_sem] theorem un_137 : Tryd.prog.underlying 137 = some (.pointer 133) := by kernel_rfl
@[go_sem] theorem ze_137 : zeroA Tryd.prog 137 = some [.nilp] := by kernel_rfl
@[go_sem] theorem ei_137 : einfo Tryd.prog 137 = some (1, 8, 1) := by kernel_rfl
@[go_sem] theorem zv_137 : zeroV Tryd.prog 137 = some (.nilp) := by kernel_rfl
@[go_sem] theorem ag_138 : aggT Tryd.prog 138 = some false := by kernel_rfl
@[go_sem] theorem sz_138 : sizeT Tryd.prog 138 = some 1 := by kernel_rfl
@[go_sem] theorem un_138 : Tryd.prog.underlying 138 = some (.func #[9, 9, 3, 3, 84] #[84] false) := by kernel_rfl
@[go_sem] theorem ze_138 : zeroA Tryd.prog 138 = some [.fnil] := by kernel_rfl
@[go_sem] theorem ei_138 : einfo Tryd.prog 138 = some (1, 8, 1) := by kernel_rfl
@[go_sem] theorem zv_138 : zeroV Tryd.prog 138 = some (.fnil) := by kernel_rfl
@[go_sem] theorem ag_139 : aggT Tryd.prog 139 = some false := by kernel_rfl
@[go_sem] theorem sz_139 : sizeT Tryd.prog 139 = some 1 := by kernel_rfl
@[go_sem] theorem un_139 : Tryd.prog.underlying 139 = some (.func #[42] #[3] false) := by kernel_rfl
@[go_sem] theorem ze_139 : zeroA Tryd.prog 139 = some [.fnil] := by kernel_rfl
@[go_sem] theorem ei_139 : einfo Tryd.prog 139 = some (1, 8, 1) := by kernel_rfl
@[go_sem] theorem zv_139 : zeroV Tryd.prog 139 = some (.fnil) := by kernel_rfl
@[go_sem] theorem ag_140 : aggT Tryd.prog 140 = some false := by kernel_rfl
@[go_sem] theorem sz_140 : sizeT Tryd.prog 140 = some 1 := by kernel_rfl
@[go_sem] theorem un_140 : Tryd.prog.underlying 140 = some (.func #[5] #[4] false) := by kernel_rfl
@[go_sem] theorem ze_140 : zeroA Tryd.prog 140 = some [.fnil] := by kernel_rfl
@[go_sem] theorem ei_140 : einfo Tryd.prog 140 = some (1, 8, 1) := by kernel_rfl
@[go_sem] theorem zv_140 : zeroV Tryd.prog 140 = some (.fnil) := by kernel_rfl
@[go_sem] theorem ag_142 : aggT Tryd.prog 142 = some false := by kernel_rfl
@[go_sem] theorem sz_142 : sizeT Tryd.prog 142 = some 1 := by kernel_rfl
@[go_sem] theorem un_142 : Tryd.prog.underlying 142 = some (.func #[9] #[21, 3] false) := by kernel_rfl
@[go_sem] theorem ze_142 : zeroA Tryd.prog 142 = some [.fnil] := by kernel_rfl
@[go_sem] theorem ei_142 : einfo Tryd.prog 142 = some (1, 8, 1) := by kernel_rfl
@[go_sem] theorem zv_142 : zeroV Tryd.prog 142 = some (.fnil) := by kernel_rfl
@[go_sem] theorem ag_143 : aggT Tryd.prog 143 = some false := by kernel_rfl
@[go_sem] theorem sz_143 : sizeT Tryd.prog 143 = some 1 := by kernel_rfl
@[go_sem] theorem un_143 : Tryd.prog.underlying 143 = some (.func #[9, 21] #[4] false) := by kernel_rfl
@[go_sem] theorem ze_143 : zeroA Tryd.prog 143 = some [.fnil] := by kernel_rfl
@[go_sem] theorem ei_143 : einfo Tryd.prog 143 = some (1, 8, 1) := by kernel_rfl
@[go_sem] theorem zv_143 : zeroV Tryd.prog 143 = some (.fnil) := by kernel_rfl
@[go_sem] theorem ag_144 : aggT Tryd.prog 144 = some false := by kernel_rfl
@[go_sem] theorem sz_144 : sizeT Tryd.prog 144 = some 1 := by kernel_rfl
@[go_sem] theorem un_144 : Tryd.prog.underlying 144 = some (.int .i64) := by kernel_rfl
@[go_sem] theorem ze_144 : zeroA Tryd.prog 144 = some [.int .i64 0] := by kernel_rfl
@[go_sem] theorem ei_144 : einfo Tryd.prog 144 = some (1, 8, 1) := by kernel_rfl
@[go_sem] theorem zv_144 : zeroV Tryd.prog 144 = some (.int .i64 0) := by kernel_rfl
@[go_sem] theorem ag_146 : aggT Tryd.prog 146 = some false := by kernel_rfl
@[go_sem] theorem sz_146 : sizeT Tryd.prog 146 = some 1 := by kernel_rfl
@[go_sem] theorem un_146 : Tryd.prog.underlying 146 = some (.func #[9, 3, 3] #[2, 84] false) := by kernel_rfl
@[go_sem] theorem ze_146 : zeroA Tryd.prog 146 = some [.fnil] := by kernel_rfl
@[go_sem] theorem ei_146 : einfo Tryd.prog 146 = some (1, 8, 1) := by kernel_rfl
@[go_sem] theorem zv_146 : zeroV Tryd.prog 146 = some (.fnil) := by kernel_rfl
@[go_sem] theorem ag_147 : aggT Tryd.prog 147 = some false := by kernel_rfl
@[go_sem] theorem sz_147 : sizeT Tryd.prog 147 = some 1 := by kernel_rfl
@[go_sem] theorem un_147 : Tryd.prog.underlying 147 = some (.pointer 156) := by kernel_rfl
@[go_sem] theorem ze_147 : zeroA Tryd.prog 147 = some [.nilp] := by kernel_rfl
@[go_sem] theorem ei_147 : einfo Tryd.prog 147 = some (1, 8, 1) := by kernel_rfl
@[go_sem] theorem zv_147 : zeroV Tryd.prog 147 = some (.nilp) := by kernel_rfl
@[go_sem] theorem ag_148 : aggT Tryd.prog 148 = some false := by kernel_rfl
@[go_sem] theorem sz_148 : sizeT Tryd.prog 148 = some 1 := by kernel_rfl
@[go_sem] theorem un_148 : Tryd.prog.underlying 148 = some (.func #[9, 9] #[147] false) := by kernel_rfl
@[go_sem] theorem ze_148 : zeroA Tryd.prog 148 = some [.fnil] := by kernel_rfl
@[go_sem] theorem ei_148 : einfo Tryd.prog 148 = some (1, 8, 1) := by kernel_rfl
@[go_sem] theorem zv_148 : zeroV Tryd.prog 148 = some (.fnil) := by kernel_rfl
@[go_sem] theorem ag_149 : aggT Tryd.prog 149 = some false := by kernel_rfl
@[go_sem] theorem sz_149 : sizeT Tryd.prog 149 = some 1 := by kernel_rfl
@[go_sem] theorem un_149 : Tryd.prog.underlying 149 = some (.func #[9, 9, 3] #[147] false) := by kernel_rfl
@[go_sem] theorem ze_149 : zeroA Tryd.prog 149 = some [.fnil] := by kernel_rfl
@[go_sem] theorem ei_149 : einfo Tryd.prog 149 = some (1, 8, 1) := by kernel_rfl
@[go_sem] theorem zv_149 : zeroV Tryd.prog 149 = some (.fnil) := by kernel_rfl
@[go_sem] theorem ag_150 : aggT Tryd.prog 150 = some false := by kernel_rfl
@[go_sem] theorem sz_150 : sizeT Tryd.prog 150 = some 1 := by kernel_rfl
@[go_sem] theorem un_150 : Tryd.prog.underlying 150 = some (.func #[5] #[5] false) := by kernel_rfl
@[go_sem] theorem ze_150 : zeroA Tryd.prog 150 = some [.fnil] := by kernel_rfl
@[go_sem] theorem ei_150 : einfo Tryd.prog 150 = some (1, 8, 1) := by kernel_rfl
@[go_sem] theorem zv_150 : zeroV Tryd.prog 150 = some (.fnil) := by kernel_rfl
@[go_sem] theorem ag_151 : aggT Tryd.prog 151 = some false := by kernel_rfl
@[go_sem] theorem sz_151 : sizeT Tryd.prog 151 = some 1 := by kernel_rfl
@[go_sem] theorem un_151 : Tryd.prog.underlying 151 = some (.func #[9] #[4] false) := by kernel_rfl
@[go_sem] theorem ze_151 : zeroA Tryd.prog 151 = some [.fnil] := by kernel_rfl
@[go_sem] theorem ei_151 : einfo Tryd.prog 151 = some (1, 8, 1) := by kernel_rfl
@[go_sem] theorem zv_151 : zeroV Tryd.prog 151 = some (.fnil) := by kernel_rfl
@[go_sem] theorem ag_152 : aggT Tryd.prog 152 = some true := by kernel_rfl
@[go_sem] theorem sz_152 : sizeT Tryd.prog 152 = some 32 := by kernel_rfl
@[go_sem] theorem un_152 : Tryd.prog.underlying 152 = some (.array 32 5) := by kernel_rfl
@[go_sem] theorem ze_152 : zeroA Tryd.prog 152 = some [.int .u8 0, .int .u8 0, .int .u8 0, .int .u8 0, .int .u8 0, .int .u8 0, .int .u8 0, .int .u8 0, .int .u8 0, .int .u8 0, .int .u8 0, .int .u8 0, .int .u8 0, .int .u8 0, .int .u8 0, .int .u8 0, .int .u8 0, .int .u8 0, .int .u8 0, .int .u8 0, .int .u8 0, .int .u8 0, .int .u8 0, .int .u8 0, .int .u8 0, .int .u8 0, .int .u8 0, .int .u8 0, .int .u8 0, .int .u8 0, .int .u8 0, .int .u8 0] := by kernel_rfl
@[go_sem] theorem ei_152 : einfo Tryd.prog 152 = some (32, 32, 32) := by kernel_rfl
@[go_sem] theorem zv_152 : zeroV Tryd.prog 152 = some (.agg [.int .u8 0, .int .u8 0, .int .u8 0, .int .u8 0, .int .u8 0, .int .u8 0, .int .u8 0, .int .u8 0, .int .u8 0, .int .u8 0, .int .u8 0, .int .u8 0, .int .u8 0, .int .u8 0, .int .u8 0, .int .u8 0, .int .u8 0, .int .u8 0, .int .u8 0, .int .u8 0, .int .u8 0, .int .u8 0, .int .u8 0, .int .u8 0, .int .u8 0, .int .u8 0, .int .u8 0, .int .u8 0, .int .u8 0, .int .u8 0, .int .u8 0, .int .u8 0]) := by kernel_rfl
@[go_sem] theorem ag_153 : aggT Tryd.prog 153 = some true := by kernel_rfl
@[go_sem] theorem sz_153 : sizeT Tryd.prog 153 = some 64 := by kernel_rfl
@[go_sem] theorem un_153 : Tryd.prog.underlying 153 = some (.array 64 5) := by kernel_rfl
@[go_sem] theorem ze_153 : zeroA Tryd.prog 153 = some [.int .u8 0, .int .u8 0, .int .u8 0, .int .u8 0, .int .u8 0, .int .u8 0, .int .u8 0, .int .u8 0, .int .u8 0, .int .u8 0, .int .u8 0, .int .u8 0, .int .u8 0, .int .u8 0, .int .u8 0, .int .u8 0, .int .u8 0, .int .u8 0, .int .u8 0, .int .u8 0, .int .u8 0, .int .u8 0, .int .u8 0, .int .u8 0, .int .u8 0, .int .u8 0, .int .u8 0, .int .u8 0, .int .u8 0, .int .u8 0, .int .u8 0, .int .u8 0, .int .u8 0, .int .u8 0, .int .u8 0, .int .u8 0, .int .u8 0, .int .u8 0, .int .u8 0, .int .u8 0, .int .u8 0, .int .u8 0, .int .u8 0, .int .u8 0, .int .u8 0, .int .u8 0, .int .u8 0, .int .u8 0, .int .u8 0, .int .u8 0, .int .u8 0, .int .u8 0, .int .u8 0, .int .u8 0, .int .u8 0, .int .u8 0, .int .u8 0, .int .u8 0, .int .u8 0, .int .u8 0, .int .u8 0, .int .u8 0, .int .u8 0, .int .u8 0] := by kernel_rfl
@[go_sem] theorem ei_153 : einfo Tryd.prog 153 = some (64, 64, 64) := by kernel_rfl
@[go_sem] theorem zv_153 : zeroV Tryd.prog 153 = some (.agg [.int .u8 0, .int .u8 0, .int .u8 0, .int .u8 0, .int .u8 0, .int .u8 0, .int .u8 0, .int .u8 0, .int .u8 0, .int .u8 0, .int .u8 0, .int .u8 0, .int .u8 0, .int .u8 0, .int .u8 0, .int .u8 0, .int .u8 0, .int .u8 0, .int .u8 0, .int .u8 0, .int .u8 0, .int .u8 0, .int .u8 0, .int .u8 0, .int .u8 0, .int .u8 0, .int .u8 0, .int .u8 0, .int .u8 0, .int .u8 0, .int .u8 0, .int .u8 0, .int .u8 0, .int .u8 0, .int .u8 0, .int .u8 0, .int .u8 0, .int .u8 0, .int .u8 0, .int .u8 0, .int .u8 0, .int .u8 0, .int .u8 0, .int .u8 0, .int .u8 0, .int .u8 0, .int .u8 0, .int .u8 0, .int .u8 0, .int .u8 0, .int .u8 0, .int .u8 0, .int .u8 0, .int .u8 0, .int .u8 0, .int .u8 0, .int .u8 0, .int .u8 0, .int .u8 0, .int .u8 0, .int .u8 0, .int .u8 0, .int .u8 0, .int .u8 0]) := by kernel_rfl
@[go_sem] theorem ag_154 : aggT Tryd.prog 154 = some false := by kernel_rfl
@[go_sem] theorem sz_154 : sizeT Tryd.prog 154 = some 1 := by kernel_rfl
@[go_sem] theorem un_154 : Tryd.prog.underlying 154 = some (.func #[9, 21] #[3] false) := by kernel_rfl
@[go_sem] theorem ze_154 : zeroA Tryd.prog 154 = some [.fnil] := by kernel_rfl
@[go_sem] theorem ei_154 : einfo Tryd.prog 154 = some (1, 8, 1) := by kernel_rfl
@[go_sem] theorem zv_154 : zeroV Tryd.prog 154 = some (.fnil) := by kernel_rfl
@[go_sem] theorem ag_155 : aggT Tryd.prog 155 = some true := by kernel_rfl
@[go_sem] theorem sz_155 : sizeT Tryd.prog 155 = some 3 := by kernel_rfl
@[go_sem] theorem un_155 : Tryd.prog.underlying 155 = some (.struct #[{ name := "Func", type := 9, offset := 0, embedded := false, tag := "", pkgPath := "", byteOffset := 0 }, { name := "Num", type := 9, offset := 1, embedded := false, tag := "", pkgPath := "", byteOffset := 16 }, { name := "Err", type := 84, offset := 2, embedded := false, tag := "", pkgPath := "", byteOffset := 32 }]) := by kernel_rfl
@[go_sem] theorem ze_155 : zeroA Tryd.prog 155 = some [.str [], .str [], .inil] := by kernel_rfl
@[go_sem] theorem ei_155 : einfo Tryd.prog 155 = some (3, 48, 3) := by kernel_rfl
@[go_sem] theorem zv_155 : zeroV Tryd.prog 155 = some (.agg [.str [], .str [], .inil]) := by kernel_rfl
@[go_sem] theorem fo_155_0 : fieldOff Tryd.prog 155 0 = some 0 := by kernel_rfl
@[go_sem] theorem fo_155_1 : fieldOff Tryd.prog 155 1 = some 1 := by kernel_rfl
@[go_sem] theorem fo_155_2 : fieldOff Tryd.prog 155 2 = some 2 := by kernel_rfl
@[go_sem] theorem ag_156 : aggT Tryd.prog 156 = some true := by kernel_rfl
@[go_sem] theorem sz_156 : sizeT Tryd.prog 156 = some 3 := by kernel_rfl
@[go_sem] theorem un_156 : Tryd.prog.underlying 156 = some (.struct #[{ name := "Func", type := 9, offset := 0, embedded := false, tag := "", pkgPath := "", byteOffset := 0 }, { name := "Num", type := 9, offset := 1, embedded := false, tag := "", pkgPath := "", byteOffset := 16 }, { name := "Err", type := 84, offset := 2, embedded := false, tag := "", pkgPath := "", byteOffset := 32 }]) := by kernel_rfl
@[go_sem] theorem ze_156 : zeroA Tryd.prog 156 = some [.str [], .str [], .inil] := by kernel_rfl
@[go_sem] theorem ei_156 : einfo Tryd.prog 156 = some (3, 48, 3) := by kernel_rfl
@[go_sem] theorem zv_156 : zeroV Tryd.prog 156 = some (.agg [.str [], .str [], .inil]) := by kernel_rfl
@[go_sem] theorem fo_156_0 : fieldOff Tryd.prog 156 0 = some 0 := by kernel_rfl
@[go_sem] theorem fo_156_1 : fieldOff Tryd.prog 156 1 = some 1 := by kernel_rfl
@[go_sem] theorem fo_156_2 : fieldOff Tryd.prog 156 2 = some 2 := by kernel_rfl
@[go_sem] theorem ag_157 : aggT Tryd.prog 157 = some false := by kernel_rfl
@[go_sem] theorem sz_157 : sizeT Tryd.prog 157 = some 1 := by kernel_rfl
@[go_sem] theorem un_157 : Tryd.prog.underlying 157 = some (.func #[9] #[84] false) := by kernel_rfl
@[go_sem] theorem ze_157 : zeroA Tryd.prog 157 = some [.fnil] := by kernel_rfl
@[go_sem] theorem ei_157 : einfo Tryd.prog 157 = some (1, 8, 1) := by kernel_rfl
@[go_sem] theorem zv_157 : zeroV Tryd.prog 157 = some (.fnil) := by kernel_rfl
@[go_sem] theorem ag_158 : aggT Tryd.prog 158 = some true := by kernel_rfl
@[go_sem] theorem sz_158 : sizeT Tryd.prog 158 = some 256 := by kernel_rfl
@[go_sem] theorem un_158 : Tryd.prog.underlying 158 = some (.array 256 5) := by kernel_rfl
@[go_sem] theorem ag_159 : aggT Tryd.prog 159 = some true := by kernel_rfl
@[go_sem] theorem sz_159 : sizeT Tryd.prog 159 = some 2 := by kernel_rfl
@[go_sem] theorem un_159 : Tryd.prog.underlying 159 = some (.struct #[{ name := "lo", type := 5, offset := 0, embedded := false, tag := "", pkgPath := "unicode/utf8", byteOffset := 0 }, { name := "hi", type := 5, offset := 1, embedded := false, tag := "", pkgPath := "unicode/utf8", byteOffset := 1 }]) := by kernel_rfl
@[go_sem] theorem ze_159 : zeroA Tryd.prog 159 = some [.int .u8 0, .int .u8 0] := by kernel_rfl
@[go_sem] theorem ei_159 : einfo Tryd.prog 159 = some (2, 2, 2) := by kernel_rfl
@[go_sem] theorem zv_159 : zeroV Tryd.prog 159 = some (.agg [.int .u8 0, .int .u8 0]) := by kernel_rfl
@[go_sem] theorem fo_159_0 : fieldOff Tryd.prog 159 0 = some 0 := by kernel_rfl
@[go_sem] theorem fo_159_1 : fieldOff Tryd.prog 159 1 = some 1 := by kernel_rfl
@[go_sem] theorem ag_160 : aggT Tryd.prog 160 = some true := by kernel_rfl
@[go_sem] theorem sz_160 : sizeT Tryd.prog 160 = some 2 := by kernel_rfl
@[go_sem] theorem un_160 : Tryd.prog.underlying 160 = some (.struct #[{ name := "lo", type := 5, offset := 0, embedded := false, tag := "", pkgPath := "unicode/utf8", byteOffset := 0 }, { name := "hi", type := 5, offset := 1, embedded := false, tag := "", pkgPath := "unicode/utf8", byteOffset := 1 }]) := by kernel_rfl
@[go_sem] theorem ze_160 : zeroA Tryd.prog 160 = some [.int .u8 0, .int .u8 0] := by kernel_rfl
@[go_sem] theorem ei_160 : einfo Tryd.prog 160 = some (2, 2, 2) := by kernel_rfl
@[go_sem] theorem zv_160 : zeroV Tryd.prog 160 = some (.agg [.int .u8 0, .int .u8 0]) := by kernel_rfl
@[go_sem] theorem fo_160_0 : fieldOff Tryd.prog 160 0 = some 0 := by kernel_rfl
@[go_sem] theorem fo_160_1 : fieldOff Tryd.prog 160 1 = some 1 := by kernel_rfl
@[go_sem] theorem ag_161 : aggT Tryd.prog 161 = some true := by kernel_rfl
@[go_sem] theorem sz_161 : sizeT Tryd.prog 161 = some 32 := by kernel_rfl
@[go_sem] theorem un_161 : Tryd.prog.underlying 161 = some (.array 16 160) := by kernel_rfl
@[go_sem] theorem ze_161 : zeroA Tryd.prog 161 = some [.int .u8 0, .int .u8 0, .int .u8 0, .int .u8 0, .int .u8 0, .int .u8 0, .int .u8 0, .int .u8 0, .int .u8 0, .int .u8 0, .int .u8 0, .int .u8 0, .int .u8 0, .int .u8 0, .int .u8 0, .int .u8 0, .int .u8 0, .int .u8 0, .int .u8 0, .int .u8 0, .int .u8 0, .int .u8 0, .int .u8 0, .int .u8 0, .int .u8 0, .int .u8 0, .int .u8 0, .int .u8 0, .int .u8 0, .int .u8 0, .int .u8 0, .int .u8 0] := by kernel_rfl
@[go_sem] theorem ei_161 : einfo Tryd.prog 161 = some (32, 32, 32) := by kernel_rfl
@[go_sem] theorem zv_161 : zeroV Tryd.prog 161 = some (.agg [.int .u8 0, .int .u8 0, .int .u8 0, .int .u8 0, .int .u8 0, .int .u8 0, .int .u8 0, .int .u8 0, .int .u8 0, .int .u8 0, .int .u8 0, .int .u8 0, .int .u8 0, .int .u8 0, .int .u8 0, .int .u8 0, .int .u8 0, .int .u8 0, .int .u8 0, .int .u8 0, .int .u8 0, .int .u8 0, .int .u8 0, .int .u8 0, .int .u8 0, .int .u8 0, .int .u8 0, .int .u8 0, .int .u8 0, .int .u8 0, .int .u8 0, .int .u8 0]) := by kernel_rfl
@[go_sem] theorem ag_162 : aggT Tryd.prog 162 = some false := by kernel_rfl
@[go_sem] theorem sz_162 : sizeT Tryd.prog 162 = some 1 := by kernel_rfl
@[go_sem] theorem un_162 : Tryd.prog.underlying 162 = some (.func #[21] #[4] false) := by kernel_rfl
@[go_sem] theorem ze_162 : zeroA Tryd.prog 162 = some [.fnil] := by kernel_rfl
@[go_sem] theorem ei_162 : einfo Tryd.prog 162 = some (1, 8, 1) := by kernel_rfl
@[go_sem] theorem zv_162 : zeroV Tryd.prog 162 = some (.fnil) := by kernel_rfl
@[go_sem] theorem ag_163 : aggT Tryd.prog 163 = some false := by kernel_rfl
@[go_sem] theorem sz_163 : sizeT Tryd.prog 163 = some 1 := by kernel_rfl
@[go_sem] theorem un_163 : Tryd.prog.underlying 163 = some (.pointer 165) := by kernel_rfl
@[go_sem] theorem ze_163 : zeroA Tryd.prog 163 = some [.nilp] := by kernel_rfl
@[go_sem] theorem ei_163 : einfo Tryd.prog 163 = some (1, 8, 1) := by kernel_rfl
@[go_sem] theorem zv_163 : zeroV Tryd.prog 163 = some (.nilp) := by kernel_rfl
@[go_sem] theorem ag_164 : aggT Tryd.prog 164 = some true := by kernel_rfl
@[go_sem] theorem sz_164 : sizeT Tryd.prog 164 = some 1 := by kernel_rfl
@[go_sem] theorem un_164 : Tryd.prog.underlying 164 = some (.struct #[{ name := "s", type := 9, offset := 0, embedded := false, tag := "", pkgPath := "errors", byteOffset := 0 }]) := by kernel_rfl
@[go_sem] theorem ze_164 : zeroA Tryd.prog 164 = some [.str []] := by kernel_rfl
@[go_sem] theorem ei_164 : einfo Tryd.prog 164 = some (1, 16, 1) := by kernel_rfl
@[go_sem] theorem zv_164 : zeroV Tryd.prog 164 = some (.agg [.str []]) := by kernel_rfl
@[go_sem] theorem fo_164_0 : fieldOff Tryd.prog 164 0 = some 0 := by kernel_rfl
@[go_sem] theorem ag_165 : aggT Tryd.prog 165 = some true := by kernel_rfl
@[go_sem] theorem sz_165 : sizeT Tryd.prog 165 = some 1 := by kernel_rfl
@[go_sem] theorem un_165 : Tryd.prog.underlying 165 = some (.struct #[{ name := "s", type := 9, offset := 0, embedded := false, tag := "", pkgPath := "errors", byteOffset := 0 }]) := by kernel_rfl
@[go_sem] theorem ze_165 : zeroA Tryd.prog 165 = some [.str []] := by kernel_rfl
@[go_sem] theorem ei_165 : einfo Tryd.prog 165 = some (1, 16, 1) := by kernel_rfl
@[go_sem] theorem zv_165 : zeroV Tryd.prog 165 = some (.agg [.str []]) := by kernel_rfl
@[go_sem] theorem fo_165_0 : fieldOff Tryd.prog 165 0 = some 0 := by kernel_rfl
@[go_sem] theorem ag_166 : aggT Tryd.prog 166 = some true := by kernel_rfl
@[go_sem] theorem sz_166 : sizeT Tryd.prog 166 = some 4 := by kernel_rfl
@[go_sem] theorem un_166 : Tryd.prog.underlying 166 = some (.struct #[{ name := "_interface", type := 17, offset := 0, embedded := false, tag := "", pkgPath := "runtime", byteOffset := 0 }, { name := "concrete", type := 17, offset := 1, embedded := false, tag := "", pkgPath := "runtime", byteOffset := 8 }, { name := "asserted", type := 17, offset := 2, embedded := false, tag := "", pkgPath := "runtime", byteOffset := 16 }, { name := "missingMethod", type := 9, offset := 3, embedded := false, tag := "", pkgPath := "runtime", byteOffset := 24 }]) := by kernel_rfl
@[go_sem] theorem ze_166 : zeroA Tryd.prog 166 = some [.nilp, .nilp, .nilp, .str []] := by kernel_rfl
@[go_sem] theorem ei_166 : einfo Tryd.prog 166 = some (4, 40, 4) := by kernel_rfl
@[go_sem] theorem zv_166 : zeroV Tryd.prog 166 = some (.agg [.nilp, .nilp, .nilp, .str []]) := by kernel_rfl
@[go_sem] theorem fo_166_0 : fieldOff Tryd.prog 166 0 = some 0 := by kernel_rfl
@[go_sem] theorem fo_166_1 : fieldOff Tryd.prog 166 1 = some 1 := by kernel_rfl
@[go_sem] theorem fo_166_2 : fieldOff Tryd.prog 166 2 = some 2 := by kernel_rfl
@[go_sem] theorem fo_166_3 : fieldOff Tryd.prog 166 3 = some 3 := by kernel_rfl
@[go_sem] theorem ag_167 : aggT Tryd.prog 167 = some true := by kernel_rfl
@[go_sem] theorem sz_167 : sizeT Tryd.prog 167 = some 4 := by kernel_rfl
@[go_sem] theorem un_167 : Tryd.prog.underlying 167 = some (.struct #[{ name := "_interface", type := 17, offset := 0, embedded := false, tag := "", pkgPath := "runtime", byteOffset := 0 }, { name := "concrete", type := 17, offset := 1, embedded := false, tag := "", pkgPath := "runtime", byteOffset := 8 }, { name := "asserted", type := 17, offset := 2, embedded := false, tag := "", pkgPath := "runtime", byteOffset := 16 }, { name := "missingMethod", type := 9, offset := 3, embedded := false, tag := "", pkgPath := "runtime", byteOffset := 24 }]) := by kernel_rfl
@[go_sem] theorem ze_167 : zeroA Tryd.prog 167 = some [.nilp, .nilp, .nilp, .str []] := by kernel_rfl
@[go_sem] theorem ei_167 : einfo Tryd.prog 167 = some (4, 40, 4) := by kernel_rfl
@[go_sem] theorem zv_167 : zeroV Tryd.prog 167 = some (.agg [.nilp, .nilp, .nilp, .str []]) := by kernel_rfl
@[go_sem] theorem fo_167_0 : fieldOff Tryd.prog 167 0 = some 0 := by kernel_rfl
@[go_sem] theorem fo_167_1 : fieldOff Tryd.prog 167 1 = some 1 := by kernel_rfl
@[go_sem] theorem fo_167_2 : fieldOff Tryd.prog 167 2 = some 2 := by kernel_rfl
@[go_sem] theorem fo_167_3 : fieldOff Tryd.prog 167 3 = some 3 := by kernel_rfl
@[go_sem] theorem ag_168 : aggT Tryd.prog 168 = some true := by kernel_rfl
@[go_sem] theorem sz_168 : sizeT Tryd.prog 168 = some 0 := by kernel_rfl
@[go_sem] theorem un_168 : Tryd.prog.underlying 168 = some (.array 0 16) := by kernel_rfl
@[go_sem] theorem ze_168 : zeroA Tryd.prog 168 = some [] := by kernel_rfl
@[go_sem] theorem ei_168 : einfo Tryd.prog 168 = some (0, 0, 0) := by kernel_rfl
@[go_sem] theorem zv_168 : zeroV Tryd.prog 168 = some (.agg []) := by kernel_rfl
@[go_sem] theorem ag_169 : aggT Tryd.prog 169 = some true := by kernel_rfl
@[go_sem] theorem sz_169 : sizeT Tryd.prog 169 = some 0 := by kernel_rfl
@[go_sem] theorem un_169 : Tryd.prog.underlying 169 = some (.struct #[{ name := "_", type := 168, offset := 0, embedded := false, tag := "", pkgPath := "runtime", byteOffset := 0 }]) := by kernel_rfl
@[go_sem] theorem ze_169 : zeroA Tryd.prog 169 = some [] := by kernel_rfl
@[go_sem] theorem ei_169 : einfo Tryd.prog 169 = some (0, 0, 0) := by kernel_rfl
@[go_sem] theorem zv_169 : zeroV Tryd.prog 169 = some (.agg []) := by kernel_rfl
@[go_sem] theorem ag_170 : aggT Tryd.prog 170 = some true := by kernel_rfl
@[go_sem] theorem sz_170 : sizeT Tryd.prog 170 = some 0 := by kernel_rfl
@[go_sem] theorem un_170 : Tryd.prog.underlying 170 = some (.struct #[{ name := "_", type := 168, offset := 0, embedded := false, tag := "", pkgPath := "runtime", byteOffset := 0 }]) := by kernel_rfl
@[go_sem] theorem ze_170 : zeroA Tryd.prog 170 = some [] := by kernel_rfl
@[go_sem] theorem ei_170 : einfo Tryd.prog 170 = some (0, 0, 0) := by kernel_rfl
@[go_sem] theorem zv_170 : zeroV Tryd.prog 170 = some (.agg []) := by kernel_rfl
@[go_sem] theorem ag_171 : aggT Tryd.prog 171 = some false := by kernel_rfl
@[go_sem] theorem sz_171 : sizeT Tryd.prog 171 = some 1 := by kernel_rfl
@[go_sem] theorem un_171 : Tryd.prog.underlying 171 = some (.int .u8) := by kernel_rfl
@[go_sem] theorem ze_171 : zeroA Tryd.prog 171 = some [.int .u8 0] := by kernel_rfl
@[go_sem] theorem ei_171 : einfo Tryd.prog 171 = some (1, 1, 1) := by kernel_rfl
@[go_sem] theorem zv_171 : zeroV Tryd.prog 171 = some (.int .u8 0) := by kernel_rfl
@[go_sem] theorem ag_172 : aggT Tryd.prog 172 = some false := by kernel_rfl
@[go_sem] theorem sz_172 : sizeT Tryd.prog 172 = some 1 := by kernel_rfl
@[go_sem] theorem un_172 : Tryd.prog.underlying 172 = some (.int .u8) := by kernel_rfl
@[go_sem] theorem ze_172 : zeroA Tryd.prog 172 = some [.int .u8 0] := by kernel_rfl
@[go_sem] theorem ei_172 : einfo Tryd.prog 172 = some (1, 1, 1) := by kernel_rfl
@[go_sem] theorem zv_172 : zeroV Tryd.prog 172 = some (.int .u8 0) := by kernel_rfl
@[go_sem] theorem ag_173 : aggT Tryd.prog 173 = some false := by kernel_rfl
@[go_sem] theorem sz_173 : sizeT Tryd.prog 173 = some 1 := by kernel_rfl
@[go_sem] theorem un_173 : Tryd.prog.underlying 173 = some (.func #[110, 110] #[4] false) := by kernel_rfl
@[go_sem] theorem ze_173 : zeroA Tryd.prog 173 = some [.fnil] := by kernel_rfl
@[go_sem] theorem ei_173 : einfo Tryd.prog 173 = some (1, 8, 1) := by kernel_rfl
@[go_sem] theorem zv_173 : zeroV Tryd.prog 173 = some (.fnil) := by kernel_rfl
@[go_sem] theorem ag_174 : aggT Tryd.prog 174 = some false := by kernel_rfl
@[go_sem] theorem sz_174 : sizeT Tryd.prog 174 = some 1 := by kernel_rfl
@[go_sem] theorem un_174 : Tryd.prog.underlying 174 = some (.int .i32) := by kernel_rfl
@[go_sem] theorem ze_174 : zeroA Tryd.prog 174 = some [.int .i32 0] := by kernel_rfl
@[go_sem] theorem ei_174 : einfo Tryd.prog 174 = some (1, 4, 1) := by kernel_rfl
@[go_sem] theorem zv_174 : zeroV Tryd.prog 174 = some (.int .i32 0) := by kernel_rfl
@[go_sem] theorem ag_175 : aggT Tryd.prog 175 = some false := by kernel_rfl
@[go_sem] theorem sz_175 : sizeT Tryd.prog 175 = some 1 := by kernel_rfl
@[go_sem] theorem un_175 : Tryd.prog.underlying 175 = some (.int .i32) := by kernel_rfl
@[go_sem] theorem ze_175 : zeroA Tryd.prog 175 = some [.int .i32 0] := by kernel_rfl
@[go_sem] theorem ei_175 : einfo Tryd.prog 175 = some (1, 4, 1) := by kernel_rfl
@[go_sem] theorem zv_175 : zeroV Tryd.prog 175 = some (.int .i32 0) := by kernel_rfl
@[go_sem] theorem ag_176 : aggT Tryd.prog 176 = some true := by kernel_rfl
@[go_sem] theorem sz_176 : sizeT Tryd.prog 176 = some 11 := by kernel_rfl
@[go_sem] theorem un_176 : Tryd.prog.underlying 176 = some (.struct #[{ name := "Size_", type := 12, offset := 0, embedded := false, tag := "", pkgPath := "", byteOffset := 0 }, { name := "PtrBytes", type := 12, offset := 1, embedded := false, tag := "", pkgPath := "", byteOffset := 8 }, { name := "Hash", type := 42, offset := 2, embedded := false, tag := "", pkgPath := "", byteOffset := 16 }, { name := "TFlag", type := 171, offset := 3, embedded := false, tag := "", pkgPath := "", byteOffset := 20 }, { name := "Align_", type := 5, offset := 4, embedded := false, tag := "", pkgPath := "", byteOffset := 21 }, { name := "FieldAlign_", type := 5, offset := 5, embedded := false, tag := "", pkgPath := "", byteOffset := 22 }, { name := "Kind_", type := 172, offset := 6, embedded := false, tag := "", pkgPath := "", byteOffset := 23 }, { name := "Equal", type := 173, offset := 7, embedded := false, tag := "", pkgPath := "", byteOffset := 24 }, { name := "GCData", type := 101, offset := 8, embedded := false, tag := "", pkgPath := "", byteOffset := 32 }, { name := "Str", type := 174, offset := 9, embedded := false, tag := "", pkgPath := "", byteOffset := 40 }, { name := "PtrToThis", type := 175, offset := 10, embedded := false, tag := "", pkgPath := "", byteOffset := 44 }]) := by kernel_rfl
@[go_sem] theorem ze_176 : zeroA Tryd.prog 176 = some [.int .u64 0, .int .u64 0, .int .u32 0, .int .u8 0, .int .u8 0, .int .u8 0, .int .u8 0, .fnil, .nilp, .int .i32 0, .int .i32 0] := by kernel_rfl
@[go_sem] theorem ei_176 : einfo Tryd.prog 176 = some (11, 48, 11) := by kernel_rfl
@[go_sem] theorem zv_176 : zeroV Tryd.prog 176 = some (.agg [.int .u64 0, .int .u64 0, .int .u32 0, .int .u8 0, .int .u8 0, .int .u8 0, .int .u8 0, .fnil, .nilp, .int .i32 0, .int .i32 0]) := by kernel_rfl
@[go_sem] theorem fo_176_0 : fieldOff Tryd.prog 176 0 = some 0 := by kernel_rfl
@[go_sem] theorem fo_176_1 : fieldOff Tryd.prog 176 1 = some 1 := by kernel_rfl
@[go_sem] theorem fo_176_2 : fieldOff Tryd.prog 176 2 = some 2 := by kernel_rfl
@[go_sem] theorem fo_176_3 : fieldOff Tryd.prog 176 3 = some 3 := by kernel_rfl
@[go_sem] theorem fo_176_4 : fieldOff Tryd.prog 176 4 = some 4 := by kernel_rfl
@[go_sem] theorem fo_176_5 : fieldOff Tryd.prog 176 5 = some 5 := by kernel_rfl
@[go_sem] theorem fo_176_6 : fieldOff Tryd.prog 176 6 = some 6 := by kernel_rfl
@[go_sem] theorem fo_176_7 : fieldOff Tryd.prog 176 7 = some 7 := by kernel_rfl
@[go_sem] theorem fo_176_8 : fieldOff Tryd.prog 176 8 = some 8 := by kernel_rfl
@[go_sem] theorem fo_176_9 : fieldOff Tryd.prog 176 9 = some 9 := by kernel_rfl
@[go_sem] theorem fo_176_10 : fieldOff Tryd.prog 176 10 = some 10 := by kernel_rfl
@[go_sem] theorem ag_177 : aggT Tryd.prog 177 = some true := by kernel_rfl
@[go_sem] theorem sz_177 : sizeT Tryd.prog 177 = some 11 := by kernel_rfl
@[go_sem] theorem un_177 : Tryd.prog.underlying 177 = some (.struct #[{ name := "Size_", type := 12, offset := 0, embedded := false, tag := "", pkgPath := "", byteOffset := 0 }, { name := "PtrBytes", type := 12, offset := 1, embedded := false, tag := "", pkgPath := "", byteOffset := 8 }, { name := "Hash", type := 42, offset := 2, embedded := false, tag := "", pkgPath := "", byteOffset := 16 }, { name := "TFlag", type := 171, offset := 3, embedded := false, tag := "", pkgPath := "", byteOffset := 20 }, { name := "Align_", type := 5, offset := 4, embedded := false, tag := "", pkgPath := "", byteOffset := 21 }, { name := "FieldAlign_", type := 5, offset := 5, embedded := false, tag := "", pkgPath := "", byteOffset := 22 }, { name := "Kind_", type := 172, offset := 6, embedded := false, tag := "", pkgPath := "", byteOffset := 23 }, { name := "Equal", type := 173, offset := 7, embedded := false, tag := "", pkgPath := "", byteOffset := 24 }, { name := "GCData", type := 101, offset := 8, embedded := false, tag := "", pkgPath := "", byteOffset := 32 }, { name := "Str", type := 174, offset := 9, embedded := false, tag := "", pkgPath := "", byteOffset := 40 }, { name := "PtrToThis", type := 175, offset := 10, embedded := false, tag := "", pkgPath := "", byteOffset := 44 }]) := by kernel_rfl
@[go_sem] theorem ze_177 : zeroA Tryd.prog 177 = some [.int .u64 0, .int .u64 0, .int .u32 0, .int .u8 0, .int .u8 0, .int .u8 0, .int .u8 0, .fnil, .nilp, .int .i32 0, .int .i32 0] := by kernel_rfl
@[go_sem] theorem ei_177 : einfo Tryd.prog 177 = some (11, 48, 11) := by kernel_rfl
@[go_sem] theorem zv_177 : zeroV Tryd.prog 177 = some (.agg [.int .u64 0, .int .u64 0, .int .u32 0, .int .u8 0, .int .u8 0, .int .u8 0, .int .u8 0, .fnil, .nilp, .int .i32 0, .int .i32 0]) := by kernel_rfl
@[go_sem] theorem fo_177_0 : fieldOff Tryd.prog 177 0 = some 0 := by kernel_rfl
@[go_sem] theorem fo_177_1 : fieldOff Tryd.prog 177 1 = some 1 := by kernel_rfl
@[go_sem] theorem fo_177_2 : fieldOff Tryd.prog 177 2 = some 2 := by kernel_rfl
@[go_sem] theorem fo_177_3 : fieldOff Tryd.prog 177 3 = some 3 := by kernel_rfl
@[go_sem] theorem fo_177_4 : fieldOff Tryd.prog 177 4 = some 4 := by kernel_rfl
@[go_sem] theorem fo_177_5 : fieldOff Tryd.prog 177 5 = some 5 := by kernel_rfl
@[go_sem] theorem fo_177_6 : fieldOff Tryd.prog 177 6 = some 6 := by kernel_rfl
@[go_sem] theorem fo_177_7 : fieldOff Tryd.prog 177 7 = some 7 := by kernel_rfl
@[go_sem] theorem fo_177_8 : fieldOff Tryd.prog 177 8 = some 8 := by kernel_rfl
@[go_sem] theorem fo_177_9 : fieldOff Tryd.prog 177 9 = some 9 := by kernel_rfl
@[go_sem] theorem fo_177_10 : fieldOff Tryd.prog 177 10 = some 10 := by kernel_rfl
@[go_sem] theorem bl_1 : isBld Tryd.prog 1 = false := by kernel_rfl
@[go_sem] theorem bl_2 : isBld Tryd.prog 2 = false := by kernel_rfl
@[go_sem] theorem bl_3 : isBld Tryd.prog 3 = false := by kernel_rfl
@[go_sem] theorem bl_4 : isBld Tryd.prog 4 = false := by kernel_rfl
@[go_sem] theorem bl_5 : isBld Tryd.prog 5 = false := by kernel_rfl
@[go_sem] theorem co_5 : Tryd.prog.cellsOf 5 = 1 := by kernel_rfl
@[go_sem] theorem bl_6 : isBld Tryd.prog 6 = false := by kernel_rfl
@[go_sem] theorem co_6 : Tryd.prog.cellsOf 6 = 1 := by kernel_rfl
@[go_sem] theorem bl_7 : isBld Tryd.prog 7 = false := by kernel_rfl
@[go_sem] theorem bl_8 : isBld Tryd.prog 8 = false := by kernel_rfl
@[go_sem] theorem bl_9 : isBld Tryd.prog 9 = false := by kernel_rfl
@[go_sem] theorem bl_10 : isBld Tryd.prog 10 = false := by kernel_rfl
@[go_sem] theorem bl_11 : isBld Tryd.prog 11 = false := by kernel_rfl
@[go_sem] theorem bl_12 : isBld Tryd.prog 12 = false := by kernel_rfl
@[go_sem] theorem bl_13 : isBld Tryd.prog 13 = false := by kernel_rfl
@[go_sem] theorem bl_14 : isBld Tryd.prog 14 = false := by kernel_rfl
@[go_sem] theorem bl_15 : isBld Tryd.prog 15 = false := by kernel_rfl
@[go_sem] theorem bl_16 : isBld Tryd.prog 16 = false := by kernel_rfl
@[go_sem] theorem bl_17 : isBld Tryd.prog 17 = false := by kernel_rfl
@[go_sem] theorem bl_18 : isBld Tryd.prog 18 = false := by kernel_rfl
@[go_sem] theorem bl_19 : isBld Tryd.prog 19 = false := by kernel_rfl
@[go_sem] theorem bl_20 : isBld Tryd.prog 20 = false := by kernel_rfl
@[go_sem] theorem bl_21 : isBld Tryd.prog 21 = false := by kernel_rfl
@[go_sem] theorem bl_22 : isBld Tryd.prog 22 = false := by kernel_rfl
@[go_sem] theorem bl_23 : isBld Tryd.prog 23 = false := by kernel_rfl
@[go_sem] theorem bl_24 : isBld Tryd.prog 24 = false := by kernel_rfl
@[go_sem] theorem bl_25 : isBld Tryd.prog 25 = false := by kernel_rfl
@[go_sem] theorem bl_26 : isBld Tryd.prog 26 = false := by kernel_rfl
@[go_sem] theorem bl_27 : isBld Tryd.prog 27 = false := by kernel_rfl
@[go_sem] theorem bl_28 : isBld Tryd.prog 28 = false := by kernel_rfl
@[go_sem] theorem bl_29 : isBld Tryd.prog 29 = false := by kernel_rfl
@[go_sem] theorem bl_30 : isBld Tryd.prog 30 = false := by kernel_rfl
@[go_sem] theorem bl_31 : isBld Tryd.prog 31 = false := by kernel_rfl
@[go_sem] theorem bl_32 : isBld Tryd.prog 32 = false := by kernel_rfl
@[go_sem] theorem bl_33 : isBld Tryd.prog 33 = false := by kernel_rfl
@[go_sem] theorem bl_34 : isBld Tryd.prog 34 = false := by kernel_rfl
@[go_sem] theorem bl_36 : isBld Tryd.prog 36 = false := by kernel_rfl
@[go_sem] theorem bl_37 : isBld Tryd.prog 37 = false := by kernel_rfl
@[go_sem] theorem bl_38 : isBld Tryd.prog 38 = false := by kernel_rfl
@[go_sem] theorem bl_39 : isBld Tryd.prog 39 = false := by kernel_rfl
@[go_sem] theorem bl_40 : isBld Tryd.prog 40 = false := by kernel_rfl
@[go_sem] theorem bl_41 : isBld Tryd.prog 41 = false := by kernel_rfl
@[go_sem] theorem bl_42 : isBld Tryd.prog 42 = false := by kernel_rfl
@[go_sem] theorem bl_43 : isBld Tryd.prog 43 = false := by kernel_rfl
@[go_sem] theorem bl_45 : isBld Tryd.prog 45 = false := by kernel_rfl
@[go_sem] theorem bl_46 : isBld Tryd.prog 46 = false := by kernel_rfl
@[go_sem] theorem bl_47 : isBld Tryd.prog 47 = false := by kernel_rfl
@[go_sem] theorem bl_48 : isBld Tryd.prog 48 = false := by kernel_rfl
@[go_sem] theorem bl_49 : isBld Tryd.prog 49 = false := by kernel_rfl
@[go_sem] theorem bl_50 : isBld Tryd.prog 50 = false := by kernel_rfl
@[go_sem] theorem bl_51 : isBld Tryd.prog 51 = false := by kernel_rfl
@[go_sem] theorem bl_52 : isBld Tryd.prog 52 = false := by kernel_rfl
@[go_sem] theorem bl_54 : isBld Tryd.prog 54 = false := by kernel_rfl
@[go_sem] theorem bl_55 : isBld Tryd.prog 55 = false := by kernel_rfl
@[go_sem] theorem bl_56 : isBld Tryd.prog 56 = false := by kernel_rfl
@[go_sem] theorem bl_57 : isBld Tryd.prog 57 = false := by kernel_rfl
@[go_sem] theorem bl_58 : isBld Tryd.prog 58 = false := by kernel_rfl
@[go_sem] theorem bl_59 : isBld Tryd.prog 59 = false := by kernel_rfl
@[go_sem] theorem bl_60 : isBld Tryd.prog 60 = false := by kernel_rfl
@[go_sem] theorem bl_61 : isBld Tryd.prog 61 = false := by kernel_rfl
@[go_sem] theorem bl_62 : isBld Tryd.prog 62 = false := by kernel_rfl
@[go_sem] theorem bl_64 : isBld Tryd.prog 64 = false := by kernel_rfl
@[go_sem] theorem bl_65 : isBld Tryd.prog 65 = false := by kernel_rfl
@[go_sem] theorem bl_66 : isBld Tryd.prog 66 = false := by kernel_rfl
@[go_sem] theorem bl_67 : isBld Tryd.prog 67 = false := by kernel_rfl
@[go_sem] theorem bl_68 : isBld Tryd.prog 68 = false := by kernel_rfl
@[go_sem] theorem bl_69 : isBld Tryd.prog 69 = false := by kernel_rfl
@[go_sem] theorem bl_70 : isBld Tryd.prog 70 = false := by kernel_rfl
@[go_sem] theorem bl_71 : isBld Tryd.prog 71 = false := by kernel_rfl
@[go_sem] theorem bl_72 : isBld Tryd.prog 72 = false := by kernel_rfl
@[go_sem] theorem bl_73 : isBld Tryd.prog 73 = false := by kernel_rfl
@[go_sem] theorem bl_74 : isBld Tryd.prog 74 = false := by kernel_rfl
@[go_sem] theorem bl_75 : isBld Tryd.prog 75 = false := by kernel_rfl
@[go_sem] theorem bl_76 : isBld Tryd.prog 76 = false := by kernel_rfl
@[go_sem] theorem bl_77 : isBld Tryd.prog 77 = false := by kernel_rfl
@[go_sem] theorem bl_78 : isBld Tryd.prog 78 = false := by kernel_rfl
@[go_sem] theorem bl_79 : isBld Tryd.prog 79 = false := by kernel_rfl
@[go_sem] theorem bl_80 : isBld Tryd.prog 80 = false := by kernel_rfl
@[go_sem] theorem bl_81 : isBld Tryd.prog 81 = true := by kernel_rfl
@[go_sem] theorem lo_81 : liesOk Tryd.prog 81 2 = true := by kernel_rfl
@[go_sem] theorem bl_82 : isBld Tryd.prog 82 = true := by kernel_rfl
@[go_sem] theorem lo_82 : liesOk Tryd.prog 82 2 = true := by kernel_rfl
@[go_sem] theorem bl_83 : isBld Tryd.prog 83 = false := by kernel_rfl
@[go_sem] theorem bl_84 : isBld Tryd.prog 84 = false := by kernel_rfl
@[go_sem] theorem bl_86 : isBld Tryd.prog 86 = false := by kernel_rfl
@[go_sem] theorem bl_87 : isBld Tryd.prog 87 = false := by kernel_rfl
@[go_sem] theorem bl_88 : isBld Tryd.prog 88 = false := by kernel_rfl
@[go_sem] theorem bl_90 : isBld Tryd.prog 90 = false := by kernel_rfl
@[go_sem] theorem bl_91 : isBld Tryd.prog 91 = false := by kernel_rfl
@[go_sem] theorem bl_92 : isBld Tryd.prog 92 = false := by kernel_rfl
@[go_sem] theorem bl_93 : isBld Tryd.prog 93 = false := by kernel_rfl
@[go_sem] theorem bl_94 : isBld Tryd.prog 94 = false := by kernel_rfl
@[go_sem] theorem bl_95 : isBld Tryd.prog 95 = false := by kernel_rfl
@[go_sem] theorem bl_96 : isBld Tryd.prog 96 = false := by kernel_rfl
@[go_sem] theorem bl_97 : isBld Tryd.prog 97 = false := by kernel_rfl
@[go_sem] theorem bl_98 : isBld Tryd.prog 98 = false := by kernel_rfl
@[go_sem] theorem bl_99 : isBld Tryd.prog 99 = false := by kernel_rfl
@[go_sem] theorem bl_100 : isBld Tryd.prog 100 = false := by kernel_rfl
@[go_sem] theorem bl_101 : isBld Tryd.prog 101 = false := by kernel_rfl
@[go_sem] theorem bl_102 : isBld Tryd.prog 102 = false := by kernel_rfl
@[go_sem] theorem bl_103 : isBld Tryd.prog 103 = false := by kernel_rfl
@[go_sem] theorem bl_104 : isBld Tryd.prog 104 = false := by kernel_rfl
@[go_sem] theorem bl_106 : isBld Tryd.prog 106 = false := by kernel_rfl
@[go_sem] theorem bl_107 : isBld Tryd.prog 107 = false := by kernel_rfl
@[go_sem] theorem bl_108 : isBld Tryd.prog 108 = false := by kernel_rfl
@[go_sem] theorem bl_109 : isBld Tryd.prog 109 = false := by kernel_rfl
@[go_sem] theorem bl_110 : isBld Tryd.prog 110 = false := by kernel_rfl
@[go_sem] theorem bl_111 : isBld Tryd.prog 111 = false := by kernel_rfl
@[go_sem] theorem bl_112 : isBld Tryd.prog 112 = false := by kernel_rfl
@[go_sem] theorem bl_113 : isBld Tryd.prog 113 = false := by kernel_rfl
@[go_sem] theorem bl_115 : isBld Tryd.prog 115 = false := by kernel_rfl
@[go_sem] theorem bl_116 : isBld Tryd.prog 116 = false := by kernel_rfl
@[go_sem] theorem bl_117 : isBld Tryd.prog 117 = false := by kernel_rfl
@[go_sem] theorem bl_118 : isBld Tryd.prog 118 = false := by kernel_rfl
@[go_sem] theorem bl_120 : isBld Tryd.prog 120 = false := by kernel_rfl
@[go_sem] theorem bl_121 : isBld Tryd.prog 121 = false := by kernel_rfl
@[go_sem] theorem bl_123 : isBld Tryd.prog 123 = false := by kernel_rfl
@[go_sem] theorem bl_125 : isBld Tryd.prog 125 = false := by kernel_rfl
@[go_sem] theorem bl_126 : isBld Tryd.prog 126 = false := by kernel_rfl
@[go_sem] theorem bl_127 : isBld Tryd.prog 127 = false := by kernel_rfl
@[go_sem] theorem bl_128 : isBld Tryd.prog 128 = false := by kernel_rfl
@[go_sem] theorem bl_129 : isBld Tryd.prog 129 = false := by kernel_rfl
@[go_sem] theorem bl_130 : isBld Tryd.prog 130 = false := by kernel_rfl
@[go_sem] theorem bl_131 : isBld Tryd.prog 131 = false := by kernel_rfl
@[go_sem] theorem bl_132 : isBld Tryd.prog 132 = false := by kernel_rfl
@[go_sem] theorem bl_133 : isBld Tryd.prog 133 = false := by kernel_rfl
@[go_sem] theorem bl_135 : isBld Tryd.prog 135 = false := by kernel_rfl
@[go_sem] theorem bl_136 : isBld Tryd.prog 136 = false := by kernel_rfl
@[go_sem] theorem bl_137 : isBld Tryd.prog 137 = false := by kernel_rfl
@[go_sem] theorem bl_138 : isBld Tryd.prog 138 = false := by kernel_rfl
@[go_sem] theorem bl_139 : isBld Tryd.prog 139 = false := by kernel_rfl
@[go_sem] theorem bl_140 : isBld Tryd.prog 140 = false := by kernel_rfl
@[go_sem] theorem bl_142 : isBld Tryd.prog 142 = false := by kernel_rfl
@[go_sem] theorem bl_143 : isBld Tryd.prog 143 = false := by kernel_rfl
@[go_sem] theorem bl_144 : isBld Tryd.prog 144 = false := by kernel_rfl
@[go_sem] theorem bl_146 : isBld Tryd.prog 146 = false := by kernel_rfl
@[go_sem] theorem bl_147 : isBld Tryd.prog 147 = false := by kernel_rfl
@[go_sem] theorem bl_148 : isBld Tryd.prog 148 = false := by kernel_rfl
@[go_sem] theorem bl_149 : isBld Tryd.prog 149 = false := by kernel_rfl
@[go_sem] theorem bl_150 : isBld Tryd.prog 150 = false := by kernel_rfl
@[go_sem] theorem bl_151 : isBld Tryd.prog 151 = false := by kernel_rfl
@[go_sem] theorem bl_152 : isBld Tryd.prog 152 = false := by kernel_rfl
@[go_sem] theorem bl_153 : isBld Tryd.prog 153 = false := by kernel_rfl
@[go_sem] theorem bl_154 : isBld Tryd.prog 154 = false := by kernel_rfl
@[go_sem] theorem bl_155 : isBld Tryd.prog 155 = false := by kernel_rfl
@[go_sem] theorem bl_156 : isBld Tryd.prog 156 = false := by kernel_rfl
@[go_sem] theorem bl_157 : isBld Tryd.prog 157 = false := by kernel_rfl
@[go_sem] theorem bl_158 : isBld Tryd.prog 158 = false := by kernel_rfl
@[go_sem] theorem bl_159 : isBld Tryd.prog 159 = false := by kernel_rfl
@[go_sem] theorem bl_160 : isBld Tryd.prog 160 = false := by kernel_rfl
@[go_sem] theorem bl_161 : isBld Tryd.prog 161 = false := by kernel_rfl
@[go_sem] theorem bl_162 : isBld Tryd.prog 162 = false := by kernel_rfl
@[go_sem] theorem bl_163 : isBld Tryd.prog 163 = false := by kernel_rfl
@[go_sem] theorem bl_164 : isBld Tryd.prog 164 = false := by kernel_rfl
@[go_sem] theorem bl_165 : isBld Tryd.prog 165 = false := by kernel_rfl
@[go_sem] theorem bl_166 : isBld Tryd.prog 166 = false := by kernel_rfl
@[go_sem] theorem bl_167 : isBld Tryd.prog 167 = false := by kernel_rfl
@[go_sem] theorem bl_168 : isBld Tryd.prog 168 = false := by kernel_rfl
@[go_sem] theorem bl_169 : isBld Tryd.prog 169 = false := by kernel_rfl
@[go_sem] theorem bl_170 : isBld Tryd.prog 170 = false := by kernel_rfl
@[go_sem] theorem bl_171 : isBld Tryd.prog 171 = false := by kernel_rfl
@[go_sem] theorem co_171 : Tryd.prog.cellsOf 171 = 1 := by kernel_rfl
@[go_sem] theorem bl_172 : isBld Tryd.prog 172 = false := by kernel_rfl
@[go_sem] theorem co_172 : Tryd.prog.cellsOf 172 = 1 := by kernel_rfl
@[go_sem] theorem bl_173 : isBld Tryd.prog 173 = false := by kernel_rfl
@[go_sem] theorem bl_174 : isBld Tryd.prog 174 = false := by kernel_rfl
@[go_sem] theorem bl_175 : isBld Tryd.prog 175 = false := by kernel_rfl
@[go_sem] theorem bl_176 : isBld Tryd.prog 176 = false := by kernel_rfl
@[go_sem] theorem bl_177 : isBld Tryd.prog 177 = false := by kernel_rfl
theorem mixed : Tryd.prog.follows .mixedOrders = true := by kernel_rfl
end Go.Proofs.YtnndmokndgnidaaDoor
