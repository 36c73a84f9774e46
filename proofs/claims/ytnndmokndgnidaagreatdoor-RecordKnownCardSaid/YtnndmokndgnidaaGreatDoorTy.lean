/- YtnndmokndgnidaaGreatDoorTy. Texts of the proof of a law about recordings: a layer of abstract values above the worlds, the types, the walks of the functions that the law reaches, the law and its card. Own work of an AI agent. -/
import Derived.Test.YtnndmokndgnidaaGreatDoorProg
import Derived.Test.YtnndmokndgnidaaGreatDoorCore1
set_option linter.all false
set_option linter.unusedVariables false
set_option linter.unusedSimpArgs false
namespace Go.Proofs.YtnndmokndgnidaaGreatDoor
open Go.Fen
attribute [go_sem] Int.reduceBEq Int.reduceBNe Nat.reduceBEq Nat.reduceEqDiff Nat.reduceLT Nat.reduceAdd Nat.reduceSub Nat.reduceMul Nat.reduceLeDiff reduceCtorEq Int.reduceToNat Int.reduceAdd Int.reduceSub Int.reduceMul Int.reduceLT Int.reduceLE Int.reduceNeg Int.reduceEq
attribute [go_sem ↓] reduceIte
@[go_sem] theorem ag_1 : aggT Tryz.prog 1 = some false := by kernel_rfl
@[go_sem] theorem sz_1 : sizeT Tryz.prog 1 = some 1 := by kernel_rfl
@[go_sem] theorem un_1 : Tryz.prog.underlying 1 = some (.func #[] #[] false) := by kernel_rfl
@[go_sem] theorem ze_1 : zeroA Tryz.prog 1 = some [.fnil] := by kernel_rfl
@[go_sem] theorem ei_1 : einfo Tryz.prog 1 = some (1, 8, 1) := by kernel_rfl
@[go_sem] theorem zv_1 : zeroV Tryz.prog 1 = some (.fnil) := by kernel_rfl
@[go_sem] theorem ag_2 : aggT Tryz.prog 2 = some false := by kernel_rfl
@[go_sem] theorem sz_2 : sizeT Tryz.prog 2 = some 1 := by kernel_rfl
@[go_sem] theorem un_2 : Tryz.prog.underlying 2 = some (.int .i64) := by kernel_rfl
@[go_sem] theorem ze_2 : zeroA Tryz.prog 2 = some [.int .i64 0] := by kernel_rfl
@[go_sem] theorem ei_2 : einfo Tryz.prog 2 = some (1, 8, 1) := by kernel_rfl
@[go_sem] theorem zv_2 : zeroV Tryz.prog 2 = some (.int .i64 0) := by kernel_rfl
@[go_sem] theorem ag_3 : aggT Tryz.prog 3 = some false := by kernel_rfl
@[go_sem] theorem sz_3 : sizeT Tryz.prog 3 = some 1 := by kernel_rfl
@[go_sem] theorem un_3 : Tryz.prog.underlying 3 = some (.int .i64) := by kernel_rfl
@[go_sem] theorem ze_3 : zeroA Tryz.prog 3 = some [.int .i64 0] := by kernel_rfl
@[go_sem] theorem ei_3 : einfo Tryz.prog 3 = some (1, 8, 1) := by kernel_rfl
@[go_sem] theorem zv_3 : zeroV Tryz.prog 3 = some (.int .i64 0) := by kernel_rfl
@[go_sem] theorem ag_4 : aggT Tryz.prog 4 = some false := by kernel_rfl
@[go_sem] theorem sz_4 : sizeT Tryz.prog 4 = some 1 := by kernel_rfl
@[go_sem] theorem un_4 : Tryz.prog.underlying 4 = some (.bool) := by kernel_rfl
@[go_sem] theorem ze_4 : zeroA Tryz.prog 4 = some [.bool false] := by kernel_rfl
@[go_sem] theorem ei_4 : einfo Tryz.prog 4 = some (1, 1, 1) := by kernel_rfl
@[go_sem] theorem zv_4 : zeroV Tryz.prog 4 = some (.bool false) := by kernel_rfl
@[go_sem] theorem ag_5 : aggT Tryz.prog 5 = some false := by kernel_rfl
@[go_sem] theorem sz_5 : sizeT Tryz.prog 5 = some 1 := by kernel_rfl
@[go_sem] theorem un_5 : Tryz.prog.underlying 5 = some (.int .u8) := by kernel_rfl
@[go_sem] theorem ze_5 : zeroA Tryz.prog 5 = some [.int .u8 0] := by kernel_rfl
@[go_sem] theorem ei_5 : einfo Tryz.prog 5 = some (1, 1, 1) := by kernel_rfl
@[go_sem] theorem zv_5 : zeroV Tryz.prog 5 = some (.int .u8 0) := by kernel_rfl
@[go_sem] theorem ag_9 : aggT Tryz.prog 9 = some false := by kernel_rfl
@[go_sem] theorem sz_9 : sizeT Tryz.prog 9 = some 1 := by kernel_rfl
@[go_sem] theorem un_9 : Tryz.prog.underlying 9 = some (.string) := by kernel_rfl
@[go_sem] theorem ze_9 : zeroA Tryz.prog 9 = some [.str []] := by kernel_rfl
@[go_sem] theorem ei_9 : einfo Tryz.prog 9 = some (1, 16, 1) := by kernel_rfl
@[go_sem] theorem zv_9 : zeroV Tryz.prog 9 = some (.str []) := by kernel_rfl
@[go_sem] theorem ag_20 : aggT Tryz.prog 20 = some false := by kernel_rfl
@[go_sem] theorem sz_20 : sizeT Tryz.prog 20 = some 1 := by kernel_rfl
@[go_sem] theorem un_20 : Tryz.prog.underlying 20 = some (.interface #[]) := by kernel_rfl
@[go_sem] theorem ze_20 : zeroA Tryz.prog 20 = some [.inil] := by kernel_rfl
@[go_sem] theorem ei_20 : einfo Tryz.prog 20 = some (1, 16, 1) := by kernel_rfl
@[go_sem] theorem zv_20 : zeroV Tryz.prog 20 = some (.inil) := by kernel_rfl
@[go_sem] theorem ag_22 : aggT Tryz.prog 22 = some false := by kernel_rfl
@[go_sem] theorem sz_22 : sizeT Tryz.prog 22 = some 1 := by kernel_rfl
@[go_sem] theorem un_22 : Tryz.prog.underlying 22 = some (.slice 29) := by kernel_rfl
@[go_sem] theorem ze_22 : zeroA Tryz.prog 22 = some [.snil] := by kernel_rfl
@[go_sem] theorem ei_22 : einfo Tryz.prog 22 = some (1, 24, 1) := by kernel_rfl
@[go_sem] theorem zv_22 : zeroV Tryz.prog 22 = some (.snil) := by kernel_rfl
@[go_sem] theorem ag_23 : aggT Tryz.prog 23 = some true := by kernel_rfl
@[go_sem] theorem sz_23 : sizeT Tryz.prog 23 = some 3 := by kernel_rfl
@[go_sem] theorem un_23 : Tryz.prog.underlying 23 = some (.struct #[{ name := "Cols", type := 3, offset := 0, embedded := false, tag := "", pkgPath := "", byteOffset := 0 }, { name := "Rows", type := 3, offset := 1, embedded := false, tag := "", pkgPath := "", byteOffset := 8 }, { name := "Items", type := 22, offset := 2, embedded := false, tag := "", pkgPath := "", byteOffset := 16 }]) := by kernel_rfl
@[go_sem] theorem ze_23 : zeroA Tryz.prog 23 = some [.int .i64 0, .int .i64 0, .snil] := by kernel_rfl
@[go_sem] theorem ei_23 : einfo Tryz.prog 23 = some (3, 40, 3) := by kernel_rfl
@[go_sem] theorem zv_23 : zeroV Tryz.prog 23 = some (.agg [.int .i64 0, .int .i64 0, .snil]) := by kernel_rfl
@[go_sem] theorem fo_23_0 : fieldOff Tryz.prog 23 0 = some 0 := by kernel_rfl
@[go_sem] theorem fo_23_1 : fieldOff Tryz.prog 23 1 = some 1 := by kernel_rfl
@[go_sem] theorem fo_23_2 : fieldOff Tryz.prog 23 2 = some 2 := by kernel_rfl
@[go_sem] theorem ag_24 : aggT Tryz.prog 24 = some true := by kernel_rfl
@[go_sem] theorem sz_24 : sizeT Tryz.prog 24 = some 3 := by kernel_rfl
@[go_sem] theorem un_24 : Tryz.prog.underlying 24 = some (.struct #[{ name := "Cols", type := 3, offset := 0, embedded := false, tag := "", pkgPath := "", byteOffset := 0 }, { name := "Rows", type := 3, offset := 1, embedded := false, tag := "", pkgPath := "", byteOffset := 8 }, { name := "Items", type := 22, offset := 2, embedded := false, tag := "", pkgPath := "", byteOffset := 16 }]) := by kernel_rfl
@[go_sem] theorem ze_24 : zeroA Tryz.prog 24 = some [.int .i64 0, .int .i64 0, .snil] := by kernel_rfl
@[go_sem] theorem ei_24 : einfo Tryz.prog 24 = some (3, 40, 3) := by kernel_rfl
@[go_sem] theorem zv_24 : zeroV Tryz.prog 24 = some (.agg [.int .i64 0, .int .i64 0, .snil]) := by kernel_rfl
@[go_sem] theorem fo_24_0 : fieldOff Tryz.prog 24 0 = some 0 := by kernel_rfl
@[go_sem] theorem fo_24_1 : fieldOff Tryz.prog 24 1 = some 1 := by kernel_rfl
@[go_sem] theorem fo_24_2 : fieldOff Tryz.prog 24 2 = some 2 := by kernel_rfl
@[go_sem] theorem ag_25 : aggT Tryz.prog 25 = some false := by kernel_rfl
@[go_sem] theorem sz_25 : sizeT Tryz.prog 25 = some 1 := by kernel_rfl
@[go_sem] theorem un_25 : Tryz.prog.underlying 25 = some (.slice 62) := by kernel_rfl
@[go_sem] theorem ze_25 : zeroA Tryz.prog 25 = some [.snil] := by kernel_rfl
@[go_sem] theorem ei_25 : einfo Tryz.prog 25 = some (1, 24, 1) := by kernel_rfl
@[go_sem] theorem zv_25 : zeroV Tryz.prog 25 = some (.snil) := by kernel_rfl
@[go_sem] theorem ag_26 : aggT Tryz.prog 26 = some true := by kernel_rfl
@[go_sem] theorem sz_26 : sizeT Tryz.prog 26 = some 3 := by kernel_rfl
@[go_sem] theorem un_26 : Tryz.prog.underlying 26 = some (.struct #[{ name := "Cols", type := 5, offset := 0, embedded := false, tag := "", pkgPath := "", byteOffset := 0 }, { name := "Rows", type := 5, offset := 1, embedded := false, tag := "", pkgPath := "", byteOffset := 1 }, { name := "Items", type := 25, offset := 2, embedded := false, tag := "", pkgPath := "", byteOffset := 8 }]) := by kernel_rfl
@[go_sem] theorem ze_26 : zeroA Tryz.prog 26 = some [.int .u8 0, .int .u8 0, .snil] := by kernel_rfl
@[go_sem] theorem ei_26 : einfo Tryz.prog 26 = some (3, 32, 3) := by kernel_rfl
@[go_sem] theorem zv_26 : zeroV Tryz.prog 26 = some (.agg [.int .u8 0, .int .u8 0, .snil]) := by kernel_rfl
@[go_sem] theorem fo_26_0 : fieldOff Tryz.prog 26 0 = some 0 := by kernel_rfl
@[go_sem] theorem fo_26_1 : fieldOff Tryz.prog 26 1 = some 1 := by kernel_rfl
@[go_sem] theorem fo_26_2 : fieldOff Tryz.prog 26 2 = some 2 := by kernel_rfl
@[go_sem] theorem ag_27 : aggT Tryz.prog 27 = some true := by kernel_rfl
@[go_sem] theorem sz_27 : sizeT Tryz.prog 27 = some 3 := by kernel_rfl
@[go_sem] theorem un_27 : Tryz.prog.underlying 27 = some (.struct #[{ name := "Cols", type := 5, offset := 0, embedded := false, tag := "", pkgPath := "", byteOffset := 0 }, { name := "Rows", type := 5, offset := 1, embedded := false, tag := "", pkgPath := "", byteOffset := 1 }, { name := "Items", type := 25, offset := 2, embedded := false, tag := "", pkgPath := "", byteOffset := 8 }]) := by kernel_rfl
@[go_sem] theorem ze_27 : zeroA Tryz.prog 27 = some [.int .u8 0, .int .u8 0, .snil] := by kernel_rfl
@[go_sem] theorem ei_27 : einfo Tryz.prog 27 = some (3, 32, 3) := by kernel_rfl
@[go_sem] theorem zv_27 : zeroV Tryz.prog 27 = some (.agg [.int .u8 0, .int .u8 0, .snil]) := by kernel_rfl
@[go_sem] theorem fo_27_0 : fieldOff Tryz.prog 27 0 = some 0 := by kernel_rfl
@[go_sem] theorem fo_27_1 : fieldOff Tryz.prog 27 1 = some 1 := by kernel_rfl
@[go_sem] theorem fo_27_2 : fieldOff Tryz.prog 27 2 = some 2 := by kernel_rfl
@[go_sem] theorem ag_28 : aggT Tryz.prog 28 = some true := by kernel_rfl
@[go_sem] theorem sz_28 : sizeT Tryz.prog 28 = some 5 := by kernel_rfl
@[go_sem] theorem un_28 : Tryz.prog.underlying 28 = some (.struct #[{ name := "Wait", type := 3, offset := 0, embedded := false, tag := "", pkgPath := "", byteOffset := 0 }, { name := "Kind", type := 3, offset := 1, embedded := false, tag := "", pkgPath := "", byteOffset := 8 }, { name := "Cols", type := 3, offset := 2, embedded := false, tag := "", pkgPath := "", byteOffset := 16 }, { name := "Rows", type := 3, offset := 3, embedded := false, tag := "", pkgPath := "", byteOffset := 24 }, { name := "Text", type := 9, offset := 4, embedded := false, tag := "", pkgPath := "", byteOffset := 32 }]) := by kernel_rfl
@[go_sem] theorem ze_28 : zeroA Tryz.prog 28 = some [.int .i64 0, .int .i64 0, .int .i64 0, .int .i64 0, .str []] := by kernel_rfl
@[go_sem] theorem ei_28 : einfo Tryz.prog 28 = some (5, 48, 5) := by kernel_rfl
@[go_sem] theorem zv_28 : zeroV Tryz.prog 28 = some (.agg [.int .i64 0, .int .i64 0, .int .i64 0, .int .i64 0, .str []]) := by kernel_rfl
@[go_sem] theorem eg_28 : Tryz.prog.eqGuardType Tryz.prog.depth 28 = false := by kernel_rfl
@[go_sem] theorem sh_28 : Tryz.prog.stoodInHeld 28 = false := by kernel_rfl
@[go_sem] theorem fo_28_0 : fieldOff Tryz.prog 28 0 = some 0 := by kernel_rfl
@[go_sem] theorem fo_28_1 : fieldOff Tryz.prog 28 1 = some 1 := by kernel_rfl
@[go_sem] theorem fo_28_2 : fieldOff Tryz.prog 28 2 = some 2 := by kernel_rfl
@[go_sem] theorem fo_28_3 : fieldOff Tryz.prog 28 3 = some 3 := by kernel_rfl
@[go_sem] theorem fo_28_4 : fieldOff Tryz.prog 28 4 = some 4 := by kernel_rfl
@[go_sem] theorem ag_29 : aggT Tryz.prog 29 = some true := by kernel_rfl
@[go_sem] theorem sz_29 : sizeT Tryz.prog 29 = some 5 := by kernel_rfl
@[go_sem] theorem un_29 : Tryz.prog.underlying 29 = some (.struct #[{ name := "Wait", type := 3, offset := 0, embedded := false, tag := "", pkgPath := "", byteOffset := 0 }, { name := "Kind", type := 3, offset := 1, embedded := false, tag := "", pkgPath := "", byteOffset := 8 }, { name := "Cols", type := 3, offset := 2, embedded := false, tag := "", pkgPath := "", byteOffset := 16 }, { name := "Rows", type := 3, offset := 3, embedded := false, tag := "", pkgPath := "", byteOffset := 24 }, { name := "Text", type := 9, offset := 4, embedded := false, tag := "", pkgPath := "", byteOffset := 32 }]) := by kernel_rfl
@[go_sem] theorem ze_29 : zeroA Tryz.prog 29 = some [.int .i64 0, .int .i64 0, .int .i64 0, .int .i64 0, .str []] := by kernel_rfl
@[go_sem] theorem ei_29 : einfo Tryz.prog 29 = some (5, 48, 5) := by kernel_rfl
@[go_sem] theorem zv_29 : zeroV Tryz.prog 29 = some (.agg [.int .i64 0, .int .i64 0, .int .i64 0, .int .i64 0, .str []]) := by kernel_rfl
@[go_sem] theorem eg_29 : Tryz.prog.eqGuardType Tryz.prog.depth 29 = false := by kernel_rfl
@[go_sem] theorem sh_29 : Tryz.prog.stoodInHeld 29 = false := by kernel_rfl
@[go_sem] theorem fo_29_0 : fieldOff Tryz.prog 29 0 = some 0 := by kernel_rfl
@[go_sem] theorem fo_29_1 : fieldOff Tryz.prog 29 1 = some 1 := by kernel_rfl
@[go_sem] theorem fo_29_2 : fieldOff Tryz.prog 29 2 = some 2 := by kernel_rfl
@[go_sem] theorem fo_29_3 : fieldOff Tryz.prog 29 3 = some 3 := by kernel_rfl
@[go_sem] theorem fo_29_4 : fieldOff Tryz.prog 29 4 = some 4 := by kernel_rfl
@[go_sem] theorem ag_34 : aggT Tryz.prog 34 = some false := by kernel_rfl
@[go_sem] theorem sz_34 : sizeT Tryz.prog 34 = some 1 := by kernel_rfl
@[go_sem] theorem un_34 : Tryz.prog.underlying 34 = some (.int .i64) := by kernel_rfl
@[go_sem] theorem ze_34 : zeroA Tryz.prog 34 = some [.int .i64 0] := by kernel_rfl
@[go_sem] theorem ei_34 : einfo Tryz.prog 34 = some (1, 8, 1) := by kernel_rfl
@[go_sem] theorem zv_34 : zeroV Tryz.prog 34 = some (.int .i64 0) := by kernel_rfl
@[go_sem] theorem ag_41 : aggT Tryz.prog 41 = some false := by kernel_rfl
@[go_sem] theorem sz_41 : sizeT Tryz.prog 41 = some 1 := by kernel_rfl
@[go_sem] theorem un_41 : Tryz.prog.underlying 41 = some (.int .u64) := by kernel_rfl
@[go_sem] theorem ze_41 : zeroA Tryz.prog 41 = some [.int .u64 0] := by kernel_rfl
@[go_sem] theorem ei_41 : einfo Tryz.prog 41 = some (1, 8, 1) := by kernel_rfl
@[go_sem] theorem zv_41 : zeroV Tryz.prog 41 = some (.int .u64 0) := by kernel_rfl
@[go_sem] theorem ag_48 : aggT Tryz.prog 48 = some true := by kernel_rfl
@[go_sem] theorem sz_48 : sizeT Tryz.prog 48 = some 6 := by kernel_rfl
@[go_sem] theorem un_48 : Tryz.prog.underlying 48 = some (.array 2 24) := by kernel_rfl
@[go_sem] theorem ze_48 : zeroA Tryz.prog 48 = some [.int .i64 0, .int .i64 0, .snil, .int .i64 0, .int .i64 0, .snil] := by kernel_rfl
@[go_sem] theorem ei_48 : einfo Tryz.prog 48 = some (6, 80, 6) := by kernel_rfl
@[go_sem] theorem zv_48 : zeroV Tryz.prog 48 = some (.agg [.int .i64 0, .int .i64 0, .snil, .int .i64 0, .int .i64 0, .snil]) := by kernel_rfl
@[go_sem] theorem ag_55 : aggT Tryz.prog 55 = some true := by kernel_rfl
@[go_sem] theorem sz_55 : sizeT Tryz.prog 55 = some 14 := by kernel_rfl
@[go_sem] theorem un_55 : Tryz.prog.underlying 55 = some (.array 14 9) := by kernel_rfl
@[go_sem] theorem ze_55 : zeroA Tryz.prog 55 = some [.str [], .str [], .str [], .str [], .str [], .str [], .str [], .str [], .str [], .str [], .str [], .str [], .str [], .str []] := by kernel_rfl
@[go_sem] theorem ei_55 : einfo Tryz.prog 55 = some (14, 224, 14) := by kernel_rfl
@[go_sem] theorem zv_55 : zeroV Tryz.prog 55 = some (.agg [.str [], .str [], .str [], .str [], .str [], .str [], .str [], .str [], .str [], .str [], .str [], .str [], .str [], .str []]) := by kernel_rfl
@[go_sem] theorem ag_60 : aggT Tryz.prog 60 = some false := by kernel_rfl
@[go_sem] theorem sz_60 : sizeT Tryz.prog 60 = some 1 := by kernel_rfl
@[go_sem] theorem un_60 : Tryz.prog.underlying 60 = some (.int .u32) := by kernel_rfl
@[go_sem] theorem ze_60 : zeroA Tryz.prog 60 = some [.int .u32 0] := by kernel_rfl
@[go_sem] theorem ei_60 : einfo Tryz.prog 60 = some (1, 4, 1) := by kernel_rfl
@[go_sem] theorem zv_60 : zeroV Tryz.prog 60 = some (.int .u32 0) := by kernel_rfl
@[go_sem] theorem ag_61 : aggT Tryz.prog 61 = some true := by kernel_rfl
@[go_sem] theorem sz_61 : sizeT Tryz.prog 61 = some 5 := by kernel_rfl
@[go_sem] theorem un_61 : Tryz.prog.underlying 61 = some (.struct #[{ name := "Wait", type := 60, offset := 0, embedded := false, tag := "", pkgPath := "", byteOffset := 0 }, { name := "Kind", type := 5, offset := 1, embedded := false, tag := "", pkgPath := "", byteOffset := 4 }, { name := "Cols", type := 5, offset := 2, embedded := false, tag := "", pkgPath := "", byteOffset := 5 }, { name := "Rows", type := 5, offset := 3, embedded := false, tag := "", pkgPath := "", byteOffset := 6 }, { name := "Text", type := 9, offset := 4, embedded := false, tag := "", pkgPath := "", byteOffset := 8 }]) := by kernel_rfl
@[go_sem] theorem ze_61 : zeroA Tryz.prog 61 = some [.int .u32 0, .int .u8 0, .int .u8 0, .int .u8 0, .str []] := by kernel_rfl
@[go_sem] theorem ei_61 : einfo Tryz.prog 61 = some (5, 24, 5) := by kernel_rfl
@[go_sem] theorem zv_61 : zeroV Tryz.prog 61 = some (.agg [.int .u32 0, .int .u8 0, .int .u8 0, .int .u8 0, .str []]) := by kernel_rfl
@[go_sem] theorem eg_61 : Tryz.prog.eqGuardType Tryz.prog.depth 61 = false := by kernel_rfl
@[go_sem] theorem sh_61 : Tryz.prog.stoodInHeld 61 = false := by kernel_rfl
@[go_sem] theorem fo_61_0 : fieldOff Tryz.prog 61 0 = some 0 := by kernel_rfl
@[go_sem] theorem fo_61_1 : fieldOff Tryz.prog 61 1 = some 1 := by kernel_rfl
@[go_sem] theorem fo_61_2 : fieldOff Tryz.prog 61 2 = some 2 := by kernel_rfl
@[go_sem] theorem fo_61_3 : fieldOff Tryz.prog 61 3 = some 3 := by kernel_rfl
@[go_sem] theorem fo_61_4 : fieldOff Tryz.prog 61 4 = some 4 := by kernel_rfl
@[go_sem] theorem ag_62 : aggT Tryz.prog 62 = some true := by kernel_rfl
@[go_sem] theorem sz_62 : sizeT Tryz.prog 62 = some 5 := by kernel_rfl
@[go_sem] theorem un_62 : Tryz.prog.underlying 62 = some (.struct #[{ name := "Wait", type := 60, offset := 0, embedded := false, tag := "", pkgPath := "", byteOffset := 0 }, { name := "Kind", type := 5, offset := 1, embedded := false, tag := "", pkgPath := "", byteOffset := 4 }, { name := "Cols", type := 5, offset := 2, embedded := false, tag := "", pkgPath := "", byteOffset := 5 }, { name := "Rows", type := 5, offset := 3, embedded := false, tag := "", pkgPath := "", byteOffset := 6 }, { name := "Text", type := 9, offset := 4, embedded := false, tag := "", pkgPath := "", byteOffset := 8 }]) := by kernel_rfl
@[go_sem] theorem ze_62 : zeroA Tryz.prog 62 = some [.int .u32 0, .int .u8 0, .int .u8 0, .int .u8 0, .str []] := by kernel_rfl
@[go_sem] theorem ei_62 : einfo Tryz.prog 62 = some (5, 24, 5) := by kernel_rfl
@[go_sem] theorem zv_62 : zeroV Tryz.prog 62 = some (.agg [.int .u32 0, .int .u8 0, .int .u8 0, .int .u8 0, .str []]) := by kernel_rfl
@[go_sem] theorem eg_62 : Tryz.prog.eqGuardType Tryz.prog.depth 62 = false := by kernel_rfl
@[go_sem] theorem sh_62 : Tryz.prog.stoodInHeld 62 = false := by kernel_rfl
@[go_sem] theorem fo_62_0 : fieldOff Tryz.prog 62 0 = some 0 := by kernel_rfl
@[go_sem] theorem fo_62_1 : fieldOff Tryz.prog 62 1 = some 1 := by kernel_rfl
@[go_sem] theorem fo_62_2 : fieldOff Tryz.prog 62 2 = some 2 := by kernel_rfl
@[go_sem] theorem fo_62_3 : fieldOff Tryz.prog 62 3 = some 3 := by kernel_rfl
@[go_sem] theorem fo_62_4 : fieldOff Tryz.prog 62 4 = some 4 := by kernel_rfl
@[go_sem] theorem ag_63 : aggT Tryz.prog 63 = some false := by kernel_rfl
@[go_sem] theorem sz_63 : sizeT Tryz.prog 63 = some 1 := by kernel_rfl
@[go_sem] theorem un_63 : Tryz.prog.underlying 63 = some (.func #[3] #[9] false) := by kernel_rfl
@[go_sem] theorem ze_63 : zeroA Tryz.prog 63 = some [.fnil] := by kernel_rfl
@[go_sem] theorem ei_63 : einfo Tryz.prog 63 = some (1, 8, 1) := by kernel_rfl
@[go_sem] theorem zv_63 : zeroV Tryz.prog 63 = some (.fnil) := by kernel_rfl
@[go_sem] theorem ag_64 : aggT Tryz.prog 64 = some false := by kernel_rfl
@[go_sem] theorem sz_64 : sizeT Tryz.prog 64 = some 1 := by kernel_rfl
@[go_sem] theorem un_64 : Tryz.prog.underlying 64 = some (.func #[3, 3] #[9] false) := by kernel_rfl
@[go_sem] theorem ze_64 : zeroA Tryz.prog 64 = some [.fnil] := by kernel_rfl
@[go_sem] theorem ei_64 : einfo Tryz.prog 64 = some (1, 8, 1) := by kernel_rfl
@[go_sem] theorem zv_64 : zeroV Tryz.prog 64 = some (.fnil) := by kernel_rfl
@[go_sem] theorem ag_65 : aggT Tryz.prog 65 = some false := by kernel_rfl
@[go_sem] theorem sz_65 : sizeT Tryz.prog 65 = some 1 := by kernel_rfl
@[go_sem] theorem un_65 : Tryz.prog.underlying 65 = some (.map 3 5) := by kernel_rfl
@[go_sem] theorem ze_65 : zeroA Tryz.prog 65 = some [.mnil] := by kernel_rfl
@[go_sem] theorem ei_65 : einfo Tryz.prog 65 = some (1, 8, 1) := by kernel_rfl
@[go_sem] theorem zv_65 : zeroV Tryz.prog 65 = some (.mnil) := by kernel_rfl
@[go_sem] theorem ag_66 : aggT Tryz.prog 66 = some false := by kernel_rfl
@[go_sem] theorem sz_66 : sizeT Tryz.prog 66 = some 1 := by kernel_rfl
@[go_sem] theorem un_66 : Tryz.prog.underlying 66 = some (.map 5 3) := by kernel_rfl
@[go_sem] theorem ze_66 : zeroA Tryz.prog 66 = some [.mnil] := by kernel_rfl
@[go_sem] theorem ei_66 : einfo Tryz.prog 66 = some (1, 8, 1) := by kernel_rfl
@[go_sem] theorem zv_66 : zeroV Tryz.prog 66 = some (.mnil) := by kernel_rfl
@[go_sem] theorem ag_68 : aggT Tryz.prog 68 = some false := by kernel_rfl
@[go_sem] theorem sz_68 : sizeT Tryz.prog 68 = some 1 := by kernel_rfl
@[go_sem] theorem un_68 : Tryz.prog.underlying 68 = some (.pointer 71) := by kernel_rfl
@[go_sem] theorem ze_68 : zeroA Tryz.prog 68 = some [.nilp] := by kernel_rfl
@[go_sem] theorem ei_68 : einfo Tryz.prog 68 = some (1, 8, 1) := by kernel_rfl
@[go_sem] theorem zv_68 : zeroV Tryz.prog 68 = some (.nilp) := by kernel_rfl
@[go_sem] theorem ag_69 : aggT Tryz.prog 69 = some false := by kernel_rfl
@[go_sem] theorem sz_69 : sizeT Tryz.prog 69 = some 1 := by kernel_rfl
@[go_sem] theorem un_69 : Tryz.prog.underlying 69 = some (.slice 5) := by kernel_rfl
@[go_sem] theorem ze_69 : zeroA Tryz.prog 69 = some [.snil] := by kernel_rfl
@[go_sem] theorem ei_69 : einfo Tryz.prog 69 = some (1, 24, 1) := by kernel_rfl
@[go_sem] theorem zv_69 : zeroV Tryz.prog 69 = some (.snil) := by kernel_rfl
@[go_sem] theorem ag_70 : aggT Tryz.prog 70 = some true := by kernel_rfl
@[go_sem] theorem sz_70 : sizeT Tryz.prog 70 = some 2 := by kernel_rfl
@[go_sem] theorem un_70 : Tryz.prog.underlying 70 = some (.struct #[{ name := "addr", type := 68, offset := 0, embedded := false, tag := "", pkgPath := "strings", byteOffset := 0 }, { name := "buf", type := 69, offset := 1, embedded := false, tag := "", pkgPath := "strings", byteOffset := 8 }]) := by kernel_rfl
@[go_sem] theorem ze_70 : zeroA Tryz.prog 70 = some [.nilp, .snil] := by kernel_rfl
@[go_sem] theorem ei_70 : einfo Tryz.prog 70 = some (2, 32, 2) := by kernel_rfl
@[go_sem] theorem zv_70 : zeroV Tryz.prog 70 = some (.agg [.nilp, .snil]) := by kernel_rfl
@[go_sem] theorem fo_70_0 : fieldOff Tryz.prog 70 0 = some 0 := by kernel_rfl
@[go_sem] theorem fo_70_1 : fieldOff Tryz.prog 70 1 = some 1 := by kernel_rfl
@[go_sem] theorem ag_71 : aggT Tryz.prog 71 = some true := by kernel_rfl
@[go_sem] theorem sz_71 : sizeT Tryz.prog 71 = some 2 := by kernel_rfl
@[go_sem] theorem un_71 : Tryz.prog.underlying 71 = some (.struct #[{ name := "addr", type := 68, offset := 0, embedded := false, tag := "", pkgPath := "strings", byteOffset := 0 }, { name := "buf", type := 69, offset := 1, embedded := false, tag := "", pkgPath := "strings", byteOffset := 8 }]) := by kernel_rfl
@[go_sem] theorem ze_71 : zeroA Tryz.prog 71 = some [.nilp, .snil] := by kernel_rfl
@[go_sem] theorem ei_71 : einfo Tryz.prog 71 = some (2, 32, 2) := by kernel_rfl
@[go_sem] theorem zv_71 : zeroV Tryz.prog 71 = some (.agg [.nilp, .snil]) := by kernel_rfl
@[go_sem] theorem fo_71_0 : fieldOff Tryz.prog 71 0 = some 0 := by kernel_rfl
@[go_sem] theorem fo_71_1 : fieldOff Tryz.prog 71 1 = some 1 := by kernel_rfl
@[go_sem] theorem ag_72 : aggT Tryz.prog 72 = some false := by kernel_rfl
@[go_sem] theorem sz_72 : sizeT Tryz.prog 72 = some 1 := by kernel_rfl
@[go_sem] theorem un_72 : Tryz.prog.underlying 72 = some (.interface #[("Error", 77)]) := by kernel_rfl
@[go_sem] theorem ze_72 : zeroA Tryz.prog 72 = some [.inil] := by kernel_rfl
@[go_sem] theorem ei_72 : einfo Tryz.prog 72 = some (1, 16, 1) := by kernel_rfl
@[go_sem] theorem zv_72 : zeroV Tryz.prog 72 = some (.inil) := by kernel_rfl
@[go_sem] theorem ag_73 : aggT Tryz.prog 73 = some false := by kernel_rfl
@[go_sem] theorem sz_73 : sizeT Tryz.prog 73 = some 1 := by kernel_rfl
@[go_sem] theorem un_73 : Tryz.prog.underlying 73 = some (.interface #[("Error", 77)]) := by kernel_rfl
@[go_sem] theorem ze_73 : zeroA Tryz.prog 73 = some [.inil] := by kernel_rfl
@[go_sem] theorem ei_73 : einfo Tryz.prog 73 = some (1, 16, 1) := by kernel_rfl
@[go_sem] theorem zv_73 : zeroV Tryz.prog 73 = some (.inil) := by kernel_rfl
@[go_sem] theorem ag_79 : aggT Tryz.prog 79 = some false := by kernel_rfl
@[go_sem] theorem sz_79 : sizeT Tryz.prog 79 = some 1 := by kernel_rfl
@[go_sem] theorem un_79 : Tryz.prog.underlying 79 = some (.func #[106] #[] false) := by kernel_rfl
@[go_sem] theorem ze_79 : zeroA Tryz.prog 79 = some [.fnil] := by kernel_rfl
@[go_sem] theorem ei_79 : einfo Tryz.prog 79 = some (1, 8, 1) := by kernel_rfl
@[go_sem] theorem zv_79 : zeroV Tryz.prog 79 = some (.fnil) := by kernel_rfl
@[go_sem] theorem ag_80 : aggT Tryz.prog 80 = some false := by kernel_rfl
@[go_sem] theorem sz_80 : sizeT Tryz.prog 80 = some 1 := by kernel_rfl
@[go_sem] theorem un_80 : Tryz.prog.underlying 80 = some (.func #[106] #[] false) := by kernel_rfl
@[go_sem] theorem ze_80 : zeroA Tryz.prog 80 = some [.fnil] := by kernel_rfl
@[go_sem] theorem ei_80 : einfo Tryz.prog 80 = some (1, 8, 1) := by kernel_rfl
@[go_sem] theorem zv_80 : zeroV Tryz.prog 80 = some (.fnil) := by kernel_rfl
@[go_sem] theorem ag_85 : aggT Tryz.prog 85 = some false := by kernel_rfl
@[go_sem] theorem sz_85 : sizeT Tryz.prog 85 = some 1 := by kernel_rfl
@[go_sem] theorem un_85 : Tryz.prog.underlying 85 = some (.func #[29] #[4] false) := by kernel_rfl
@[go_sem] theorem ze_85 : zeroA Tryz.prog 85 = some [.fnil] := by kernel_rfl
@[go_sem] theorem ei_85 : einfo Tryz.prog 85 = some (1, 8, 1) := by kernel_rfl
@[go_sem] theorem zv_85 : zeroV Tryz.prog 85 = some (.fnil) := by kernel_rfl
@[go_sem] theorem ag_99 : aggT Tryz.prog 99 = some false := by kernel_rfl
@[go_sem] theorem sz_99 : sizeT Tryz.prog 99 = some 1 := by kernel_rfl
@[go_sem] theorem un_99 : Tryz.prog.underlying 99 = some (.pointer 101) := by kernel_rfl
@[go_sem] theorem ze_99 : zeroA Tryz.prog 99 = some [.nilp] := by kernel_rfl
@[go_sem] theorem ei_99 : einfo Tryz.prog 99 = some (1, 8, 1) := by kernel_rfl
@[go_sem] theorem zv_99 : zeroV Tryz.prog 99 = some (.nilp) := by kernel_rfl
@[go_sem] theorem ag_100 : aggT Tryz.prog 100 = some true := by kernel_rfl
@[go_sem] theorem sz_100 : sizeT Tryz.prog 100 = some 1 := by kernel_rfl
@[go_sem] theorem un_100 : Tryz.prog.underlying 100 = some (.struct #[{ name := "s", type := 9, offset := 0, embedded := false, tag := "", pkgPath := "fenestra/record", byteOffset := 0 }]) := by kernel_rfl
@[go_sem] theorem ze_100 : zeroA Tryz.prog 100 = some [.str []] := by kernel_rfl
@[go_sem] theorem ei_100 : einfo Tryz.prog 100 = some (1, 16, 1) := by kernel_rfl
@[go_sem] theorem zv_100 : zeroV Tryz.prog 100 = some (.agg [.str []]) := by kernel_rfl
@[go_sem] theorem fo_100_0 : fieldOff Tryz.prog 100 0 = some 0 := by kernel_rfl
@[go_sem] theorem ag_101 : aggT Tryz.prog 101 = some true := by kernel_rfl
@[go_sem] theorem sz_101 : sizeT Tryz.prog 101 = some 1 := by kernel_rfl
@[go_sem] theorem un_101 : Tryz.prog.underlying 101 = some (.struct #[{ name := "s", type := 9, offset := 0, embedded := false, tag := "", pkgPath := "fenestra/record", byteOffset := 0 }]) := by kernel_rfl
@[go_sem] theorem ze_101 : zeroA Tryz.prog 101 = some [.str []] := by kernel_rfl
@[go_sem] theorem ei_101 : einfo Tryz.prog 101 = some (1, 16, 1) := by kernel_rfl
@[go_sem] theorem zv_101 : zeroV Tryz.prog 101 = some (.agg [.str []]) := by kernel_rfl
@[go_sem] theorem fo_101_0 : fieldOff Tryz.prog 101 0 = some 0 := by kernel_rfl
@[go_sem] theorem ag_104 : aggT Tryz.prog 104 = some false := by kernel_rfl
@[go_sem] theorem sz_104 : sizeT Tryz.prog 104 = some 1 := by kernel_rfl
@[go_sem] theorem un_104 : Tryz.prog.underlying 104 = some (.func #[3, 3] #[3] false) := by kernel_rfl
@[go_sem] theorem ze_104 : zeroA Tryz.prog 104 = some [.fnil] := by kernel_rfl
@[go_sem] theorem ei_104 : einfo Tryz.prog 104 = some (1, 8, 1) := by kernel_rfl
@[go_sem] theorem zv_104 : zeroV Tryz.prog 104 = some (.fnil) := by kernel_rfl
@[go_sem] theorem ag_105 : aggT Tryz.prog 105 = some false := by kernel_rfl
@[go_sem] theorem sz_105 : sizeT Tryz.prog 105 = some 1 := by kernel_rfl
@[go_sem] theorem un_105 : Tryz.prog.underlying 105 = some (.pointer 5) := by kernel_rfl
@[go_sem] theorem ze_105 : zeroA Tryz.prog 105 = some [.nilp] := by kernel_rfl
@[go_sem] theorem ei_105 : einfo Tryz.prog 105 = some (1, 8, 1) := by kernel_rfl
@[go_sem] theorem zv_105 : zeroV Tryz.prog 105 = some (.nilp) := by kernel_rfl
@[go_sem] theorem ag_106 : aggT Tryz.prog 106 = some false := by kernel_rfl
@[go_sem] theorem sz_106 : sizeT Tryz.prog 106 = some 1 := by kernel_rfl
@[go_sem] theorem un_106 : Tryz.prog.underlying 106 = some (.func #[3, 29] #[4] false) := by kernel_rfl
@[go_sem] theorem ze_106 : zeroA Tryz.prog 106 = some [.fnil] := by kernel_rfl
@[go_sem] theorem ei_106 : einfo Tryz.prog 106 = some (1, 8, 1) := by kernel_rfl
@[go_sem] theorem zv_106 : zeroV Tryz.prog 106 = some (.fnil) := by kernel_rfl
@[go_sem] theorem ag_107 : aggT Tryz.prog 107 = some false := by kernel_rfl
@[go_sem] theorem sz_107 : sizeT Tryz.prog 107 = some 1 := by kernel_rfl
@[go_sem] theorem un_107 : Tryz.prog.underlying 107 = some (.slice 3) := by kernel_rfl
@[go_sem] theorem ze_107 : zeroA Tryz.prog 107 = some [.snil] := by kernel_rfl
@[go_sem] theorem ei_107 : einfo Tryz.prog 107 = some (1, 24, 1) := by kernel_rfl
@[go_sem] theorem zv_107 : zeroV Tryz.prog 107 = some (.snil) := by kernel_rfl
@[go_sem] theorem ag_108 : aggT Tryz.prog 108 = some false := by kernel_rfl
@[go_sem] theorem sz_108 : sizeT Tryz.prog 108 = some 1 := by kernel_rfl
@[go_sem] theorem un_108 : Tryz.prog.underlying 108 = some (.slice 22) := by kernel_rfl
@[go_sem] theorem ze_108 : zeroA Tryz.prog 108 = some [.snil] := by kernel_rfl
@[go_sem] theorem ei_108 : einfo Tryz.prog 108 = some (1, 24, 1) := by kernel_rfl
@[go_sem] theorem zv_108 : zeroV Tryz.prog 108 = some (.snil) := by kernel_rfl
@[go_sem] theorem ag_112 : aggT Tryz.prog 112 = some false := by kernel_rfl
@[go_sem] theorem sz_112 : sizeT Tryz.prog 112 = some 1 := by kernel_rfl
@[go_sem] theorem un_112 : Tryz.prog.underlying 112 = some (.int .u64) := by kernel_rfl
@[go_sem] theorem ze_112 : zeroA Tryz.prog 112 = some [.int .u64 0] := by kernel_rfl
@[go_sem] theorem ei_112 : einfo Tryz.prog 112 = some (1, 8, 1) := by kernel_rfl
@[go_sem] theorem zv_112 : zeroV Tryz.prog 112 = some (.int .u64 0) := by kernel_rfl
@[go_sem] theorem ag_115 : aggT Tryz.prog 115 = some true := by kernel_rfl
@[go_sem] theorem sz_115 : sizeT Tryz.prog 115 = some 0 := by kernel_rfl
@[go_sem] theorem un_115 : Tryz.prog.underlying 115 = some (.struct #[]) := by kernel_rfl
@[go_sem] theorem ze_115 : zeroA Tryz.prog 115 = some [] := by kernel_rfl
@[go_sem] theorem ei_115 : einfo Tryz.prog 115 = some (0, 0, 0) := by kernel_rfl
@[go_sem] theorem zv_115 : zeroV Tryz.prog 115 = some (.agg []) := by kernel_rfl
@[go_sem] theorem eg_115 : Tryz.prog.eqGuardType Tryz.prog.depth 115 = false := by kernel_rfl
@[go_sem] theorem sh_115 : Tryz.prog.stoodInHeld 115 = false := by kernel_rfl
@[go_sem] theorem ag_116 : aggT Tryz.prog 116 = some true := by kernel_rfl
@[go_sem] theorem sz_116 : sizeT Tryz.prog 116 = some 0 := by kernel_rfl
@[go_sem] theorem un_116 : Tryz.prog.underlying 116 = some (.struct #[]) := by kernel_rfl
@[go_sem] theorem ze_116 : zeroA Tryz.prog 116 = some [] := by kernel_rfl
@[go_sem] theorem ei_116 : einfo Tryz.prog 116 = some (0, 0, 0) := by kernel_rfl
@[go_sem] theorem zv_116 : zeroV Tryz.prog 116 = some (.agg []) := by kernel_rfl
@[go_sem] theorem eg_116 : Tryz.prog.eqGuardType Tryz.prog.depth 116 = false := by kernel_rfl
@[go_sem] theorem sh_116 : Tryz.prog.stoodInHeld 116 = false := by kernel_rfl
@[go_sem] theorem ag_122 : aggT Tryz.prog 122 = some false := by kernel_rfl
@[go_sem] theorem sz_122 : sizeT Tryz.prog 122 = some 1 := by kernel_rfl
@[go_sem] theorem un_122 : Tryz.prog.underlying 122 = some (.unsafePointer) := by kernel_rfl
@[go_sem] theorem ze_122 : zeroA Tryz.prog 122 = some [.nilp] := by kernel_rfl
@[go_sem] theorem ei_122 : einfo Tryz.prog 122 = some (1, 8, 1) := by kernel_rfl
@[go_sem] theorem zv_122 : zeroV Tryz.prog 122 = some (.nilp) := by kernel_rfl
@[go_sem] theorem ag_138 : aggT Tryz.prog 138 = some true := by kernel_rfl
@[go_sem] theorem sz_138 : sizeT Tryz.prog 138 = some 20 := by kernel_rfl
@[go_sem] theorem un_138 : Tryz.prog.underlying 138 = some (.array 20 112) := by kernel_rfl
@[go_sem] theorem ze_138 : zeroA Tryz.prog 138 = some [.int .u64 0, .int .u64 0, .int .u64 0, .int .u64 0, .int .u64 0, .int .u64 0, .int .u64 0, .int .u64 0, .int .u64 0, .int .u64 0, .int .u64 0, .int .u64 0, .int .u64 0, .int .u64 0, .int .u64 0, .int .u64 0, .int .u64 0, .int .u64 0, .int .u64 0, .int .u64 0] := by kernel_rfl
@[go_sem] theorem ei_138 : einfo Tryz.prog 138 = some (20, 160, 20) := by kernel_rfl
@[go_sem] theorem zv_138 : zeroV Tryz.prog 138 = some (.agg [.int .u64 0, .int .u64 0, .int .u64 0, .int .u64 0, .int .u64 0, .int .u64 0, .int .u64 0, .int .u64 0, .int .u64 0, .int .u64 0, .int .u64 0, .int .u64 0, .int .u64 0, .int .u64 0, .int .u64 0, .int .u64 0, .int .u64 0, .int .u64 0, .int .u64 0, .int .u64 0]) := by kernel_rfl
@[go_sem] theorem ag_143 : aggT Tryz.prog 143 = some true := by kernel_rfl
@[go_sem] theorem sz_143 : sizeT Tryz.prog 143 = some 256 := by kernel_rfl
@[go_sem] theorem un_143 : Tryz.prog.underlying 143 = some (.array 256 4) := by kernel_rfl
@[go_sem] theorem ag_144 : aggT Tryz.prog 144 = some true := by kernel_rfl
@[go_sem] theorem sz_144 : sizeT Tryz.prog 144 = some 256 := by kernel_rfl
@[go_sem] theorem un_144 : Tryz.prog.underlying 144 = some (.array 256 4) := by kernel_rfl
@[go_sem] theorem ag_148 : aggT Tryz.prog 148 = some false := by kernel_rfl
@[go_sem] theorem sz_148 : sizeT Tryz.prog 148 = some 1 := by kernel_rfl
@[go_sem] theorem un_148 : Tryz.prog.underlying 148 = some (.pointer 144) := by kernel_rfl
@[go_sem] theorem ze_148 : zeroA Tryz.prog 148 = some [.nilp] := by kernel_rfl
@[go_sem] theorem ei_148 : einfo Tryz.prog 148 = some (1, 8, 1) := by kernel_rfl
@[go_sem] theorem zv_148 : zeroV Tryz.prog 148 = some (.nilp) := by kernel_rfl
@[go_sem] theorem ag_155 : aggT Tryz.prog 155 = some false := by kernel_rfl
@[go_sem] theorem sz_155 : sizeT Tryz.prog 155 = some 1 := by kernel_rfl
@[go_sem] theorem un_155 : Tryz.prog.underlying 155 = some (.int .i64) := by kernel_rfl
@[go_sem] theorem ze_155 : zeroA Tryz.prog 155 = some [.int .i64 0] := by kernel_rfl
@[go_sem] theorem ei_155 : einfo Tryz.prog 155 = some (1, 8, 1) := by kernel_rfl
@[go_sem] theorem zv_155 : zeroV Tryz.prog 155 = some (.int .i64 0) := by kernel_rfl
@[go_sem] theorem ag_158 : aggT Tryz.prog 158 = some false := by kernel_rfl
@[go_sem] theorem sz_158 : sizeT Tryz.prog 158 = some 1 := by kernel_rfl
@[go_sem] theorem un_158 : Tryz.prog.underlying 158 = some (.pointer 167) := by kernel_rfl
@[go_sem] theorem ze_158 : zeroA Tryz.prog 158 = some [.nilp] := by kernel_rfl
@[go_sem] theorem ei_158 : einfo Tryz.prog 158 = some (1, 8, 1) := by kernel_rfl
@[go_sem] theorem zv_158 : zeroV Tryz.prog 158 = some (.nilp) := by kernel_rfl
@[go_sem] theorem ag_166 : aggT Tryz.prog 166 = some true := by kernel_rfl
@[go_sem] theorem sz_166 : sizeT Tryz.prog 166 = some 3 := by kernel_rfl
@[go_sem] theorem un_166 : Tryz.prog.underlying 166 = some (.struct #[{ name := "Func", type := 9, offset := 0, embedded := false, tag := "", pkgPath := "", byteOffset := 0 }, { name := "Num", type := 9, offset := 1, embedded := false, tag := "", pkgPath := "", byteOffset := 16 }, { name := "Err", type := 73, offset := 2, embedded := false, tag := "", pkgPath := "", byteOffset := 32 }]) := by kernel_rfl
@[go_sem] theorem ze_166 : zeroA Tryz.prog 166 = some [.str [], .str [], .inil] := by kernel_rfl
@[go_sem] theorem ei_166 : einfo Tryz.prog 166 = some (3, 48, 3) := by kernel_rfl
@[go_sem] theorem zv_166 : zeroV Tryz.prog 166 = some (.agg [.str [], .str [], .inil]) := by kernel_rfl
@[go_sem] theorem fo_166_0 : fieldOff Tryz.prog 166 0 = some 0 := by kernel_rfl
@[go_sem] theorem fo_166_1 : fieldOff Tryz.prog 166 1 = some 1 := by kernel_rfl
@[go_sem] theorem fo_166_2 : fieldOff Tryz.prog 166 2 = some 2 := by kernel_rfl
@[go_sem] theorem ag_167 : aggT Tryz.prog 167 = some true := by kernel_rfl
@[go_sem] theorem sz_167 : sizeT Tryz.prog 167 = some 3 := by kernel_rfl
@[go_sem] theorem un_167 : Tryz.prog.underlying 167 = some (.struct #[{ name := "Func", type := 9, offset := 0, embedded := false, tag := "", pkgPath := "", byteOffset := 0 }, { name := "Num", type := 9, offset := 1, embedded := false, tag := "", pkgPath := "", byteOffset := 16 }, { name := "Err", type := 73, offset := 2, embedded := false, tag := "", pkgPath := "", byteOffset := 32 }]) := by kernel_rfl
@[go_sem] theorem ze_167 : zeroA Tryz.prog 167 = some [.str [], .str [], .inil] := by kernel_rfl
@[go_sem] theorem ei_167 : einfo Tryz.prog 167 = some (3, 48, 3) := by kernel_rfl
@[go_sem] theorem zv_167 : zeroV Tryz.prog 167 = some (.agg [.str [], .str [], .inil]) := by kernel_rfl
@[go_sem] theorem fo_167_0 : fieldOff Tryz.prog 167 0 = some 0 := by kernel_rfl
@[go_sem] theorem fo_167_1 : fieldOff Tryz.prog 167 1 = some 1 := by kernel_rfl
@[go_sem] theorem fo_167_2 : fieldOff Tryz.prog 167 2 = some 2 := by kernel_rfl
@[go_sem] theorem bl_1 : isBld Tryz.prog 1 = false := by kernel_rfl
@[go_sem] theorem bl_2 : isBld Tryz.prog 2 = false := by kernel_rfl
@[go_sem] theorem bl_3 : isBld Tryz.prog 3 = false := by kernel_rfl
@[go_sem] theorem bl_4 : isBld Tryz.prog 4 = false := by kernel_rfl
@[go_sem] theorem bl_5 : isBld Tryz.prog 5 = false := by kernel_rfl
@[go_sem] theorem co_5 : Tryz.prog.cellsOf 5 = 1 := by kernel_rfl
@[go_sem] theorem bl_9 : isBld Tryz.prog 9 = false := by kernel_rfl
@[go_sem] theorem bl_20 : isBld Tryz.prog 20 = false := by kernel_rfl
@[go_sem] theorem bl_22 : isBld Tryz.prog 22 = false := by kernel_rfl
@[go_sem] theorem bl_23 : isBld Tryz.prog 23 = false := by kernel_rfl
@[go_sem] theorem bl_24 : isBld Tryz.prog 24 = false := by kernel_rfl
@[go_sem] theorem bl_25 : isBld Tryz.prog 25 = false := by kernel_rfl
@[go_sem] theorem bl_26 : isBld Tryz.prog 26 = false := by kernel_rfl
@[go_sem] theorem bl_27 : isBld Tryz.prog 27 = false := by kernel_rfl
@[go_sem] theorem bl_28 : isBld Tryz.prog 28 = false := by kernel_rfl
@[go_sem] theorem bl_29 : isBld Tryz.prog 29 = false := by kernel_rfl
@[go_sem] theorem bl_34 : isBld Tryz.prog 34 = false := by kernel_rfl
@[go_sem] theorem bl_41 : isBld Tryz.prog 41 = false := by kernel_rfl
@[go_sem] theorem bl_48 : isBld Tryz.prog 48 = false := by kernel_rfl
@[go_sem] theorem bl_55 : isBld Tryz.prog 55 = false := by kernel_rfl
@[go_sem] theorem bl_60 : isBld Tryz.prog 60 = false := by kernel_rfl
@[go_sem] theorem bl_61 : isBld Tryz.prog 61 = false := by kernel_rfl
@[go_sem] theorem bl_62 : isBld Tryz.prog 62 = false := by kernel_rfl
@[go_sem] theorem bl_63 : isBld Tryz.prog 63 = false := by kernel_rfl
@[go_sem] theorem bl_64 : isBld Tryz.prog 64 = false := by kernel_rfl
@[go_sem] theorem bl_65 : isBld Tryz.prog 65 = false := by kernel_rfl
@[go_sem] theorem bl_66 : isBld Tryz.prog 66 = false := by kernel_rfl
@[go_sem] theorem bl_68 : isBld Tryz.prog 68 = false := by kernel_rfl
@[go_sem] theorem bl_69 : isBld Tryz.prog 69 = false := by kernel_rfl
@[go_sem] theorem bl_70 : isBld Tryz.prog 70 = true := by kernel_rfl
@[go_sem] theorem lo_70 : liesOk Tryz.prog 70 2 = true := by kernel_rfl
@[go_sem] theorem bl_71 : isBld Tryz.prog 71 = true := by kernel_rfl
@[go_sem] theorem lo_71 : liesOk Tryz.prog 71 2 = true := by kernel_rfl
@[go_sem] theorem bl_72 : isBld Tryz.prog 72 = false := by kernel_rfl
@[go_sem] theorem bl_73 : isBld Tryz.prog 73 = false := by kernel_rfl
@[go_sem] theorem bl_79 : isBld Tryz.prog 79 = false := by kernel_rfl
@[go_sem] theorem bl_80 : isBld Tryz.prog 80 = false := by kernel_rfl
@[go_sem] theorem bl_85 : isBld Tryz.prog 85 = false := by kernel_rfl
@[go_sem] theorem bl_99 : isBld Tryz.prog 99 = false := by kernel_rfl
@[go_sem] theorem bl_100 : isBld Tryz.prog 100 = false := by kernel_rfl
@[go_sem] theorem bl_101 : isBld Tryz.prog 101 = false := by kernel_rfl
@[go_sem] theorem bl_104 : isBld Tryz.prog 104 = false := by kernel_rfl
@[go_sem] theorem bl_105 : isBld Tryz.prog 105 = false := by kernel_rfl
@[go_sem] theorem bl_106 : isBld Tryz.prog 106 = false := by kernel_rfl
@[go_sem] theorem bl_107 : isBld Tryz.prog 107 = false := by kernel_rfl
@[go_sem] theorem bl_108 : isBld Tryz.prog 108 = false := by kernel_rfl
@[go_sem] theorem bl_112 : isBld Tryz.prog 112 = false := by kernel_rfl
@[go_sem] theorem bl_115 : isBld Tryz.prog 115 = false := by kernel_rfl
@[go_sem] theorem bl_116 : isBld Tryz.prog 116 = false := by kernel_rfl
@[go_sem] theorem bl_122 : isBld Tryz.prog 122 = false := by kernel_rfl
@[go_sem] theorem bl_138 : isBld Tryz.prog 138 = false := by kernel_rfl
@[go_sem] theorem bl_143 : isBld Tryz.prog 143 = false := by kernel_rfl
@[go_sem] theorem bl_144 : isBld Tryz.prog 144 = false := by kernel_rfl
@[go_sem] theorem bl_148 : isBld Tryz.prog 148 = false := by kernel_rfl
@[go_sem] theorem bl_155 : isBld Tryz.prog 155 = false := by kernel_rfl
@[go_sem] theorem bl_158 : isBld Tryz.prog 158 = false := by kernel_rfl
@[go_sem] theorem bl_166 : isBld Tryz.prog 166 = false := by kernel_rfl
@[go_sem] theorem bl_167 : isBld Tryz.prog 167 = false := by kernel_rfl
theorem mixed : Tryz.prog.follows .mixedOrders = true := by kernel_rfl
end Go.Proofs.YtnndmokndgnidaaGreatDoor
