/- YtfnnjkbhmoomjaaGreatDoorTy. Texts of the proof of a law about texts: a layer of abstract values above the worlds, the types, the walks of the functions that the law reaches, the law and its card. Own work of an AI agent. -/
import Derived.Test.YtfnnjkbhmoomjaaGreatDoorProg
import Derived.Test.YtfnnjkbhmoomjaaGreatDoorCore1
set_option linter.all false
set_option linter.unusedVariables false
set_option linter.unusedSimpArgs false
namespace Go.Proofs.YtfnnjkbhmoomjaaGreatDoor
open Go.Fen
attribute [go_sem] Int.reduceBEq Int.reduceBNe Nat.reduceBEq Nat.reduceEqDiff Nat.reduceLT Nat.reduceAdd Nat.reduceSub Nat.reduceMul Nat.reduceLeDiff reduceCtorEq Int.reduceToNat Int.reduceAdd Int.reduceSub Int.reduceMul Int.reduceLT Int.reduceLE Int.reduceNeg Int.reduceEq
attribute [go_sem ↓] reduceIte
@[go_sem] theorem ag_1 : aggT Tryz.prog 1 = some false := by kernel_rfl
@[go_sem] theorem sz_1 : sizeT Tryz.prog 1 = some 1 := by kernel_rfl
@[go_sem] theorem un_1 : Tryz.prog.underlying 1 = some (.func #[] #[] false) := by kernel_rfl
@[go_sem] theorem ze_1 : zeroA Tryz.prog 1 = some [.fnil] := by kernel_rfl
@[go_sem] theorem ei_1 : einfo Tryz.prog 1 = some (1, 8, 1) := by kernel_rfl
@[go_sem] theorem zv_1 : zeroV Tryz.prog 1 = some (.fnil) := by kernel_rfl
@[go_sem] theorem ag_2 : aggT Tryz.prog 2 = some false := by kernel_rfl
@[go_sem] theorem sz_2 : sizeT Tryz.prog 2 = some 1 := by kernel_rfl
@[go_sem] theorem un_2 : Tryz.prog.underlying 2 = some (.int .i64) := by kernel_rfl
@[go_sem] theorem ze_2 : zeroA Tryz.prog 2 = some [.int .i64 0] := by kernel_rfl
@[go_sem] theorem ei_2 : einfo Tryz.prog 2 = some (1, 8, 1) := by kernel_rfl
@[go_sem] theorem zv_2 : zeroV Tryz.prog 2 = some (.int .i64 0) := by kernel_rfl
@[go_sem] theorem ag_3 : aggT Tryz.prog 3 = some false := by kernel_rfl
@[go_sem] theorem sz_3 : sizeT Tryz.prog 3 = some 1 := by kernel_rfl
@[go_sem] theorem un_3 : Tryz.prog.underlying 3 = some (.int .i64) := by kernel_rfl
@[go_sem] theorem ze_3 : zeroA Tryz.prog 3 = some [.int .i64 0] := by kernel_rfl
@[go_sem] theorem ei_3 : einfo Tryz.prog 3 = some (1, 8, 1) := by kernel_rfl
@[go_sem] theorem zv_3 : zeroV Tryz.prog 3 = some (.int .i64 0) := by kernel_rfl
@[go_sem] theorem ag_4 : aggT Tryz.prog 4 = some false := by kernel_rfl
@[go_sem] theorem sz_4 : sizeT Tryz.prog 4 = some 1 := by kernel_rfl
@[go_sem] theorem un_4 : Tryz.prog.underlying 4 = some (.bool) := by kernel_rfl
@[go_sem] theorem ze_4 : zeroA Tryz.prog 4 = some [.bool false] := by kernel_rfl
@[go_sem] theorem ei_4 : einfo Tryz.prog 4 = some (1, 1, 1) := by kernel_rfl
@[go_sem] theorem zv_4 : zeroV Tryz.prog 4 = some (.bool false) := by kernel_rfl
@[go_sem] theorem ag_5 : aggT Tryz.prog 5 = some false := by kernel_rfl
@[go_sem] theorem sz_5 : sizeT Tryz.prog 5 = some 1 := by kernel_rfl
@[go_sem] theorem un_5 : Tryz.prog.underlying 5 = some (.int .u8) := by kernel_rfl
@[go_sem] theorem ze_5 : zeroA Tryz.prog 5 = some [.int .u8 0] := by kernel_rfl
@[go_sem] theorem ei_5 : einfo Tryz.prog 5 = some (1, 1, 1) := by kernel_rfl
@[go_sem] theorem zv_5 : zeroV Tryz.prog 5 = some (.int .u8 0) := by kernel_rfl
@[go_sem] theorem ag_9 : aggT Tryz.prog 9 = some false := by kernel_rfl
@[go_sem] theorem sz_9 : sizeT Tryz.prog 9 = some 1 := by kernel_rfl
@[go_sem] theorem un_9 : Tryz.prog.underlying 9 = some (.string) := by kernel_rfl
@[go_sem] theorem ze_9 : zeroA Tryz.prog 9 = some [.str []] := by kernel_rfl
@[go_sem] theorem ei_9 : einfo Tryz.prog 9 = some (1, 16, 1) := by kernel_rfl
@[go_sem] theorem zv_9 : zeroV Tryz.prog 9 = some (.str []) := by kernel_rfl
@[go_sem] theorem ag_20 : aggT Tryz.prog 20 = some false := by kernel_rfl
@[go_sem] theorem sz_20 : sizeT Tryz.prog 20 = some 1 := by kernel_rfl
@[go_sem] theorem un_20 : Tryz.prog.underlying 20 = some (.interface #[]) := by kernel_rfl
@[go_sem] theorem ze_20 : zeroA Tryz.prog 20 = some [.inil] := by kernel_rfl
@[go_sem] theorem ei_20 : einfo Tryz.prog 20 = some (1, 16, 1) := by kernel_rfl
@[go_sem] theorem zv_20 : zeroV Tryz.prog 20 = some (.inil) := by kernel_rfl
@[go_sem] theorem ag_22 : aggT Tryz.prog 22 = some true := by kernel_rfl
@[go_sem] theorem sz_22 : sizeT Tryz.prog 22 = some 2 := by kernel_rfl
@[go_sem] theorem un_22 : Tryz.prog.underlying 22 = some (.struct #[{ name := "Kind", type := 3, offset := 0, embedded := false, tag := "", pkgPath := "", byteOffset := 0 }, { name := "N", type := 3, offset := 1, embedded := false, tag := "", pkgPath := "", byteOffset := 8 }]) := by kernel_rfl
@[go_sem] theorem ze_22 : zeroA Tryz.prog 22 = some [.int .i64 0, .int .i64 0] := by kernel_rfl
@[go_sem] theorem ei_22 : einfo Tryz.prog 22 = some (2, 16, 2) := by kernel_rfl
@[go_sem] theorem zv_22 : zeroV Tryz.prog 22 = some (.agg [.int .i64 0, .int .i64 0]) := by kernel_rfl
@[go_sem] theorem eg_22 : Tryz.prog.eqGuardType Tryz.prog.depth 22 = false := by kernel_rfl
@[go_sem] theorem sh_22 : Tryz.prog.stoodInHeld 22 = false := by kernel_rfl
@[go_sem] theorem fo_22_0 : fieldOff Tryz.prog 22 0 = some 0 := by kernel_rfl
@[go_sem] theorem fo_22_1 : fieldOff Tryz.prog 22 1 = some 1 := by kernel_rfl
@[go_sem] theorem ag_23 : aggT Tryz.prog 23 = some true := by kernel_rfl
@[go_sem] theorem sz_23 : sizeT Tryz.prog 23 = some 2 := by kernel_rfl
@[go_sem] theorem un_23 : Tryz.prog.underlying 23 = some (.struct #[{ name := "Kind", type := 3, offset := 0, embedded := false, tag := "", pkgPath := "", byteOffset := 0 }, { name := "N", type := 3, offset := 1, embedded := false, tag := "", pkgPath := "", byteOffset := 8 }]) := by kernel_rfl
@[go_sem] theorem ze_23 : zeroA Tryz.prog 23 = some [.int .i64 0, .int .i64 0] := by kernel_rfl
@[go_sem] theorem ei_23 : einfo Tryz.prog 23 = some (2, 16, 2) := by kernel_rfl
@[go_sem] theorem zv_23 : zeroV Tryz.prog 23 = some (.agg [.int .i64 0, .int .i64 0]) := by kernel_rfl
@[go_sem] theorem eg_23 : Tryz.prog.eqGuardType Tryz.prog.depth 23 = false := by kernel_rfl
@[go_sem] theorem sh_23 : Tryz.prog.stoodInHeld 23 = false := by kernel_rfl
@[go_sem] theorem fo_23_0 : fieldOff Tryz.prog 23 0 = some 0 := by kernel_rfl
@[go_sem] theorem fo_23_1 : fieldOff Tryz.prog 23 1 = some 1 := by kernel_rfl
@[go_sem] theorem ag_24 : aggT Tryz.prog 24 = some true := by kernel_rfl
@[go_sem] theorem sz_24 : sizeT Tryz.prog 24 = some 6 := by kernel_rfl
@[go_sem] theorem un_24 : Tryz.prog.underlying 24 = some (.struct #[{ name := "Kind", type := 3, offset := 0, embedded := false, tag := "", pkgPath := "", byteOffset := 0 }, { name := "N", type := 3, offset := 1, embedded := false, tag := "", pkgPath := "", byteOffset := 8 }, { name := "M", type := 3, offset := 2, embedded := false, tag := "", pkgPath := "", byteOffset := 16 }, { name := "Color", type := 23, offset := 3, embedded := false, tag := "", pkgPath := "", byteOffset := 24 }, { name := "Text", type := 9, offset := 5, embedded := false, tag := "", pkgPath := "", byteOffset := 40 }]) := by kernel_rfl
@[go_sem] theorem ze_24 : zeroA Tryz.prog 24 = some [.int .i64 0, .int .i64 0, .int .i64 0, .int .i64 0, .int .i64 0, .str []] := by kernel_rfl
@[go_sem] theorem ei_24 : einfo Tryz.prog 24 = some (6, 56, 6) := by kernel_rfl
@[go_sem] theorem zv_24 : zeroV Tryz.prog 24 = some (.agg [.int .i64 0, .int .i64 0, .int .i64 0, .int .i64 0, .int .i64 0, .str []]) := by kernel_rfl
@[go_sem] theorem eg_24 : Tryz.prog.eqGuardType Tryz.prog.depth 24 = false := by kernel_rfl
@[go_sem] theorem sh_24 : Tryz.prog.stoodInHeld 24 = false := by kernel_rfl
@[go_sem] theorem fo_24_0 : fieldOff Tryz.prog 24 0 = some 0 := by kernel_rfl
@[go_sem] theorem fo_24_1 : fieldOff Tryz.prog 24 1 = some 1 := by kernel_rfl
@[go_sem] theorem fo_24_2 : fieldOff Tryz.prog 24 2 = some 2 := by kernel_rfl
@[go_sem] theorem fo_24_3 : fieldOff Tryz.prog 24 3 = some 3 := by kernel_rfl
@[go_sem] theorem fo_24_4 : fieldOff Tryz.prog 24 4 = some 5 := by kernel_rfl
@[go_sem] theorem ag_25 : aggT Tryz.prog 25 = some true := by kernel_rfl
@[go_sem] theorem sz_25 : sizeT Tryz.prog 25 = some 6 := by kernel_rfl
@[go_sem] theorem un_25 : Tryz.prog.underlying 25 = some (.struct #[{ name := "Kind", type := 3, offset := 0, embedded := false, tag := "", pkgPath := "", byteOffset := 0 }, { name := "N", type := 3, offset := 1, embedded := false, tag := "", pkgPath := "", byteOffset := 8 }, { name := "M", type := 3, offset := 2, embedded := false, tag := "", pkgPath := "", byteOffset := 16 }, { name := "Color", type := 23, offset := 3, embedded := false, tag := "", pkgPath := "", byteOffset := 24 }, { name := "Text", type := 9, offset := 5, embedded := false, tag := "", pkgPath := "", byteOffset := 40 }]) := by kernel_rfl
@[go_sem] theorem ze_25 : zeroA Tryz.prog 25 = some [.int .i64 0, .int .i64 0, .int .i64 0, .int .i64 0, .int .i64 0, .str []] := by kernel_rfl
@[go_sem] theorem ei_25 : einfo Tryz.prog 25 = some (6, 56, 6) := by kernel_rfl
@[go_sem] theorem zv_25 : zeroV Tryz.prog 25 = some (.agg [.int .i64 0, .int .i64 0, .int .i64 0, .int .i64 0, .int .i64 0, .str []]) := by kernel_rfl
@[go_sem] theorem eg_25 : Tryz.prog.eqGuardType Tryz.prog.depth 25 = false := by kernel_rfl
@[go_sem] theorem sh_25 : Tryz.prog.stoodInHeld 25 = false := by kernel_rfl
@[go_sem] theorem fo_25_0 : fieldOff Tryz.prog 25 0 = some 0 := by kernel_rfl
@[go_sem] theorem fo_25_1 : fieldOff Tryz.prog 25 1 = some 1 := by kernel_rfl
@[go_sem] theorem fo_25_2 : fieldOff Tryz.prog 25 2 = some 2 := by kernel_rfl
@[go_sem] theorem fo_25_3 : fieldOff Tryz.prog 25 3 = some 3 := by kernel_rfl
@[go_sem] theorem fo_25_4 : fieldOff Tryz.prog 25 4 = some 5 := by kernel_rfl
@[go_sem] theorem ag_26 : aggT Tryz.prog 26 = some false := by kernel_rfl
@[go_sem] theorem sz_26 : sizeT Tryz.prog 26 = some 1 := by kernel_rfl
@[go_sem] theorem un_26 : Tryz.prog.underlying 26 = some (.int .u32) := by kernel_rfl
@[go_sem] theorem ze_26 : zeroA Tryz.prog 26 = some [.int .u32 0] := by kernel_rfl
@[go_sem] theorem ei_26 : einfo Tryz.prog 26 = some (1, 4, 1) := by kernel_rfl
@[go_sem] theorem zv_26 : zeroV Tryz.prog 26 = some (.int .u32 0) := by kernel_rfl
@[go_sem] theorem ag_27 : aggT Tryz.prog 27 = some false := by kernel_rfl
@[go_sem] theorem sz_27 : sizeT Tryz.prog 27 = some 1 := by kernel_rfl
@[go_sem] theorem un_27 : Tryz.prog.underlying 27 = some (.slice 3) := by kernel_rfl
@[go_sem] theorem ze_27 : zeroA Tryz.prog 27 = some [.snil] := by kernel_rfl
@[go_sem] theorem ei_27 : einfo Tryz.prog 27 = some (1, 24, 1) := by kernel_rfl
@[go_sem] theorem zv_27 : zeroV Tryz.prog 27 = some (.snil) := by kernel_rfl
@[go_sem] theorem ag_28 : aggT Tryz.prog 28 = some true := by kernel_rfl
@[go_sem] theorem sz_28 : sizeT Tryz.prog 28 = some 5 := by kernel_rfl
@[go_sem] theorem un_28 : Tryz.prog.underlying 28 = some (.struct #[{ name := "What", type := 5, offset := 0, embedded := false, tag := "", pkgPath := "", byteOffset := 0 }, { name := "N", type := 5, offset := 1, embedded := false, tag := "", pkgPath := "", byteOffset := 1 }, { name := "Rgb", type := 26, offset := 2, embedded := false, tag := "", pkgPath := "", byteOffset := 4 }, { name := "Codes", type := 27, offset := 3, embedded := false, tag := "", pkgPath := "", byteOffset := 8 }, { name := "Clip", type := 9, offset := 4, embedded := false, tag := "", pkgPath := "", byteOffset := 32 }]) := by kernel_rfl
@[go_sem] theorem ze_28 : zeroA Tryz.prog 28 = some [.int .u8 0, .int .u8 0, .int .u32 0, .snil, .str []] := by kernel_rfl
@[go_sem] theorem ei_28 : einfo Tryz.prog 28 = some (5, 48, 5) := by kernel_rfl
@[go_sem] theorem zv_28 : zeroV Tryz.prog 28 = some (.agg [.int .u8 0, .int .u8 0, .int .u32 0, .snil, .str []]) := by kernel_rfl
@[go_sem] theorem fo_28_0 : fieldOff Tryz.prog 28 0 = some 0 := by kernel_rfl
@[go_sem] theorem fo_28_1 : fieldOff Tryz.prog 28 1 = some 1 := by kernel_rfl
@[go_sem] theorem fo_28_2 : fieldOff Tryz.prog 28 2 = some 2 := by kernel_rfl
@[go_sem] theorem fo_28_3 : fieldOff Tryz.prog 28 3 = some 3 := by kernel_rfl
@[go_sem] theorem fo_28_4 : fieldOff Tryz.prog 28 4 = some 4 := by kernel_rfl
@[go_sem] theorem ag_29 : aggT Tryz.prog 29 = some true := by kernel_rfl
@[go_sem] theorem sz_29 : sizeT Tryz.prog 29 = some 5 := by kernel_rfl
@[go_sem] theorem un_29 : Tryz.prog.underlying 29 = some (.struct #[{ name := "What", type := 5, offset := 0, embedded := false, tag := "", pkgPath := "", byteOffset := 0 }, { name := "N", type := 5, offset := 1, embedded := false, tag := "", pkgPath := "", byteOffset := 1 }, { name := "Rgb", type := 26, offset := 2, embedded := false, tag := "", pkgPath := "", byteOffset := 4 }, { name := "Codes", type := 27, offset := 3, embedded := false, tag := "", pkgPath := "", byteOffset := 8 }, { name := "Clip", type := 9, offset := 4, embedded := false, tag := "", pkgPath := "", byteOffset := 32 }]) := by kernel_rfl
@[go_sem] theorem ze_29 : zeroA Tryz.prog 29 = some [.int .u8 0, .int .u8 0, .int .u32 0, .snil, .str []] := by kernel_rfl
@[go_sem] theorem ei_29 : einfo Tryz.prog 29 = some (5, 48, 5) := by kernel_rfl
@[go_sem] theorem zv_29 : zeroV Tryz.prog 29 = some (.agg [.int .u8 0, .int .u8 0, .int .u32 0, .snil, .str []]) := by kernel_rfl
@[go_sem] theorem fo_29_0 : fieldOff Tryz.prog 29 0 = some 0 := by kernel_rfl
@[go_sem] theorem fo_29_1 : fieldOff Tryz.prog 29 1 = some 1 := by kernel_rfl
@[go_sem] theorem fo_29_2 : fieldOff Tryz.prog 29 2 = some 2 := by kernel_rfl
@[go_sem] theorem fo_29_3 : fieldOff Tryz.prog 29 3 = some 3 := by kernel_rfl
@[go_sem] theorem fo_29_4 : fieldOff Tryz.prog 29 4 = some 4 := by kernel_rfl
@[go_sem] theorem ag_30 : aggT Tryz.prog 30 = some false := by kernel_rfl
@[go_sem] theorem sz_30 : sizeT Tryz.prog 30 = some 1 := by kernel_rfl
@[go_sem] theorem un_30 : Tryz.prog.underlying 30 = some (.func #[] #[25] false) := by kernel_rfl
@[go_sem] theorem ze_30 : zeroA Tryz.prog 30 = some [.fnil] := by kernel_rfl
@[go_sem] theorem ei_30 : einfo Tryz.prog 30 = some (1, 8, 1) := by kernel_rfl
@[go_sem] theorem zv_30 : zeroV Tryz.prog 30 = some (.fnil) := by kernel_rfl
@[go_sem] theorem ag_31 : aggT Tryz.prog 31 = some true := by kernel_rfl
@[go_sem] theorem sz_31 : sizeT Tryz.prog 31 = some 54 := by kernel_rfl
@[go_sem] theorem un_31 : Tryz.prog.underlying 31 = some (.array 9 25) := by kernel_rfl
@[go_sem] theorem ze_31 : zeroA Tryz.prog 31 = some [.int .i64 0, .int .i64 0, .int .i64 0, .int .i64 0, .int .i64 0, .str [], .int .i64 0, .int .i64 0, .int .i64 0, .int .i64 0, .int .i64 0, .str [], .int .i64 0, .int .i64 0, .int .i64 0, .int .i64 0, .int .i64 0, .str [], .int .i64 0, .int .i64 0, .int .i64 0, .int .i64 0, .int .i64 0, .str [], .int .i64 0, .int .i64 0, .int .i64 0, .int .i64 0, .int .i64 0, .str [], .int .i64 0, .int .i64 0, .int .i64 0, .int .i64 0, .int .i64 0, .str [], .int .i64 0, .int .i64 0, .int .i64 0, .int .i64 0, .int .i64 0, .str [], .int .i64 0, .int .i64 0, .int .i64 0, .int .i64 0, .int .i64 0, .str [], .int .i64 0, .int .i64 0, .int .i64 0, .int .i64 0, .int .i64 0, .str []] := by kernel_rfl
@[go_sem] theorem ei_31 : einfo Tryz.prog 31 = some (54, 504, 54) := by kernel_rfl
@[go_sem] theorem zv_31 : zeroV Tryz.prog 31 = some (.agg [.int .i64 0, .int .i64 0, .int .i64 0, .int .i64 0, .int .i64 0, .str [], .int .i64 0, .int .i64 0, .int .i64 0, .int .i64 0, .int .i64 0, .str [], .int .i64 0, .int .i64 0, .int .i64 0, .int .i64 0, .int .i64 0, .str [], .int .i64 0, .int .i64 0, .int .i64 0, .int .i64 0, .int .i64 0, .str [], .int .i64 0, .int .i64 0, .int .i64 0, .int .i64 0, .int .i64 0, .str [], .int .i64 0, .int .i64 0, .int .i64 0, .int .i64 0, .int .i64 0, .str [], .int .i64 0, .int .i64 0, .int .i64 0, .int .i64 0, .int .i64 0, .str [], .int .i64 0, .int .i64 0, .int .i64 0, .int .i64 0, .int .i64 0, .str [], .int .i64 0, .int .i64 0, .int .i64 0, .int .i64 0, .int .i64 0, .str []]) := by kernel_rfl
@[go_sem] theorem ag_32 : aggT Tryz.prog 32 = some false := by kernel_rfl
@[go_sem] theorem sz_32 : sizeT Tryz.prog 32 = some 1 := by kernel_rfl
@[go_sem] theorem un_32 : Tryz.prog.underlying 32 = some (.int .i64) := by kernel_rfl
@[go_sem] theorem ze_32 : zeroA Tryz.prog 32 = some [.int .i64 0] := by kernel_rfl
@[go_sem] theorem ei_32 : einfo Tryz.prog 32 = some (1, 8, 1) := by kernel_rfl
@[go_sem] theorem zv_32 : zeroV Tryz.prog 32 = some (.int .i64 0) := by kernel_rfl
@[go_sem] theorem ag_38 : aggT Tryz.prog 38 = some false := by kernel_rfl
@[go_sem] theorem sz_38 : sizeT Tryz.prog 38 = some 1 := by kernel_rfl
@[go_sem] theorem un_38 : Tryz.prog.underlying 38 = some (.slice 5) := by kernel_rfl
@[go_sem] theorem ze_38 : zeroA Tryz.prog 38 = some [.snil] := by kernel_rfl
@[go_sem] theorem ei_38 : einfo Tryz.prog 38 = some (1, 24, 1) := by kernel_rfl
@[go_sem] theorem zv_38 : zeroV Tryz.prog 38 = some (.snil) := by kernel_rfl
@[go_sem] theorem ag_48 : aggT Tryz.prog 48 = some false := by kernel_rfl
@[go_sem] theorem sz_48 : sizeT Tryz.prog 48 = some 1 := by kernel_rfl
@[go_sem] theorem un_48 : Tryz.prog.underlying 48 = some (.func #[9] #[25] false) := by kernel_rfl
@[go_sem] theorem ze_48 : zeroA Tryz.prog 48 = some [.fnil] := by kernel_rfl
@[go_sem] theorem ei_48 : einfo Tryz.prog 48 = some (1, 8, 1) := by kernel_rfl
@[go_sem] theorem zv_48 : zeroV Tryz.prog 48 = some (.fnil) := by kernel_rfl
@[go_sem] theorem ag_55 : aggT Tryz.prog 55 = some false := by kernel_rfl
@[go_sem] theorem sz_55 : sizeT Tryz.prog 55 = some 1 := by kernel_rfl
@[go_sem] theorem un_55 : Tryz.prog.underlying 55 = some (.func #[25] #[9] false) := by kernel_rfl
@[go_sem] theorem ze_55 : zeroA Tryz.prog 55 = some [.fnil] := by kernel_rfl
@[go_sem] theorem ei_55 : einfo Tryz.prog 55 = some (1, 8, 1) := by kernel_rfl
@[go_sem] theorem zv_55 : zeroV Tryz.prog 55 = some (.fnil) := by kernel_rfl
@[go_sem] theorem ag_57 : aggT Tryz.prog 57 = some false := by kernel_rfl
@[go_sem] theorem sz_57 : sizeT Tryz.prog 57 = some 1 := by kernel_rfl
@[go_sem] theorem un_57 : Tryz.prog.underlying 57 = some (.map 3 55) := by kernel_rfl
@[go_sem] theorem ze_57 : zeroA Tryz.prog 57 = some [.mnil] := by kernel_rfl
@[go_sem] theorem ei_57 : einfo Tryz.prog 57 = some (1, 8, 1) := by kernel_rfl
@[go_sem] theorem zv_57 : zeroV Tryz.prog 57 = some (.mnil) := by kernel_rfl
@[go_sem] theorem ag_60 : aggT Tryz.prog 60 = some false := by kernel_rfl
@[go_sem] theorem sz_60 : sizeT Tryz.prog 60 = some 1 := by kernel_rfl
@[go_sem] theorem un_60 : Tryz.prog.underlying 60 = some (.func #[] #[9] false) := by kernel_rfl
@[go_sem] theorem ze_60 : zeroA Tryz.prog 60 = some [.fnil] := by kernel_rfl
@[go_sem] theorem ei_60 : einfo Tryz.prog 60 = some (1, 8, 1) := by kernel_rfl
@[go_sem] theorem zv_60 : zeroV Tryz.prog 60 = some (.fnil) := by kernel_rfl
@[go_sem] theorem ag_68 : aggT Tryz.prog 68 = some false := by kernel_rfl
@[go_sem] theorem sz_68 : sizeT Tryz.prog 68 = some 1 := by kernel_rfl
@[go_sem] theorem un_68 : Tryz.prog.underlying 68 = some (.map 9 48) := by kernel_rfl
@[go_sem] theorem ze_68 : zeroA Tryz.prog 68 = some [.mnil] := by kernel_rfl
@[go_sem] theorem ei_68 : einfo Tryz.prog 68 = some (1, 8, 1) := by kernel_rfl
@[go_sem] theorem zv_68 : zeroV Tryz.prog 68 = some (.mnil) := by kernel_rfl
@[go_sem] theorem ag_75 : aggT Tryz.prog 75 = some false := by kernel_rfl
@[go_sem] theorem sz_75 : sizeT Tryz.prog 75 = some 1 := by kernel_rfl
@[go_sem] theorem un_75 : Tryz.prog.underlying 75 = some (.func #[3] #[4] false) := by kernel_rfl
@[go_sem] theorem ze_75 : zeroA Tryz.prog 75 = some [.fnil] := by kernel_rfl
@[go_sem] theorem ei_75 : einfo Tryz.prog 75 = some (1, 8, 1) := by kernel_rfl
@[go_sem] theorem zv_75 : zeroV Tryz.prog 75 = some (.fnil) := by kernel_rfl
@[go_sem] theorem ag_76 : aggT Tryz.prog 76 = some false := by kernel_rfl
@[go_sem] theorem sz_76 : sizeT Tryz.prog 76 = some 1 := by kernel_rfl
@[go_sem] theorem un_76 : Tryz.prog.underlying 76 = some (.int .u64) := by kernel_rfl
@[go_sem] theorem ze_76 : zeroA Tryz.prog 76 = some [.int .u64 0] := by kernel_rfl
@[go_sem] theorem ei_76 : einfo Tryz.prog 76 = some (1, 8, 1) := by kernel_rfl
@[go_sem] theorem zv_76 : zeroV Tryz.prog 76 = some (.int .u64 0) := by kernel_rfl
@[go_sem] theorem ag_80 : aggT Tryz.prog 80 = some false := by kernel_rfl
@[go_sem] theorem sz_80 : sizeT Tryz.prog 80 = some 1 := by kernel_rfl
@[go_sem] theorem un_80 : Tryz.prog.underlying 80 = some (.pointer 82) := by kernel_rfl
@[go_sem] theorem ze_80 : zeroA Tryz.prog 80 = some [.nilp] := by kernel_rfl
@[go_sem] theorem ei_80 : einfo Tryz.prog 80 = some (1, 8, 1) := by kernel_rfl
@[go_sem] theorem zv_80 : zeroV Tryz.prog 80 = some (.nilp) := by kernel_rfl
@[go_sem] theorem ag_81 : aggT Tryz.prog 81 = some true := by kernel_rfl
@[go_sem] theorem sz_81 : sizeT Tryz.prog 81 = some 2 := by kernel_rfl
@[go_sem] theorem un_81 : Tryz.prog.underlying 81 = some (.struct #[{ name := "addr", type := 80, offset := 0, embedded := false, tag := "", pkgPath := "strings", byteOffset := 0 }, { name := "buf", type := 38, offset := 1, embedded := false, tag := "", pkgPath := "strings", byteOffset := 8 }]) := by kernel_rfl
@[go_sem] theorem ze_81 : zeroA Tryz.prog 81 = some [.nilp, .snil] := by kernel_rfl
@[go_sem] theorem ei_81 : einfo Tryz.prog 81 = some (2, 32, 2) := by kernel_rfl
@[go_sem] theorem zv_81 : zeroV Tryz.prog 81 = some (.agg [.nilp, .snil]) := by kernel_rfl
@[go_sem] theorem fo_81_0 : fieldOff Tryz.prog 81 0 = some 0 := by kernel_rfl
@[go_sem] theorem fo_81_1 : fieldOff Tryz.prog 81 1 = some 1 := by kernel_rfl
@[go_sem] theorem ag_82 : aggT Tryz.prog 82 = some true := by kernel_rfl
@[go_sem] theorem sz_82 : sizeT Tryz.prog 82 = some 2 := by kernel_rfl
@[go_sem] theorem un_82 : Tryz.prog.underlying 82 = some (.struct #[{ name := "addr", type := 80, offset := 0, embedded := false, tag := "", pkgPath := "strings", byteOffset := 0 }, { name := "buf", type := 38, offset := 1, embedded := false, tag := "", pkgPath := "strings", byteOffset := 8 }]) := by kernel_rfl
@[go_sem] theorem ze_82 : zeroA Tryz.prog 82 = some [.nilp, .snil] := by kernel_rfl
@[go_sem] theorem ei_82 : einfo Tryz.prog 82 = some (2, 32, 2) := by kernel_rfl
@[go_sem] theorem zv_82 : zeroV Tryz.prog 82 = some (.agg [.nilp, .snil]) := by kernel_rfl
@[go_sem] theorem fo_82_0 : fieldOff Tryz.prog 82 0 = some 0 := by kernel_rfl
@[go_sem] theorem fo_82_1 : fieldOff Tryz.prog 82 1 = some 1 := by kernel_rfl
@[go_sem] theorem ag_83 : aggT Tryz.prog 83 = some false := by kernel_rfl
@[go_sem] theorem sz_83 : sizeT Tryz.prog 83 = some 1 := by kernel_rfl
@[go_sem] theorem un_83 : Tryz.prog.underlying 83 = some (.func #[3] #[] false) := by kernel_rfl
@[go_sem] theorem ze_83 : zeroA Tryz.prog 83 = some [.fnil] := by kernel_rfl
@[go_sem] theorem ei_83 : einfo Tryz.prog 83 = some (1, 8, 1) := by kernel_rfl
@[go_sem] theorem zv_83 : zeroV Tryz.prog 83 = some (.fnil) := by kernel_rfl
@[go_sem] theorem ag_84 : aggT Tryz.prog 84 = some false := by kernel_rfl
@[go_sem] theorem sz_84 : sizeT Tryz.prog 84 = some 1 := by kernel_rfl
@[go_sem] theorem un_84 : Tryz.prog.underlying 84 = some (.interface #[("Error", 60)]) := by kernel_rfl
@[go_sem] theorem ze_84 : zeroA Tryz.prog 84 = some [.inil] := by kernel_rfl
@[go_sem] theorem ei_84 : einfo Tryz.prog 84 = some (1, 16, 1) := by kernel_rfl
@[go_sem] theorem zv_84 : zeroV Tryz.prog 84 = some (.inil) := by kernel_rfl
@[go_sem] theorem ag_85 : aggT Tryz.prog 85 = some false := by kernel_rfl
@[go_sem] theorem sz_85 : sizeT Tryz.prog 85 = some 1 := by kernel_rfl
@[go_sem] theorem un_85 : Tryz.prog.underlying 85 = some (.interface #[("Error", 60)]) := by kernel_rfl
@[go_sem] theorem ze_85 : zeroA Tryz.prog 85 = some [.inil] := by kernel_rfl
@[go_sem] theorem ei_85 : einfo Tryz.prog 85 = some (1, 16, 1) := by kernel_rfl
@[go_sem] theorem zv_85 : zeroV Tryz.prog 85 = some (.inil) := by kernel_rfl
@[go_sem] theorem ag_89 : aggT Tryz.prog 89 = some true := by kernel_rfl
@[go_sem] theorem sz_89 : sizeT Tryz.prog 89 = some 0 := by kernel_rfl
@[go_sem] theorem un_89 : Tryz.prog.underlying 89 = some (.struct #[]) := by kernel_rfl
@[go_sem] theorem ze_89 : zeroA Tryz.prog 89 = some [] := by kernel_rfl
@[go_sem] theorem ei_89 : einfo Tryz.prog 89 = some (0, 0, 0) := by kernel_rfl
@[go_sem] theorem zv_89 : zeroV Tryz.prog 89 = some (.agg []) := by kernel_rfl
@[go_sem] theorem eg_89 : Tryz.prog.eqGuardType Tryz.prog.depth 89 = false := by kernel_rfl
@[go_sem] theorem sh_89 : Tryz.prog.stoodInHeld 89 = false := by kernel_rfl
@[go_sem] theorem ag_90 : aggT Tryz.prog 90 = some true := by kernel_rfl
@[go_sem] theorem sz_90 : sizeT Tryz.prog 90 = some 0 := by kernel_rfl
@[go_sem] theorem un_90 : Tryz.prog.underlying 90 = some (.struct #[]) := by kernel_rfl
@[go_sem] theorem ze_90 : zeroA Tryz.prog 90 = some [] := by kernel_rfl
@[go_sem] theorem ei_90 : einfo Tryz.prog 90 = some (0, 0, 0) := by kernel_rfl
@[go_sem] theorem zv_90 : zeroV Tryz.prog 90 = some (.agg []) := by kernel_rfl
@[go_sem] theorem eg_90 : Tryz.prog.eqGuardType Tryz.prog.depth 90 = false := by kernel_rfl
@[go_sem] theorem sh_90 : Tryz.prog.stoodInHeld 90 = false := by kernel_rfl
@[go_sem] theorem ag_97 : aggT Tryz.prog 97 = some true := by kernel_rfl
@[go_sem] theorem sz_97 : sizeT Tryz.prog 97 = some 6 := by kernel_rfl
@[go_sem] theorem un_97 : Tryz.prog.underlying 97 = some (.array 6 3) := by kernel_rfl
@[go_sem] theorem ze_97 : zeroA Tryz.prog 97 = some [.int .i64 0, .int .i64 0, .int .i64 0, .int .i64 0, .int .i64 0, .int .i64 0] := by kernel_rfl
@[go_sem] theorem ei_97 : einfo Tryz.prog 97 = some (6, 48, 6) := by kernel_rfl
@[go_sem] theorem zv_97 : zeroV Tryz.prog 97 = some (.agg [.int .i64 0, .int .i64 0, .int .i64 0, .int .i64 0, .int .i64 0, .int .i64 0]) := by kernel_rfl
@[go_sem] theorem ag_103 : aggT Tryz.prog 103 = some true := by kernel_rfl
@[go_sem] theorem sz_103 : sizeT Tryz.prog 103 = some 5 := by kernel_rfl
@[go_sem] theorem un_103 : Tryz.prog.underlying 103 = some (.array 5 3) := by kernel_rfl
@[go_sem] theorem ze_103 : zeroA Tryz.prog 103 = some [.int .i64 0, .int .i64 0, .int .i64 0, .int .i64 0, .int .i64 0] := by kernel_rfl
@[go_sem] theorem ei_103 : einfo Tryz.prog 103 = some (5, 40, 5) := by kernel_rfl
@[go_sem] theorem zv_103 : zeroV Tryz.prog 103 = some (.agg [.int .i64 0, .int .i64 0, .int .i64 0, .int .i64 0, .int .i64 0]) := by kernel_rfl
@[go_sem] theorem ag_106 : aggT Tryz.prog 106 = some false := by kernel_rfl
@[go_sem] theorem sz_106 : sizeT Tryz.prog 106 = some 1 := by kernel_rfl
@[go_sem] theorem un_106 : Tryz.prog.underlying 106 = some (.int .u64) := by kernel_rfl
@[go_sem] theorem ze_106 : zeroA Tryz.prog 106 = some [.int .u64 0] := by kernel_rfl
@[go_sem] theorem ei_106 : einfo Tryz.prog 106 = some (1, 8, 1) := by kernel_rfl
@[go_sem] theorem zv_106 : zeroV Tryz.prog 106 = some (.int .u64 0) := by kernel_rfl
@[go_sem] theorem ag_109 : aggT Tryz.prog 109 = some false := by kernel_rfl
@[go_sem] theorem sz_109 : sizeT Tryz.prog 109 = some 1 := by kernel_rfl
@[go_sem] theorem un_109 : Tryz.prog.underlying 109 = some (.pointer 5) := by kernel_rfl
@[go_sem] theorem ze_109 : zeroA Tryz.prog 109 = some [.nilp] := by kernel_rfl
@[go_sem] theorem ei_109 : einfo Tryz.prog 109 = some (1, 8, 1) := by kernel_rfl
@[go_sem] theorem zv_109 : zeroV Tryz.prog 109 = some (.nilp) := by kernel_rfl
@[go_sem] theorem ag_111 : aggT Tryz.prog 111 = some false := by kernel_rfl
@[go_sem] theorem sz_111 : sizeT Tryz.prog 111 = some 1 := by kernel_rfl
@[go_sem] theorem un_111 : Tryz.prog.underlying 111 = some (.func #[3] #[3, 3] false) := by kernel_rfl
@[go_sem] theorem ze_111 : zeroA Tryz.prog 111 = some [.fnil] := by kernel_rfl
@[go_sem] theorem ei_111 : einfo Tryz.prog 111 = some (1, 8, 1) := by kernel_rfl
@[go_sem] theorem zv_111 : zeroV Tryz.prog 111 = some (.fnil) := by kernel_rfl
@[go_sem] theorem ag_118 : aggT Tryz.prog 118 = some true := by kernel_rfl
@[go_sem] theorem sz_118 : sizeT Tryz.prog 118 = some 8 := by kernel_rfl
@[go_sem] theorem un_118 : Tryz.prog.underlying 118 = some (.array 8 3) := by kernel_rfl
@[go_sem] theorem ze_118 : zeroA Tryz.prog 118 = some [.int .i64 0, .int .i64 0, .int .i64 0, .int .i64 0, .int .i64 0, .int .i64 0, .int .i64 0, .int .i64 0] := by kernel_rfl
@[go_sem] theorem ei_118 : einfo Tryz.prog 118 = some (8, 64, 8) := by kernel_rfl
@[go_sem] theorem zv_118 : zeroV Tryz.prog 118 = some (.agg [.int .i64 0, .int .i64 0, .int .i64 0, .int .i64 0, .int .i64 0, .int .i64 0, .int .i64 0, .int .i64 0]) := by kernel_rfl
@[go_sem] theorem ag_120 : aggT Tryz.prog 120 = some true := by kernel_rfl
@[go_sem] theorem sz_120 : sizeT Tryz.prog 120 = some 256 := by kernel_rfl
@[go_sem] theorem un_120 : Tryz.prog.underlying 120 = some (.array 256 4) := by kernel_rfl
@[go_sem] theorem ag_121 : aggT Tryz.prog 121 = some true := by kernel_rfl
@[go_sem] theorem sz_121 : sizeT Tryz.prog 121 = some 256 := by kernel_rfl
@[go_sem] theorem un_121 : Tryz.prog.underlying 121 = some (.array 256 4) := by kernel_rfl
@[go_sem] theorem ag_125 : aggT Tryz.prog 125 = some false := by kernel_rfl
@[go_sem] theorem sz_125 : sizeT Tryz.prog 125 = some 1 := by kernel_rfl
@[go_sem] theorem un_125 : Tryz.prog.underlying 125 = some (.pointer 121) := by kernel_rfl
@[go_sem] theorem ze_125 : zeroA Tryz.prog 125 = some [.nilp] := by kernel_rfl
@[go_sem] theorem ei_125 : einfo Tryz.prog 125 = some (1, 8, 1) := by kernel_rfl
@[go_sem] theorem zv_125 : zeroV Tryz.prog 125 = some (.nilp) := by kernel_rfl
@[go_sem] theorem ag_128 : aggT Tryz.prog 128 = some false := by kernel_rfl
@[go_sem] theorem sz_128 : sizeT Tryz.prog 128 = some 1 := by kernel_rfl
@[go_sem] theorem un_128 : Tryz.prog.underlying 128 = some (.slice 9) := by kernel_rfl
@[go_sem] theorem ze_128 : zeroA Tryz.prog 128 = some [.snil] := by kernel_rfl
@[go_sem] theorem ei_128 : einfo Tryz.prog 128 = some (1, 24, 1) := by kernel_rfl
@[go_sem] theorem zv_128 : zeroV Tryz.prog 128 = some (.snil) := by kernel_rfl
@[go_sem] theorem ag_132 : aggT Tryz.prog 132 = some false := by kernel_rfl
@[go_sem] theorem sz_132 : sizeT Tryz.prog 132 = some 1 := by kernel_rfl
@[go_sem] theorem un_132 : Tryz.prog.underlying 132 = some (.map 5 3) := by kernel_rfl
@[go_sem] theorem ze_132 : zeroA Tryz.prog 132 = some [.mnil] := by kernel_rfl
@[go_sem] theorem ei_132 : einfo Tryz.prog 132 = some (1, 8, 1) := by kernel_rfl
@[go_sem] theorem zv_132 : zeroV Tryz.prog 132 = some (.mnil) := by kernel_rfl
@[go_sem] theorem ag_134 : aggT Tryz.prog 134 = some false := by kernel_rfl
@[go_sem] theorem sz_134 : sizeT Tryz.prog 134 = some 1 := by kernel_rfl
@[go_sem] theorem un_134 : Tryz.prog.underlying 134 = some (.unsafePointer) := by kernel_rfl
@[go_sem] theorem ze_134 : zeroA Tryz.prog 134 = some [.nilp] := by kernel_rfl
@[go_sem] theorem ei_134 : einfo Tryz.prog 134 = some (1, 8, 1) := by kernel_rfl
@[go_sem] theorem zv_134 : zeroV Tryz.prog 134 = some (.nilp) := by kernel_rfl
@[go_sem] theorem ag_137 : aggT Tryz.prog 137 = some false := by kernel_rfl
@[go_sem] theorem sz_137 : sizeT Tryz.prog 137 = some 1 := by kernel_rfl
@[go_sem] theorem un_137 : Tryz.prog.underlying 137 = some (.func #[75] #[] false) := by kernel_rfl
@[go_sem] theorem ze_137 : zeroA Tryz.prog 137 = some [.fnil] := by kernel_rfl
@[go_sem] theorem ei_137 : einfo Tryz.prog 137 = some (1, 8, 1) := by kernel_rfl
@[go_sem] theorem zv_137 : zeroV Tryz.prog 137 = some (.fnil) := by kernel_rfl
@[go_sem] theorem ag_138 : aggT Tryz.prog 138 = some false := by kernel_rfl
@[go_sem] theorem sz_138 : sizeT Tryz.prog 138 = some 1 := by kernel_rfl
@[go_sem] theorem un_138 : Tryz.prog.underlying 138 = some (.func #[75] #[] false) := by kernel_rfl
@[go_sem] theorem ze_138 : zeroA Tryz.prog 138 = some [.fnil] := by kernel_rfl
@[go_sem] theorem ei_138 : einfo Tryz.prog 138 = some (1, 8, 1) := by kernel_rfl
@[go_sem] theorem zv_138 : zeroV Tryz.prog 138 = some (.fnil) := by kernel_rfl
@[go_sem] theorem ag_140 : aggT Tryz.prog 140 = some true := by kernel_rfl
@[go_sem] theorem sz_140 : sizeT Tryz.prog 140 = some 3 := by kernel_rfl
@[go_sem] theorem un_140 : Tryz.prog.underlying 140 = some (.array 3 3) := by kernel_rfl
@[go_sem] theorem ze_140 : zeroA Tryz.prog 140 = some [.int .i64 0, .int .i64 0, .int .i64 0] := by kernel_rfl
@[go_sem] theorem ei_140 : einfo Tryz.prog 140 = some (3, 24, 3) := by kernel_rfl
@[go_sem] theorem zv_140 : zeroV Tryz.prog 140 = some (.agg [.int .i64 0, .int .i64 0, .int .i64 0]) := by kernel_rfl
@[go_sem] theorem ag_147 : aggT Tryz.prog 147 = some true := by kernel_rfl
@[go_sem] theorem sz_147 : sizeT Tryz.prog 147 = some 16 := by kernel_rfl
@[go_sem] theorem un_147 : Tryz.prog.underlying 147 = some (.array 16 3) := by kernel_rfl
@[go_sem] theorem ze_147 : zeroA Tryz.prog 147 = some [.int .i64 0, .int .i64 0, .int .i64 0, .int .i64 0, .int .i64 0, .int .i64 0, .int .i64 0, .int .i64 0, .int .i64 0, .int .i64 0, .int .i64 0, .int .i64 0, .int .i64 0, .int .i64 0, .int .i64 0, .int .i64 0] := by kernel_rfl
@[go_sem] theorem ei_147 : einfo Tryz.prog 147 = some (16, 128, 16) := by kernel_rfl
@[go_sem] theorem zv_147 : zeroV Tryz.prog 147 = some (.agg [.int .i64 0, .int .i64 0, .int .i64 0, .int .i64 0, .int .i64 0, .int .i64 0, .int .i64 0, .int .i64 0, .int .i64 0, .int .i64 0, .int .i64 0, .int .i64 0, .int .i64 0, .int .i64 0, .int .i64 0, .int .i64 0]) := by kernel_rfl
@[go_sem] theorem ag_153 : aggT Tryz.prog 153 = some false := by kernel_rfl
@[go_sem] theorem sz_153 : sizeT Tryz.prog 153 = some 1 := by kernel_rfl
@[go_sem] theorem un_153 : Tryz.prog.underlying 153 = some (.int .i64) := by kernel_rfl
@[go_sem] theorem ze_153 : zeroA Tryz.prog 153 = some [.int .i64 0] := by kernel_rfl
@[go_sem] theorem ei_153 : einfo Tryz.prog 153 = some (1, 8, 1) := by kernel_rfl
@[go_sem] theorem zv_153 : zeroV Tryz.prog 153 = some (.int .i64 0) := by kernel_rfl
@[go_sem] theorem ag_156 : aggT Tryz.prog 156 = some false := by kernel_rfl
@[go_sem] theorem sz_156 : sizeT Tryz.prog 156 = some 1 := by kernel_rfl
@[go_sem] theorem un_156 : Tryz.prog.underlying 156 = some (.pointer 170) := by kernel_rfl
@[go_sem] theorem ze_156 : zeroA Tryz.prog 156 = some [.nilp] := by kernel_rfl
@[go_sem] theorem ei_156 : einfo Tryz.prog 156 = some (1, 8, 1) := by kernel_rfl
@[go_sem] theorem zv_156 : zeroV Tryz.prog 156 = some (.nilp) := by kernel_rfl
@[go_sem] theorem ag_160 : aggT Tryz.prog 160 = some false := by kernel_rfl
@[go_sem] theorem sz_160 : sizeT Tryz.prog 160 = some 1 := by kernel_rfl
@[go_sem] theorem un_160 : Tryz.prog.underlying 160 = some (.func #[3] #[5] false) := by kernel_rfl
@[go_sem] theorem ze_160 : zeroA Tryz.prog 160 = some [.fnil] := by kernel_rfl
@[go_sem] theorem ei_160 : einfo Tryz.prog 160 = some (1, 8, 1) := by kernel_rfl
@[go_sem] theorem zv_160 : zeroV Tryz.prog 160 = some (.fnil) := by kernel_rfl
@[go_sem] theorem ag_161 : aggT Tryz.prog 161 = some true := by kernel_rfl
@[go_sem] theorem sz_161 : sizeT Tryz.prog 161 = some 24 := by kernel_rfl
@[go_sem] theorem un_161 : Tryz.prog.underlying 161 = some (.array 24 5) := by kernel_rfl
@[go_sem] theorem ze_161 : zeroA Tryz.prog 161 = some [.int .u8 0, .int .u8 0, .int .u8 0, .int .u8 0, .int .u8 0, .int .u8 0, .int .u8 0, .int .u8 0, .int .u8 0, .int .u8 0, .int .u8 0, .int .u8 0, .int .u8 0, .int .u8 0, .int .u8 0, .int .u8 0, .int .u8 0, .int .u8 0, .int .u8 0, .int .u8 0, .int .u8 0, .int .u8 0, .int .u8 0, .int .u8 0] := by kernel_rfl
@[go_sem] theorem ei_161 : einfo Tryz.prog 161 = some (24, 24, 24) := by kernel_rfl
@[go_sem] theorem zv_161 : zeroV Tryz.prog 161 = some (.agg [.int .u8 0, .int .u8 0, .int .u8 0, .int .u8 0, .int .u8 0, .int .u8 0, .int .u8 0, .int .u8 0, .int .u8 0, .int .u8 0, .int .u8 0, .int .u8 0, .int .u8 0, .int .u8 0, .int .u8 0, .int .u8 0, .int .u8 0, .int .u8 0, .int .u8 0, .int .u8 0, .int .u8 0, .int .u8 0, .int .u8 0, .int .u8 0]) := by kernel_rfl
@[go_sem] theorem ag_169 : aggT Tryz.prog 169 = some true := by kernel_rfl
@[go_sem] theorem sz_169 : sizeT Tryz.prog 169 = some 3 := by kernel_rfl
@[go_sem] theorem un_169 : Tryz.prog.underlying 169 = some (.struct #[{ name := "Func", type := 9, offset := 0, embedded := false, tag := "", pkgPath := "", byteOffset := 0 }, { name := "Num", type := 9, offset := 1, embedded := false, tag := "", pkgPath := "", byteOffset := 16 }, { name := "Err", type := 85, offset := 2, embedded := false, tag := "", pkgPath := "", byteOffset := 32 }]) := by kernel_rfl
@[go_sem] theorem ze_169 : zeroA Tryz.prog 169 = some [.str [], .str [], .inil] := by kernel_rfl
@[go_sem] theorem ei_169 : einfo Tryz.prog 169 = some (3, 48, 3) := by kernel_rfl
@[go_sem] theorem zv_169 : zeroV Tryz.prog 169 = some (.agg [.str [], .str [], .inil]) := by kernel_rfl
@[go_sem] theorem fo_169_0 : fieldOff Tryz.prog 169 0 = some 0 := by kernel_rfl
@[go_sem] theorem fo_169_1 : fieldOff Tryz.prog 169 1 = some 1 := by kernel_rfl
@[go_sem] theorem fo_169_2 : fieldOff Tryz.prog 169 2 = some 2 := by kernel_rfl
@[go_sem] theorem ag_170 : aggT Tryz.prog 170 = some true := by kernel_rfl
@[go_sem] theorem sz_170 : sizeT Tryz.prog 170 = some 3 := by kernel_rfl
@[go_sem] theorem un_170 : Tryz.prog.underlying 170 = some (.struct #[{ name := "Func", type := 9, offset := 0, embedded := false, tag := "", pkgPath := "", byteOffset := 0 }, { name := "Num", type := 9, offset := 1, embedded := false, tag := "", pkgPath := "", byteOffset := 16 }, { name := "Err", type := 85, offset := 2, embedded := false, tag := "", pkgPath := "", byteOffset := 32 }]) := by kernel_rfl
@[go_sem] theorem ze_170 : zeroA Tryz.prog 170 = some [.str [], .str [], .inil] := by kernel_rfl
@[go_sem] theorem ei_170 : einfo Tryz.prog 170 = some (3, 48, 3) := by kernel_rfl
@[go_sem] theorem zv_170 : zeroV Tryz.prog 170 = some (.agg [.str [], .str [], .inil]) := by kernel_rfl
@[go_sem] theorem fo_170_0 : fieldOff Tryz.prog 170 0 = some 0 := by kernel_rfl
@[go_sem] theorem fo_170_1 : fieldOff Tryz.prog 170 1 = some 1 := by kernel_rfl
@[go_sem] theorem fo_170_2 : fieldOff Tryz.prog 170 2 = some 2 := by kernel_rfl
@[go_sem] theorem ag_176 : aggT Tryz.prog 176 = some true := by kernel_rfl
@[go_sem] theorem sz_176 : sizeT Tryz.prog 176 = some 20 := by kernel_rfl
@[go_sem] theorem un_176 : Tryz.prog.underlying 176 = some (.array 20 106) := by kernel_rfl
@[go_sem] theorem ze_176 : zeroA Tryz.prog 176 = some [.int .u64 0, .int .u64 0, .int .u64 0, .int .u64 0, .int .u64 0, .int .u64 0, .int .u64 0, .int .u64 0, .int .u64 0, .int .u64 0, .int .u64 0, .int .u64 0, .int .u64 0, .int .u64 0, .int .u64 0, .int .u64 0, .int .u64 0, .int .u64 0, .int .u64 0, .int .u64 0] := by kernel_rfl
@[go_sem] theorem ei_176 : einfo Tryz.prog 176 = some (20, 160, 20) := by kernel_rfl
@[go_sem] theorem zv_176 : zeroV Tryz.prog 176 = some (.agg [.int .u64 0, .int .u64 0, .int .u64 0, .int .u64 0, .int .u64 0, .int .u64 0, .int .u64 0, .int .u64 0, .int .u64 0, .int .u64 0, .int .u64 0, .int .u64 0, .int .u64 0, .int .u64 0, .int .u64 0, .int .u64 0, .int .u64 0, .int .u64 0, .int .u64 0, .int .u64 0]) := by kernel_rfl
@[go_sem] theorem ag_177 : aggT Tryz.prog 177 = some true := by kernel_rfl
@[go_sem] theorem sz_177 : sizeT Tryz.prog 177 = some 65 := by kernel_rfl
@[go_sem] theorem un_177 : Tryz.prog.underlying 177 = some (.array 65 5) := by kernel_rfl
@[go_sem] theorem ag_192 : aggT Tryz.prog 192 = some true := by kernel_rfl
@[go_sem] theorem sz_192 : sizeT Tryz.prog 192 = some 64 := by kernel_rfl
@[go_sem] theorem un_192 : Tryz.prog.underlying 192 = some (.array 64 5) := by kernel_rfl
@[go_sem] theorem ze_192 : zeroA Tryz.prog 192 = some [.int .u8 0, .int .u8 0, .int .u8 0, .int .u8 0, .int .u8 0, .int .u8 0, .int .u8 0, .int .u8 0, .int .u8 0, .int .u8 0, .int .u8 0, .int .u8 0, .int .u8 0, .int .u8 0, .int .u8 0, .int .u8 0, .int .u8 0, .int .u8 0, .int .u8 0, .int .u8 0, .int .u8 0, .int .u8 0, .int .u8 0, .int .u8 0, .int .u8 0, .int .u8 0, .int .u8 0, .int .u8 0, .int .u8 0, .int .u8 0, .int .u8 0, .int .u8 0, .int .u8 0, .int .u8 0, .int .u8 0, .int .u8 0, .int .u8 0, .int .u8 0, .int .u8 0, .int .u8 0, .int .u8 0, .int .u8 0, .int .u8 0, .int .u8 0, .int .u8 0, .int .u8 0, .int .u8 0, .int .u8 0, .int .u8 0, .int .u8 0, .int .u8 0, .int .u8 0, .int .u8 0, .int .u8 0, .int .u8 0, .int .u8 0, .int .u8 0, .int .u8 0, .int .u8 0, .int .u8 0, .int .u8 0, .int .u8 0, .int .u8 0, .int .u8 0] := by kernel_rfl
@[go_sem] theorem ei_192 : einfo Tryz.prog 192 = some (64, 64, 64) := by kernel_rfl
@[go_sem] theorem zv_192 : zeroV Tryz.prog 192 = some (.agg [.int .u8 0, .int .u8 0, .int .u8 0, .int .u8 0, .int .u8 0, .int .u8 0, .int .u8 0, .int .u8 0, .int .u8 0, .int .u8 0, .int .u8 0, .int .u8 0, .int .u8 0, .int .u8 0, .int .u8 0, .int .u8 0, .int .u8 0, .int .u8 0, .int .u8 0, .int .u8 0, .int .u8 0, .int .u8 0, .int .u8 0, .int .u8 0, .int .u8 0, .int .u8 0, .int .u8 0, .int .u8 0, .int .u8 0, .int .u8 0, .int .u8 0, .int .u8 0, .int .u8 0, .int .u8 0, .int .u8 0, .int .u8 0, .int .u8 0, .int .u8 0, .int .u8 0, .int .u8 0, .int .u8 0, .int .u8 0, .int .u8 0, .int .u8 0, .int .u8 0, .int .u8 0, .int .u8 0, .int .u8 0, .int .u8 0, .int .u8 0, .int .u8 0, .int .u8 0, .int .u8 0, .int .u8 0, .int .u8 0, .int .u8 0, .int .u8 0, .int .u8 0, .int .u8 0, .int .u8 0, .int .u8 0, .int .u8 0, .int .u8 0, .int .u8 0]) := by kernel_rfl
@[go_sem] theorem bl_1 : isBld Tryz.prog 1 = false := by kernel_rfl
@[go_sem] theorem bl_2 : isBld Tryz.prog 2 = false := by kernel_rfl
@[go_sem] theorem bl_3 : isBld Tryz.prog 3 = false := by kernel_rfl
@[go_sem] theorem bl_4 : isBld Tryz.prog 4 = false := by kernel_rfl
@[go_sem] theorem bl_5 : isBld Tryz.prog 5 = false := by kernel_rfl
@[go_sem] theorem co_5 : Tryz.prog.cellsOf 5 = 1 := by kernel_rfl
@[go_sem] theorem bl_9 : isBld Tryz.prog 9 = false := by kernel_rfl
@[go_sem] theorem bl_20 : isBld Tryz.prog 20 = false := by kernel_rfl
@[go_sem] theorem bl_22 : isBld Tryz.prog 22 = false := by kernel_rfl
@[go_sem] theorem bl_23 : isBld Tryz.prog 23 = false := by kernel_rfl
@[go_sem] theorem bl_24 : isBld Tryz.prog 24 = false := by kernel_rfl
@[go_sem] theorem bl_25 : isBld Tryz.prog 25 = false := by kernel_rfl
@[go_sem] theorem bl_26 : isBld Tryz.prog 26 = false := by kernel_rfl
@[go_sem] theorem bl_27 : isBld Tryz.prog 27 = false := by kernel_rfl
@[go_sem] theorem bl_28 : isBld Tryz.prog 28 = false := by kernel_rfl
@[go_sem] theorem bl_29 : isBld Tryz.prog 29 = false := by kernel_rfl
@[go_sem] theorem bl_30 : isBld Tryz.prog 30 = false := by kernel_rfl
@[go_sem] theorem bl_31 : isBld Tryz.prog 31 = false := by kernel_rfl
@[go_sem] theorem bl_32 : isBld Tryz.prog 32 = false := by kernel_rfl
@[go_sem] theorem bl_38 : isBld Tryz.prog 38 = false := by kernel_rfl
@[go_sem] theorem bl_48 : isBld Tryz.prog 48 = false := by kernel_rfl
@[go_sem] theorem bl_55 : isBld Tryz.prog 55 = false := by kernel_rfl
@[go_sem] theorem bl_57 : isBld Tryz.prog 57 = false := by kernel_rfl
@[go_sem] theorem bl_60 : isBld Tryz.prog 60 = false := by kernel_rfl
@[go_sem] theorem bl_68 : isBld Tryz.prog 68 = false := by kernel_rfl
@[go_sem] theorem bl_75 : isBld Tryz.prog 75 = false := by kernel_rfl
@[go_sem] theorem bl_76 : isBld Tryz.prog 76 = false := by kernel_rfl
@[go_sem] theorem bl_80 : isBld Tryz.prog 80 = false := by kernel_rfl
@[go_sem] theorem bl_81 : isBld Tryz.prog 81 = true := by kernel_rfl
@[go_sem] theorem lo_81 : liesOk Tryz.prog 81 2 = true := by kernel_rfl
@[go_sem] theorem bl_82 : isBld Tryz.prog 82 = true := by kernel_rfl
@[go_sem] theorem lo_82 : liesOk Tryz.prog 82 2 = true := by kernel_rfl
@[go_sem] theorem bl_83 : isBld Tryz.prog 83 = false := by kernel_rfl
@[go_sem] theorem bl_84 : isBld Tryz.prog 84 = false := by kernel_rfl
@[go_sem] theorem bl_85 : isBld Tryz.prog 85 = false := by kernel_rfl
@[go_sem] theorem bl_89 : isBld Tryz.prog 89 = false := by kernel_rfl
@[go_sem] theorem bl_90 : isBld Tryz.prog 90 = false := by kernel_rfl
@[go_sem] theorem bl_97 : isBld Tryz.prog 97 = false := by kernel_rfl
@[go_sem] theorem bl_103 : isBld Tryz.prog 103 = false := by kernel_rfl
@[go_sem] theorem bl_106 : isBld Tryz.prog 106 = false := by kernel_rfl
@[go_sem] theorem bl_109 : isBld Tryz.prog 109 = false := by kernel_rfl
@[go_sem] theorem bl_111 : isBld Tryz.prog 111 = false := by kernel_rfl
@[go_sem] theorem bl_118 : isBld Tryz.prog 118 = false := by kernel_rfl
@[go_sem] theorem bl_120 : isBld Tryz.prog 120 = false := by kernel_rfl
@[go_sem] theorem bl_121 : isBld Tryz.prog 121 = false := by kernel_rfl
@[go_sem] theorem bl_125 : isBld Tryz.prog 125 = false := by kernel_rfl
@[go_sem] theorem bl_128 : isBld Tryz.prog 128 = false := by kernel_rfl
@[go_sem] theorem bl_132 : isBld Tryz.prog 132 = false := by kernel_rfl
@[go_sem] theorem bl_134 : isBld Tryz.prog 134 = false := by kernel_rfl
@[go_sem] theorem bl_137 : isBld Tryz.prog 137 = false := by kernel_rfl
@[go_sem] theorem bl_138 : isBld Tryz.prog 138 = false := by kernel_rfl
@[go_sem] theorem bl_140 : isBld Tryz.prog 140 = false := by kernel_rfl
@[go_sem] theorem bl_147 : isBld Tryz.prog 147 = false := by kernel_rfl
@[go_sem] theorem bl_153 : isBld Tryz.prog 153 = false := by kernel_rfl
@[go_sem] theorem bl_156 : isBld Tryz.prog 156 = false := by kernel_rfl
@[go_sem] theorem bl_160 : isBld Tryz.prog 160 = false := by kernel_rfl
@[go_sem] theorem bl_161 : isBld Tryz.prog 161 = false := by kernel_rfl
@[go_sem] theorem bl_169 : isBld Tryz.prog 169 = false := by kernel_rfl
@[go_sem] theorem bl_170 : isBld Tryz.prog 170 = false := by kernel_rfl
@[go_sem] theorem bl_176 : isBld Tryz.prog 176 = false := by kernel_rfl
@[go_sem] theorem bl_177 : isBld Tryz.prog 177 = false := by kernel_rfl
@[go_sem] theorem bl_192 : isBld Tryz.prog 192 = false := by kernel_rfl
theorem mixed : Tryz.prog.follows .mixedOrders = true := by kernel_rfl
end Go.Proofs.YtfnnjkbhmoomjaaGreatDoor
