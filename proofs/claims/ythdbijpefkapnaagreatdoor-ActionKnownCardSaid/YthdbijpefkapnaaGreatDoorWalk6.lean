/- YthdbijpefkapnaaGreatDoorWalk6. Texts of the proof of a law about texts: a layer of abstract values above the worlds, the types, the walks of the functions that the law reaches, the law and its card. Own work of an AI agent. -/
import Derived.Test.YthdbijpefkapnaaGreatDoorWalk5
import Derived.Test.YthdbijpefkapnaaGreatDoorWalk4
import Derived.Test.YthdbijpefkapnaaGreatDoorWalk3
import Derived.Test.YthdbijpefkapnaaGreatDoorCore2
import Derived.Test.YthdbijpefkapnaaGreatDoorWalk2
import Derived.Test.YthdbijpefkapnaaGreatDoorCards
import Derived.Test.YthdbijpefkapnaaGreatDoorTie
import Derived.ProofKit
import Derived.OpenShut
import Derived.LaidMore
import Derived.Lay
import Derived.SevenTiedAt
import Derived.Stop.Joined
set_option linter.all false
set_option maxHeartbeats 40000000
open And renaming intro → dw
open Array renaming getElem?_toList → a7
open BitVec renaming ofInt → ai
open Bool renaming and_eq_true → aj, false_eq_true → bJ, not_eq_false' → aG, not_eq_true' → az, or_eq_false_iff → bj, or_eq_true → ef
open Go.IntKind renaming i64 → af, u8 → aW
open Go.IntWalk renaming i64_in → au, u8_in → en
open Go.Lib renaming cells_of_tab → pH, hid → ae, mapM_at → Cl, mapM_length → up
open Go.Value renaming int → dn, okWide → nQ, oneCell' → ul
open Go.World renaming var?_cell → Am
open List renaming all_eq_true → aq, append_assoc → aK, append_nil → aE, cons_append → cz, flatMap_cons → kW, foldl_cons → ee, getElem?_append_right → aw, getElem?_drop → bQ, getElem?_eq_getElem → al, getElem?_eq_none → bz, getElem?_map → aF, getElem?_take → aV, length → dM, length_append → ah, length_cons → aI, length_eq_zero_iff → mM, length_map → aY, length_nil → aU, length_take_le → Ap, map_append → bg, map_cons → aA, map_map → Ag, map_nil → aC, mem_cons → bA, mem_cons_of_mem → fa, mem_map → aH, mem_of_getElem? → ar, mem_of_mem_take → mL, nil_append → cU, take_add_one → eP, take_of_length_le → cA, take_zero → co
open List.cons renaming injEq → iI
open Nat renaming le_trans → dB, zero_add → di, zero_le → bx
open Option renaming bind_some → Cg, map_eq_some_iff → aJ, map_some → cu
open Option.some renaming inj → bi, injEq → a8
open Prod renaming fst → bZ
open UInt8 renaming toNat → aR
namespace Go.Proofs.YthdbijpefkapnaaGreatDoor
open Go Go.Fen
attribute [local irreducible] aX WP ao er nF dt bK fD
set_option maxRecDepth 8000
namespace ActionKnown
theorem card:Rows.ActionKnownCardSaid :=
 Claim7.holds_tied_plain_at .later [] _ _ _ _ said (fun _ h=>by cases h) (by kernel_rfl) (fun _ h=>by cases h) actionKnown_row_tie rfl ⟨rfl,rfl⟩ (by kernel_rfl) rfl plainF (by kernel_rfl)
end ActionKnown
end Go.Proofs.YthdbijpefkapnaaGreatDoor
