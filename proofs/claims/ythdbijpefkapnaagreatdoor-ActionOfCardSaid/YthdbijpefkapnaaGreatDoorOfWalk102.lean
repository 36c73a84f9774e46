/- YthdbijpefkapnaaGreatDoorOfWalk102. Texts of the proof of a law about texts: a layer of abstract values above the worlds, the types, the walks of the functions that the law reaches, the law and its card. Own work of an AI agent. -/
import Derived.Test.YthdbijpefkapnaaGreatDoorOfWalk101
set_option linter.all false
set_option maxHeartbeats 40000000
open Bool renaming and_true → cG
open Go.Value renaming okWide → rt
open List renaming all_eq_true → aD, map_cons → al, mem_cons → bD, mem_cons_of_mem → iv, mem_cons_self → dG
open Option.some renaming inj → bg
namespace Go.Proofs.YthdbijpefkapnaaGreatDoor
open Go Go.Fen Go.Proofs.Tryz
attribute [local irreducible] aX WP ao dS i7 cJ aU cC
set_option maxRecDepth 8000
namespace ActionOf
theorem card:Rows.ActionOfCardSaid :=
 Claim7.holds_tied_plain_at .later [] _ _ _ _ said (fun _ h=>by cases h) (by kernel_rfl) (fun _ h=>by cases h) actionOf_row_tie rfl ⟨rfl,rfl⟩ (by kernel_rfl) rfl plainF (by kernel_rfl)
end ActionOf
end Go.Proofs.YthdbijpefkapnaaGreatDoor
