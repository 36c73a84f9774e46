/- YthdbijpefkapnaaGreatDoorWalk102. Texts of the proof of a law about texts: a layer of abstract values above the worlds, the types, the walks of the functions that the law reaches, the law and its card. Own work of an AI agent. -/
import Derived.Test.YthdbijpefkapnaaGreatDoorWalk101
set_option linter.all false
set_option maxHeartbeats 40000000
open Bool renaming and_true → cu
open Go.Value renaming okWide → qD
open List renaming all_eq_true → aC
open Option.some renaming inj → bc
namespace Go.Proofs.YthdbijpefkapnaaGreatDoor
open Go Go.Fen Go.Proofs.Tryz
attribute [local irreducible] aW WP aj dS jl cQ aV cV
set_option maxRecDepth 8000
namespace ActionFinals
theorem card:Rows.ActionFinalsCardSaid :=
 Claim7.holds_tied_plain_at .later [] _ _ _ _ said (fun _ h=>by cases h) (by kernel_rfl) (fun _ h=>by cases h) actionFinals_row_tie rfl ⟨rfl,rfl⟩ (by kernel_rfl) rfl plainF (by kernel_rfl)
end ActionFinals
end Go.Proofs.YthdbijpefkapnaaGreatDoor
