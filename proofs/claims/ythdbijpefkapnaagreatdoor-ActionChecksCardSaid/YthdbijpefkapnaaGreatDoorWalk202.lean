/- YthdbijpefkapnaaGreatDoorWalk202. Texts of the proof of a law about texts: a layer of abstract values above the worlds, the types, the walks of the functions that the law reaches, the law and its card. Own work of an AI agent. -/
import Derived.Test.YthdbijpefkapnaaGreatDoorWalk201
import Derived.Test.YthdbijpefkapnaaGreatDoorWalk200
import Derived.Test.YthdbijpefkapnaaGreatDoorWalk14
import Derived.Test.YthdbijpefkapnaaGreatDoorWalk12
set_option linter.all false
set_option maxHeartbeats 40000000
open Bool renaming and_eq_true → aB, and_true → dh
open Go.Value renaming okWide → wj
open List renaming all_eq_true → aF
open Option.some renaming inj → bp
namespace Go.Proofs.YthdbijpefkapnaaGreatDoor
open Go Go.Fen
attribute [local irreducible] ba WP az dI ie cU aR cw
set_option maxRecDepth 8000
namespace ActionChecks
theorem card:Rows.ActionChecksCardSaid :=
 Claim7.holds_tied_plain_at .later [] _ _ _ _ said (fun _ h=>by cases h) (by kernel_rfl) (fun _ h=>by cases h) actionChecks_row_tie rfl ⟨rfl,rfl⟩ (by kernel_rfl) rfl plainF (by kernel_rfl)
end ActionChecks
end Go.Proofs.YthdbijpefkapnaaGreatDoor
