/- YthdbijpefkapnaaGreatDoorWalk302. Texts of the proof of a law about texts: a layer of abstract values above the worlds, the types, the walks of the functions that the law reaches, the law and its card. Own work of an AI agent. -/
import Derived.Test.YthdbijpefkapnaaGreatDoorWalk301
import Derived.Test.YthdbijpefkapnaaGreatDoorWalk300
import Derived.Test.YthdbijpefkapnaaGreatDoorWalk15
set_option linter.all false
set_option maxHeartbeats 40000000
open Bool renaming and_true → dh
open Go.Value renaming okWide → wj
open List renaming all_eq_true → aF
open Option.some renaming inj → bp
namespace Go.Proofs.YthdbijpefkapnaaGreatDoor
open Go Go.Fen
attribute [local irreducible] ba WP az dI ie cU aR cw
set_option maxRecDepth 8000
namespace ActionSound
theorem card:Rows.ActionSoundCardSaid :=
 Claim7.holds_tied_plain_at .later [] _ _ _ _ said (fun _ h=>by cases h) (by kernel_rfl) (fun _ h=>by cases h) actionSound_row_tie rfl ⟨rfl,rfl⟩ (by kernel_rfl) rfl plainF (by kernel_rfl)
end ActionSound
end Go.Proofs.YthdbijpefkapnaaGreatDoor
