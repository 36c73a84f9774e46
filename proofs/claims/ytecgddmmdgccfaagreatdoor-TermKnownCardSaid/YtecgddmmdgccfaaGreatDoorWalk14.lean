/- YtecgddmmdgccfaaGreatDoorWalk14. Texts of the proof of a law about texts: a layer of abstract values above the worlds, the types, the walks of the functions that the law reaches, the law and its card. Own work of an AI agent. -/
import Derived.Test.YtecgddmmdgccfaaGreatDoorWalk3
set_option linter.all false
set_option linter.unusedVariables false
set_option linter.unusedSimpArgs false
namespace Go.Proofs.YtecgddmmdgccfaaGreatDoor
open Go Go.Fen
set_option linter.unusedSimpArgs false
set_option linter.unusedVariables false
attribute [local irreducible] RunX WP ACall AnyP OpA ProtL afterCall afterOp
set_option maxRecDepth 8000
open Go.Fen.Ex
set_option maxRecDepth 100000 in
theorem r11_run : (lvl Tryz.prog GT T0 M0 X0 60).call 5 [w5, w76] w79 = some ((.ret w86), w79) := by kernel_rfl
theorem c11_ok : TOk 5 [w5, w76] w79 (.ret w86) w79 := tok_of (T := T0) (M := M0) (fun _ _ _ _ _ => t0_ok) r11_run
end Go.Proofs.YtecgddmmdgccfaaGreatDoor
