/- YtecgddmmdgccfaaGreatDoorWalk8. Texts of the proof of a law about texts: a layer of abstract values above the worlds, the types, the walks of the functions that the law reaches, the law and its card. Own work of an AI agent. -/
import Derived.Test.YtecgddmmdgccfaaGreatDoorWalk3
import Derived.Test.YtecgddmmdgccfaaGreatDoorWalk6
import Derived.Test.YtecgddmmdgccfaaGreatDoorWalk7
set_option linter.all false
set_option linter.unusedVariables false
set_option linter.unusedSimpArgs false
namespace Go.Proofs.YtecgddmmdgccfaaGreatDoor
open Go Go.Fen
set_option linter.unusedSimpArgs false
set_option linter.unusedVariables false
attribute [local irreducible] RunX WP ACall AnyP OpA ProtL afterCall afterOp
set_option maxRecDepth 8000
open Go.Fen.Ex
noncomputable def tb5 : Nat → List AV → List Blk → Option (AOut × List Blk) := addC 34 [w4, .int .i64 20] w34 (.ret w36) w34 (addC 33 [w3, .int .i64 20, .int .i64 5] w31 (.ret w32) w31 (T0))
theorem tb5_ok : ∀ g args S o S', tb5 g args S = some (o, S') → TOk g args S o S' := addC_ok c4_ok (addC_ok c3_ok (fun _ _ _ _ _ => t0_ok))
set_option maxRecDepth 100000 in
theorem r5_run : (lvl Tryz.prog GT tb5 M0 X0 60).call 7 [w20, .int .i64 20, .int .i64 5] w23 = some ((.ret w38), w23) := by kernel_rfl
theorem c5_ok : TOk 7 [w20, .int .i64 20, .int .i64 5] w23 (.ret w38) w23 := tok_of (T := tb5) (M := M0) (tb5_ok) r5_run
end Go.Proofs.YtecgddmmdgccfaaGreatDoor
