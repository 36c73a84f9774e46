/- YtecgddmmdgccfaaGreatDoorWalk20. Texts of the proof of a law about texts: a layer of abstract values above the worlds, the types, the walks of the functions that the law reaches, the law and its card. Own work of an AI agent. -/
import Derived.Test.YtecgddmmdgccfaaGreatDoorWalk3
import Derived.Test.YtecgddmmdgccfaaGreatDoorWalk4
import Derived.Test.YtecgddmmdgccfaaGreatDoorWalk5
import Derived.Test.YtecgddmmdgccfaaGreatDoorWalk8
import Derived.Test.YtecgddmmdgccfaaGreatDoorWalk9
import Derived.Test.YtecgddmmdgccfaaGreatDoorWalk19
set_option linter.all false
set_option linter.unusedVariables false
set_option linter.unusedSimpArgs false
namespace Go.Proofs.YtecgddmmdgccfaaGreatDoor
open Go Go.Fen
set_option linter.unusedSimpArgs false
set_option linter.unusedVariables false
attribute [local irreducible] RunX WP ACall AnyP OpA ProtL afterCall afterOp
set_option maxRecDepth 8000
open Go.Fen.Ex
noncomputable def tb17 : Nat → List AV → List Blk → Option (AOut × List Blk) := addC 10 [] w51 (.ret (.bool true)) w51 (addC 5 [w37, w39] w41 (.ret w47) w41 (addC 7 [w20, .int .i64 20, .int .i64 5] w23 (.ret w38) w23 (addC 5 [w5, w16] w18 (.ret w21) w18 (addC 5 [w5, .sval false [.int .u8 120]] w9 (.ret w15) w9 (T0)))))
theorem tb17_ok : ∀ g args S o S', tb17 g args S = some (o, S') → TOk g args S o S' := addC_ok c16_ok (addC_ok c6_ok (addC_ok c5_ok (addC_ok c2_ok (addC_ok c1_ok (fun _ _ _ _ _ => t0_ok)))))
set_option maxRecDepth 100000 in
theorem r17_run : (lvl Tryz.prog GT tb17 M0 X0 80).call 3 [] [] = some ((.ret (.bool true)), []) := by kernel_rfl
theorem c17_ok : TOk 3 [] [] (.ret (.bool true)) [] := tok_of (T := tb17) (M := M0) (tb17_ok) r17_run
end Go.Proofs.YtecgddmmdgccfaaGreatDoor
