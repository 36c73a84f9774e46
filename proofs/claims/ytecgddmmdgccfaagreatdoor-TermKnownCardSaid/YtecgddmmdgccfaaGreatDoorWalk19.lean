/- YtecgddmmdgccfaaGreatDoorWalk19. Texts of the proof of a law about texts: a layer of abstract values above the worlds, the types, the walks of the functions that the law reaches, the law and its card. Own work of an AI agent. -/
import Derived.Test.YtecgddmmdgccfaaGreatDoorWalk3
import Derived.Test.YtecgddmmdgccfaaGreatDoorWalk10
import Derived.Test.YtecgddmmdgccfaaGreatDoorWalk11
import Derived.Test.YtecgddmmdgccfaaGreatDoorWalk12
import Derived.Test.YtecgddmmdgccfaaGreatDoorWalk13
import Derived.Test.YtecgddmmdgccfaaGreatDoorWalk14
import Derived.Test.YtecgddmmdgccfaaGreatDoorWalk15
import Derived.Test.YtecgddmmdgccfaaGreatDoorWalk16
import Derived.Test.YtecgddmmdgccfaaGreatDoorWalk17
import Derived.Test.YtecgddmmdgccfaaGreatDoorWalk18
set_option linter.all false
set_option linter.unusedVariables false
set_option linter.unusedSimpArgs false
namespace Go.Proofs.YtecgddmmdgccfaaGreatDoor
open Go Go.Fen
set_option linter.unusedSimpArgs false
set_option linter.unusedVariables false
attribute [local irreducible] RunX WP ACall AnyP OpA ProtL afterCall afterOp
set_option maxRecDepth 8000
open Go.Fen.Ex
noncomputable def tb16 : Nat → List AV → List Blk → Option (AOut × List Blk) := addC 5 [w5, w100] w103 (.ret w105) w103 (addC 5 [w89, .sval false [.int .u8 169]] w93 (.ret w99) w93 (addC 5 [w5, .sval false [.int .u8 195]] w92 (.ret w90) w92 (addC 5 [w5, .sval false [.int .u8 195]] w88 (.ret w90) w88 (addC 5 [w5, w76] w79 (.ret w86) w79 (addC 5 [w64, w69] w70 (.ret w75) w70 (addC 5 [w5, .sval false [.int .u8 27, .int .u8 91]] w68 (.ret w65) w68 (addC 5 [w5, .sval false [.int .u8 27, .int .u8 91]] w63 (.ret w65) w63 (addC 5 [w5, w52] w53 (.ret w61) w53 (T0)))))))))
theorem tb16_ok : ∀ g args S o S', tb16 g args S = some (o, S') → TOk g args S o S' := addC_ok c15_ok (addC_ok c14_ok (addC_ok c13_ok (addC_ok c12_ok (addC_ok c11_ok (addC_ok c10_ok (addC_ok c9_ok (addC_ok c8_ok (addC_ok c7_ok (fun _ _ _ _ _ => t0_ok)))))))))
set_option maxRecDepth 100000 in
theorem r16_run : (lvl Tryz.prog GT tb16 M0 X0 80).call 10 [] w51 = some ((.ret (.bool true)), w51) := by kernel_rfl
theorem c16_ok : TOk 10 [] w51 (.ret (.bool true)) w51 := tok_of (T := tb16) (M := M0) (tb16_ok) r16_run
end Go.Proofs.YtecgddmmdgccfaaGreatDoor
