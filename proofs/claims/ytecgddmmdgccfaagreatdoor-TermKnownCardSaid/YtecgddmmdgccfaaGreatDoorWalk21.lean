/- YtecgddmmdgccfaaGreatDoorWalk21. Texts of the proof of a law about texts: a layer of abstract values above the worlds, the types, the walks of the functions that the law reaches, the law and its card. Own work of an AI agent. -/
import Derived.Test.YtecgddmmdgccfaaGreatDoorWalk20
set_option linter.all false
set_option linter.unusedVariables false
set_option linter.unusedSimpArgs false
namespace Go.Proofs.YtecgddmmdgccfaaGreatDoor
open Go Go.Fen
set_option linter.unusedSimpArgs false
set_option linter.unusedVariables false
attribute [local irreducible] RunX WP ACall AnyP OpA ProtL afterCall afterOp
set_option maxRecDepth 8000
open Go.Fen.Ex
theorem tk_law (W : World) (h : GOk GT W) : ACall Tryz.prog W 3 [] [] (fun o _ => o = .ret (.bool true)) :=
  (c17_ok.2 W h).mono fun o S' h => h.1
end Go.Proofs.YtecgddmmdgccfaaGreatDoor
