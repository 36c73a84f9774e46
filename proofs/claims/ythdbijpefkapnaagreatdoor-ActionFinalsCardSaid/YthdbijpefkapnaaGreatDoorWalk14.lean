/- YthdbijpefkapnaaGreatDoorWalk14: a part of the proof. -/
import Derived.Test.YthdbijpefkapnaaGreatDoorWalk10
import Derived.Test.YthdbijpefkapnaaGreatDoorWalk13
import Derived.Test.YthdbijpefkapnaaGreatDoorWalk2
set_option linter.all false
set_option maxHeartbeats 40000000
open List renaming range → ba
namespace Go.Proofs.YthdbijpefkapnaaGreatDoor
open Go Go.Fen
attribute [local irreducible] aW WP aj dS jl cQ aV cV
set_option maxRecDepth 8000
def jr(q:Sq)(l:List (List Int)):List Ac :=
 match q with
 | .cnt k=>[gy k (lN l) 0]
 | .first k=>[gy k (dX l 0 0) 0]
 | .way k n=>[gy k n (lN l)]
 | .cursor=>[gy 19 (lN l) (max 1 (dX l 1 0))]
 | .modes k bit=>(ba (max 1 l.length)).map fun (i:Nat)=>gy k (dX l (i:Int) 0) bit
 | .ask n=>if dX l 0 0=0 then [gy 42 n 0] else []
 | .margins=>[gy 38 (dX l 0 0) (dX l 1 0)]
 | .const k=>[gy k 0 0]
 | .pens=>jS l
 | .shape=>[gy 40 (dX l 0 0) 0]
 | .askMode n=>[gy 43 (dX l 0 0) n]
def vp(e:Ev):List Ac:=match od ⟨e.priv,e.inter,e.fin⟩ with
 | some q=>jr q e.pars
 | none=>[]
def qB(e:Ev):List Ac :=
 if e.kind=1 then [gy 1 e.code 0] else if e.kind=2 then (sV e.code).toList else if e.kind=3 then (qy ⟨0,e.inter,e.fin⟩).toList
 else if e.kind=4 then vp e else if e.kind=5 then (ea e.text).toList else []
def uP(e:Ev):List Ac:=if jE e then (qB e).filter e_ else []
end Go.Proofs.YthdbijpefkapnaaGreatDoor
