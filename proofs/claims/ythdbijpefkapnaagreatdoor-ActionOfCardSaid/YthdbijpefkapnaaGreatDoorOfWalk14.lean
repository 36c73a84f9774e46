/- A part of the proof. -/
import Derived.Test.YthdbijpefkapnaaGreatDoorOfWalk10
import Derived.Test.YthdbijpefkapnaaGreatDoorOfWalk2
set_option linter.all false
set_option maxHeartbeats 40000000
open List renaming range → bh
namespace Go.Proofs.YthdbijpefkapnaaGreatDoor
open Go Go.Fen
attribute [local irreducible] aX WP ao dS i7 cJ aU cC
set_option maxRecDepth 8000
def jN(q:Sq)(l:List (List Int)):List Ac :=
 match q with
 | .cnt k=>[gP k (mn l) 0]
 | .first k=>[gP k (eg l 0 0) 0]
 | .way k n=>[gP k n (mn l)]
 | .cursor=>[gP 19 (mn l) (max 1 (eg l 1 0))]
 | .modes k bit=>(bh (max 1 l.length)).map fun (i:Nat)=>gP k (eg l (i:Int) 0) bit
 | .ask n=>if eg l 0 0=0 then [gP 42 n 0] else []
 | .margins=>[gP 38 (eg l 0 0) (eg l 1 0)]
 | .const k=>[gP k 0 0]
 | .pens=>kq l
 | .shape=>[gP 40 (eg l 0 0) 0]
 | .askMode n=>[gP 43 (eg l 0 0) n]
def wl(e:Ev):List Ac:=match oY ⟨e.priv,e.inter,e.fin⟩ with
 | some q=>jN q e.pars
 | none=>[]
def rp(e:Ev):List Ac :=
 if e.kind=1 then [gP 1 e.code 0] else if e.kind=2 then (tY e.code).toList else if e.kind=3 then (rl ⟨0,e.inter,e.fin⟩).toList
 else if e.kind=4 then wl e else if e.kind=5 then (er e.text).toList else []
def vN(e:Ev):List Ac:=if j7 e then (rp e).filter fm else []
end Go.Proofs.YthdbijpefkapnaaGreatDoor
