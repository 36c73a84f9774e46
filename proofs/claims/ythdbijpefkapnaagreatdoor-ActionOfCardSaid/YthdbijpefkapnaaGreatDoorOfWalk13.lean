/- A part of the proof. -/
import Derived.Test.YthdbijpefkapnaaGreatDoorOfWalk1
set_option linter.all false
set_option maxHeartbeats 40000000
namespace Go.Proofs.YthdbijpefkapnaaGreatDoor
open Go Go.Fen
attribute [local irreducible] aX WP ao dS i7 cJ aU cC
set_option maxRecDepth 8000
def gP(k n m:Int):Ac:=⟨k,n,m,0,0,[]⟩
def wk:List (Int × Ac):=[(7,gP 2 0 0),(8,gP 3 0 0),(9,gP 4 0 0),(10,gP 5 0 0),(11,gP 5 0 0),(12,gP 5 0 0),(13,gP 6 0 0),(14,gP 7 1 0),(15,gP 7 0 0)]
def tY(c:Int):Option Ac:=(wk.find? fun p=>c==p.1).map (·.2)
structure Wy where
 pv:Nat
 inter:List UInt8
 fn:Nat
 deriving DecidableEq
def Wy.av(w:Wy):AV:=.agg [.int .u8 w.pv,.str w.inter,.int .u8 w.fn]
def yp:List (Nat × Ac):=[(68,gP 8 0 0),(69,gP 9 0 0),(72,gP 10 0 0),(77,gP 11 0 0),(78,gP 18 2 0),(79,gP 18 3 0),(55,gP 12 0 0),(56,gP 13 0 0),(61,gP 14 1 0),(62,gP 14 0 0),(99,gP 15 0 0)]
def xX:List (Wy × Ac):=(⟨0,[35],56⟩,gP 16 0 0)::(yp.map fun p=>(⟨0,[],p.1⟩,p.2)) ++
 [(⟨0,[40],66⟩,gP 17 0 0),(⟨0,[40],48⟩,gP 17 0 1),(⟨0,[41],66⟩,gP 17 1 0),(⟨0,[41],48⟩,gP 17 1 1),(⟨0,[42],66⟩,gP 17 2 0),(⟨0,[42],48⟩,gP 17 2 1),(⟨0,[43],66⟩,gP 17 3 0),(⟨0,[43],48⟩,gP 17 3 1)]
def rl(w:Wy):Option Ac:=(xX.find? fun p=>w==p.1).map (·.2)
inductive Sq where
 | cnt (k:Int)
 | first (k:Int)
 | way (k n:Int)
 | cursor
 | modes (k bit:Int)
 | ask (n:Int)
 | margins
 | const (k:Int)
 | pens
 | shape
 | askMode (n:Int)
def rI:List (Nat × Int):=[(71,22),(96,22),(100,23),(73,24),(90,25),(64,28),(80,29),(88,30),(76,31),(77,32),(98,34)]
def pF:List (Nat × Int):=[(74,26),(75,27),(103,35),(110,41)]
def Af:List (Nat × Int × Int):=[(65,20,0),(66,20,1),(67,20,2),(68,20,3),(69,21,0),(70,21,1),(83,33,0),(84,33,1)]
def rj:List (Wy × Sq):=(rI.map fun p=>(⟨0,[],p.1⟩,Sq.cnt p.2))++(pF.map fun p=>(⟨0,[],p.1⟩,Sq.first p.2))++(Af.map fun p=>(⟨0,[],p.1⟩,Sq.way p.2.1 p.2.2)) ++
 [(⟨0,[],72⟩,.cursor),(⟨0,[],102⟩,.cursor),(⟨0,[],108⟩,.modes 36 0),(⟨63,[],108⟩,.modes 37 0),(⟨0,[],104⟩,.modes 36 1),(⟨63,[],104⟩,.modes 37 1),(⟨0,[],99⟩,.ask 0),(⟨62,[],99⟩,.ask 1),(⟨0,[],114⟩,.margins),(⟨0,[],115⟩,.const 12),(⟨0,[],117⟩,.const 13),(⟨0,[],109⟩,.pens),
 (⟨0,[32],113⟩,.shape),(⟨0,[33],112⟩,.const 15),(⟨0,[36],112⟩,.askMode 0),(⟨63,[36],112⟩,.askMode 1)]
def oY(w:Wy):Option Sq:=(rj.find? fun p=>w==p.1).map (·.2)
end Go.Proofs.YthdbijpefkapnaaGreatDoor
