/- YthdbijpefkapnaaGreatDoorWalk3. Texts of the proof of a law about texts: a layer of abstract values above the worlds, the types, the walks of the functions that the law reaches, the law and its card. Own work of an AI agent. -/
import Derived.Test.YthdbijpefkapnaaGreatDoorWalk2
import Derived.Test.YthdbijpefkapnaaGreatDoorWalk0
import Derived.Test.YthdbijpefkapnaaGreatDoorCore2
import Derived.Test.YthdbijpefkapnaaGreatDoorCore1
import Derived.Test.YthdbijpefkapnaaGreatDoorWalk1
set_option linter.all false
set_option maxHeartbeats 40000000
open Bool renaming and_eq_true → aj, and_self → x_, eq_iff_iff → dX, false_eq_true → bJ, false_or → uq, not_eq_false' → aG, not_eq_true' → az, or_eq_false_iff → bj, or_eq_true → ef, or_false → eI
open Classical renaming not_not → uw
open Function renaming comp_def → aN
open Go.IntKind renaming i64 → af, u8 → aW
open Go.IntWalk renaming i64_in → au, u8_in → en
open Go.Lib renaming hid → ae
open Go.RowKit renaming Hid → pK
open Int renaming cast_ofNat_Int → ba, le_refl → wA
open List renaming all_eq_true → aq, all_map → be, any_append → dy, any_cons → ed, any_nil → fc, append_assoc → aK, append_nil → aE, cons_append → cz, dropLast_concat → wy, dropLast_concat_getLast → so, drop_zero → fN, filter_append → Ck, find?_cons → ji, getElem?_eq_getElem → al, length → dM, length_append → ah, length_cons → aI, length_map → aY, length_nil → aU, map → bE, map_append → bg, map_cons → aA, map_map → Ag, map_nil → aC, mem_append → bv, mem_append_left → fM, mem_append_right → b9, mem_cons → bA, mem_cons_of_mem → fa, mem_cons_self → cV, mem_map → aH, mem_of_find?_eq_some → gw, mem_of_getElem? → ar, mem_singleton → aZ, nil_append → cU, nodup_append → gZ, range → bC, set_append_right → cZ, set_cons_zero → Ci, take → lm, take_add_one → eP, take_of_length_le → cA, take_succ_cons → cy, take_zero → co
open List.Perm renaming append_left → gm
open List.cons renaming injEq → iI
open Nat renaming le_refl → aP, le_trans → dB, sub_self → p4, zero_add → di, zero_le → bx, zero_lt_succ → ec
open Option renaming map_eq_some_iff → aJ, map_none → pF, map_some → cu, toList_none → lY, toList_some → iK
open Prod renaming fst → bZ
open Prod.mk renaming injEq → lA
open UInt8 renaming ofNat → aD
namespace Go.Proofs.YthdbijpefkapnaaGreatDoor
open Go Go.Fen
attribute [local irreducible] aX WP ao er nF dt bK fD
set_option maxRecDepth 8000
structure Ev where
 kind:Int
 code:Int
 priv:Nat
 fin:Nat
 pars:List (List Int)
 inter:List UInt8
 text:List UInt8
 deriving DecidableEq
def Ev.av (e:Ev):AV:=.agg [.int .i64 e.kind,.int .i64 e.code,.int .u8 e.priv,.int .u8 e.fin,.sval false (e.pars.map dE),.str e.inter,.str e.text]
def li (e:Ev):Bool:=(decide (1≤e.kind)&&decide (e.kind≤6))&&eo e.pars
theorem z7 (w0:World) (S:List ax) (e:Ev) (hl:pC e.pars) (R:Rt) (h:R (.ret (.int .i64 (if li e then 0 else 201))) S):ao Tryz.prog w0 18 [e.av] S R:=by
 have hp:=fun S'=>rp w0 S' e.pars hl
 have hh:=fun S'=>Fu w0 S' 1 6 e.kind
 obtain⟨k,c,pr,fi,l,it,t⟩:=e
 unfold li at h
 unfold w_ at hp
 unfold Ev.av
 simp only at h hp hh ⊢ hl
 generalize eo l=b at h hp
 generalize (decide (1≤k)&&decide (k≤6))=d at h hh
 clear hl
 cases b<;>cases d
 all_goals
  refine eN Tryz.func18 rfl Tryz.ntmps18 fun hO=>?_
  repeat' first | refine st ?_ | (refine ca ?_;first | apply hp | apply hh) | (refine br ?_ ?_<;>intro hb) | fail
  refine fR Tryz.results18 ?_
  exact h
theorem g_ (w0:World) (S:List ax) (l:List (List Int)) (R:Rt) (h:R (.ret (.int .i64 (dV l 0 0))) S):ao Tryz.prog w0 146 [.sval false (l.map dE)] S R:=by
 have hv:=fun S' R h=>(mQ w0 S' l 0 0 R h).1
 refine eN Tryz.func146 rfl Tryz.ntmps146 fun hO=>?_
 repeat' first | refine st ?_ | (refine ca ?_;apply hv) | (refine br ?_ ?_<;>intro hb) | fail
 refine fR Tryz.results146 ?_
 exact h
theorem gP (w0:World) (S:List ax) (l:List (List Int)) (R:Rt) (h:R (.ret (.int .i64 (dV l 1 0))) S):ao Tryz.prog w0 149 [.sval false (l.map dE)] S R:=by
 have hv:=fun S' R h=>(mQ w0 S' l 1 0 R h).1
 refine eN Tryz.func149 rfl Tryz.ntmps149 fun hO=>?_
 repeat' first | refine st ?_ | (refine ca ?_;apply hv) | (refine br ?_ ?_<;>intro hb) | fail
 refine fR Tryz.results149 ?_
 exact h
def kM (l:List (List Int)):Int:=if 1<dV l 0 0 then dV l 0 0 else 1
theorem fB (w0:World) (S:List ax) (l:List (List Int)) (R:Rt) (h:R (.ret (.int .i64 (kM l))) S):ao Tryz.prog w0 144 [.sval false (l.map dE)] S R:=by
 have hv:=g_ w0
 unfold kM at h
 by_cases hc:1<dV l 0 0
 ·rw [if_pos hc] at h
  have hc1:((1:Int)<dV l 0 0)=True:=eq_true hc
  clear hc
  refine eN Tryz.func144 rfl Tryz.ntmps144 fun hO=>?_
  repeat' first | refine st ?_ | (refine ca ?_;apply hv) | (refine br ?_ ?_<;>intro hb) | fail
  refine fR Tryz.results144 ?_
  first | exact h | (simpa using h)
 ·rw [if_neg hc] at h
  have hc1:((1:Int)<dV l 0 0)=False:=eq_false hc
  clear hc
  refine eN Tryz.func144 rfl Tryz.ntmps144 fun hO=>?_
  repeat' first | refine st ?_ | (refine ca ?_;apply hv) | (refine br ?_ ?_<;>intro hb) | fail
  refine fR Tryz.results144 ?_
  first | exact h | (simpa using h)
def dr (k n m:Int):Ac:=⟨k,n,m,0,0,[]⟩
def xI:List (Int × Ac):=[(7,dr 2 0 0),(8,dr 3 0 0),(9,dr 4 0 0),(10,dr 5 0 0),(11,dr 5 0 0),(12,dr 5 0 0),(13,dr 6 0 0),(14,dr 7 1 0),(15,dr 7 0 0)]
def zN (c:Int):Option Ac:=(xI.find? fun p=>c==p.1).map (·.2)
structure Wy where
 pv:Nat
 inter:List UInt8
 fn:Nat
 deriving DecidableEq
def Wy.av (w:Wy):AV:=.agg [.int .u8 w.pv,.str w.inter,.int .u8 w.fn]
def ua:List (Nat × Ac):=[(68,dr 8 0 0),(69,dr 9 0 0),(72,dr 10 0 0),(77,dr 11 0 0),(78,dr 18 2 0),(79,dr 18 3 0),(55,dr 12 0 0),(56,dr 13 0 0),(61,dr 14 1 0),(62,dr 14 0 0),(99,dr 15 0 0)]
def xA:List (Wy × Ac):=(⟨0,[35],56⟩,dr 16 0 0)::(ua.map fun p=>(⟨0,[],p.1⟩,p.2)) ++
 [(⟨0,[40],66⟩,dr 17 0 0),(⟨0,[40],48⟩,dr 17 0 1),(⟨0,[41],66⟩,dr 17 1 0),(⟨0,[41],48⟩,dr 17 1 1),(⟨0,[42],66⟩,dr 17 2 0),(⟨0,[42],48⟩,dr 17 2 1),(⟨0,[43],66⟩,dr 17 3 0),(⟨0,[43],48⟩,dr 17 3 1)]
def zA (w:Wy):Option Ac:=(xA.find? fun p=>w==p.1).map (·.2)
inductive Sq where
 | cnt (k:Int)
 | first (k:Int)
 | way (k n:Int)
 | cursor
 | modes (k bit:Int)
 | ask (n:Int)
 | margins
 | const (k:Int)
 | pens
 | shape
 | askMode (n:Int)
def n9:List (Nat × Int):=[(71,22),(96,22),(100,23),(73,24),(90,25),(64,28),(80,29),(88,30),(76,31),(77,32),(98,34)]
def mC:List (Nat × Int):=[(74,26),(75,27),(103,35),(110,41)]
def vQ:List (Nat × Int × Int):=[(65,20,0),(66,20,1),(67,20,2),(68,20,3),(69,21,0),(70,21,1),(83,33,0),(84,33,1)]
def uH:List (Wy × Sq):=(n9.map fun p=>(⟨0,[],p.1⟩,Sq.cnt p.2))++(mC.map fun p=>(⟨0,[],p.1⟩,Sq.first p.2))++(vQ.map fun p=>(⟨0,[],p.1⟩,Sq.way p.2.1 p.2.2)) ++
 [(⟨0,[],72⟩,.cursor),(⟨0,[],102⟩,.cursor),(⟨0,[],108⟩,.modes 36 0),(⟨63,[],108⟩,.modes 37 0),(⟨0,[],104⟩,.modes 36 1),(⟨63,[],104⟩,.modes 37 1),(⟨0,[],99⟩,.ask 0),(⟨62,[],99⟩,.ask 1),(⟨0,[],114⟩,.margins),(⟨0,[],115⟩,.const 12),(⟨0,[],117⟩,.const 13),(⟨0,[],109⟩,.pens),
 (⟨0,[32],113⟩,.shape),(⟨0,[33],112⟩,.const 15),(⟨0,[36],112⟩,.askMode 0),(⟨63,[36],112⟩,.askMode 1)]
def nK (w:Wy):Option Sq:=(uH.find? fun p=>w==p.1).map (·.2)
def bG (k n m:Int):AV:=.agg [.int .i64 k,.int .i64 n,.int .i64 m,.int .i64 0,.int .i64 0,.str []]
theorem gi (k n m:Int):(dr k n m).av=bG k n m:=rfl
def rm:List (AV × AV):=xI.map fun p=>(.int .i64 p.1,p.2.av)
def mZ (m:Nat):List fI:=[.mk 3,.val 4 (bG 2 0 0),.ent (.int .i64 7) (bG 2 0 0),.val 5 (bG 3 0 0),.ent (.int .i64 8) (bG 3 0 0),.val 6 (bG 4 0 0),.ent (.int .i64 9) (bG 4 0 0),.val 7 (bG 5 0 0),.ent (.int .i64 10) (bG 5 0 0),.val 8 (bG 5 0 0),.ent (.int .i64 11) (bG 5 0 0),.val 9 (bG 5 0 0),.ent (.int .i64 12) (bG 5 0 0),
 .val 10 (bG 6 0 0),.ent (.int .i64 13) (bG 6 0 0),.val 11 (bG 7 1 0),.ent (.int .i64 14) (bG 7 1 0),.val 12 (bG 7 0 0),.ent (.int .i64 15) (bG 7 0 0),.val 13 (.mown m),.val 0 (.mown m)]
theorem Ef (w0:World) (S:List ax) (R:Rt) (h:R (.ret (.mval rm)) S):ao Tryz.prog w0 72 [] S R:=by
 have hac:=uf w0
 have H:=ae h
 clear h
 refine eN Tryz.func72 rfl Tryz.ntmps72 fun hO=>?_
 repeat' ((fail_if_success (apply bW 2));first | refine st ?_ | (refine ca ?_;apply hac) | (refine br ?_ ?_<;>intro hb) | fail)
 refine eY (n:=21) mixed rfl ?_
 refine D6 (mZ (S.length+1)) 0 (t:=135) (kt:=3) (et:=25) rfl ?ok ?dep ?ty ?ky ?st ?fin
 case ok=>kernel_rfl
 case dep=>decide +kernel
 case ty=>simp only [go_sem]
 case ky=>simp [mZ,gW,kE,jb,pW,dW,iv,go_sem]
 case st =>
  refine⟨?s0, ?s1, ?s2, ?s3, ?s4, ?s5, ?s6, ?s7, ?s8, ?s9, ?s10, ?s11, ?s12, ?s13, ?s14, ?s15, ?s16, ?s17, ?s18, ?s19, ?s20,trivial⟩
  case s0 =>
   intro env hd
   repeat' first | refine st ?_ | (refine br ?_ ?_<;>intro hb) | refine sd ?_ | apply aB | (apply aL;(· decide +kernel)) | refine bd ?_ ?_ | fail
   first | exact⟨trivial,trivial⟩ | (constructor<;>first | rfl | trivial | simp)
  case s1 =>
   intro env S' hd hS
   clear hd hS
   repeat' first | refine st ?_ | (refine ca ?_;apply hac) | (refine br ?_ ?_<;>intro hb) | refine sd ?_ | apply aB | (apply aL;(· decide +kernel)) | refine bd ?_ ?_ | (refine cd ?_;apply hac) | fail
   first | exact⟨trivial,trivial⟩ | (constructor<;>first | rfl | trivial | simp)
  case s2 =>
   exact⟨_,_,_,_,rfl,rfl,rfl,.inr rfl,fun env hd=>⟨hd.1 0 (by decide +kernel) _ rfl _ rfl,rfl,hd.1 1 (by decide +kernel) _ rfl _ rfl⟩⟩
  case s3 =>
   intro env S' hd hS
   clear hd hS
   repeat' first | refine st ?_ | (refine ca ?_;apply hac) | (refine br ?_ ?_<;>intro hb) | refine sd ?_ | apply aB | (apply aL;(· decide +kernel)) | refine bd ?_ ?_ | (refine cd ?_;apply hac) | fail
   first | exact⟨trivial,trivial⟩ | (constructor<;>first | rfl | trivial | simp)
  case s4 =>
   exact⟨_,_,_,_,rfl,rfl,rfl,.inr rfl,fun env hd=>⟨hd.1 0 (by decide +kernel) _ rfl _ rfl,rfl,hd.1 3 (by decide +kernel) _ rfl _ rfl⟩⟩
  case s5 =>
   intro env S' hd hS
   clear hd hS
   repeat' first | refine st ?_ | (refine ca ?_;apply hac) | (refine br ?_ ?_<;>intro hb) | refine sd ?_ | apply aB | (apply aL;(· decide +kernel)) | refine bd ?_ ?_ | (refine cd ?_;apply hac) | fail
   first | exact⟨trivial,trivial⟩ | (constructor<;>first | rfl | trivial | simp)
  case s6 =>
   exact⟨_,_,_,_,rfl,rfl,rfl,.inr rfl,fun env hd=>⟨hd.1 0 (by decide +kernel) _ rfl _ rfl,rfl,hd.1 5 (by decide +kernel) _ rfl _ rfl⟩⟩
  case s7 =>
   intro env S' hd hS
   have q1:=hd.2 1 rfl
   simp only [go_sem] at q1
   clear hd
   rcases hS with rfl | ⟨es,rfl⟩
   all_goals
    repeat' first | refine st ?_ | (refine br ?_ ?_<;>intro hb) | refine sd ?_ | apply aB | (apply aL;(· decide +kernel)) | refine bd ?_ ?_ | fail
    first | exact⟨trivial,trivial⟩ | (constructor<;>first | rfl | trivial | simp)
  case s8 =>
   exact⟨_,_,_,_,rfl,rfl,rfl,.inr rfl,fun env hd=>⟨hd.1 0 (by decide +kernel) _ rfl _ rfl,rfl,hd.1 7 (by decide +kernel) _ rfl _ rfl⟩⟩
  case s9 =>
   intro env S' hd hS
   have q1:=hd.2 1 rfl
   simp only [go_sem] at q1
   clear hd
   rcases hS with rfl | ⟨es,rfl⟩
   all_goals
    repeat' first | refine st ?_ | (refine br ?_ ?_<;>intro hb) | refine sd ?_ | apply aB | (apply aL;(· decide +kernel)) | refine bd ?_ ?_ | fail
    first | exact⟨trivial,trivial⟩ | (constructor<;>first | rfl | trivial | simp)
  case s10 =>
   exact⟨_,_,_,_,rfl,rfl,rfl,.inr rfl,fun env hd=>⟨hd.1 0 (by decide +kernel) _ rfl _ rfl,rfl,hd.1 9 (by decide +kernel) _ rfl _ rfl⟩⟩
  case s11 =>
   intro env S' hd hS
   have q1:=hd.2 1 rfl
   simp only [go_sem] at q1
   clear hd
   rcases hS with rfl | ⟨es,rfl⟩
   all_goals
    repeat' first | refine st ?_ | (refine br ?_ ?_<;>intro hb) | refine sd ?_ | apply aB | (apply aL;(· decide +kernel)) | refine bd ?_ ?_ | fail
    first | exact⟨trivial,trivial⟩ | (constructor<;>first | rfl | trivial | simp)
  case s12 =>
   exact⟨_,_,_,_,rfl,rfl,rfl,.inr rfl,fun env hd=>⟨hd.1 0 (by decide +kernel) _ rfl _ rfl,rfl,hd.1 11 (by decide +kernel) _ rfl _ rfl⟩⟩
  case s13 =>
   intro env S' hd hS
   clear hd hS
   repeat' first | refine st ?_ | (refine ca ?_;apply hac) | (refine br ?_ ?_<;>intro hb) | refine sd ?_ | apply aB | (apply aL;(· decide +kernel)) | refine bd ?_ ?_ | (refine cd ?_;apply hac) | fail
   first | exact⟨trivial,trivial⟩ | (constructor<;>first | rfl | trivial | simp)
  case s14 =>
   exact⟨_,_,_,_,rfl,rfl,rfl,.inr rfl,fun env hd=>⟨hd.1 0 (by decide +kernel) _ rfl _ rfl,rfl,hd.1 13 (by decide +kernel) _ rfl _ rfl⟩⟩
  case s15 =>
   intro env S' hd hS
   clear hd hS
   repeat' first | refine st ?_ | (refine ca ?_;apply hac) | (refine br ?_ ?_<;>intro hb) | refine sd ?_ | apply aB | (apply aL;(· decide +kernel)) | refine bd ?_ ?_ | (refine cd ?_;apply hac) | fail
   first | exact⟨trivial,trivial⟩ | (constructor<;>first | rfl | trivial | simp)
  case s16 =>
   exact⟨_,_,_,_,rfl,rfl,rfl,.inr rfl,fun env hd=>⟨hd.1 0 (by decide +kernel) _ rfl _ rfl,rfl,hd.1 15 (by decide +kernel) _ rfl _ rfl⟩⟩
  case s17 =>
   intro env S' hd hS
   clear hd hS
   repeat' first | refine st ?_ | (refine ca ?_;apply hac) | (refine br ?_ ?_<;>intro hb) | refine sd ?_ | apply aB | (apply aL;(· decide +kernel)) | refine bd ?_ ?_ | (refine cd ?_;apply hac) | fail
   first | exact⟨trivial,trivial⟩ | (constructor<;>first | rfl | trivial | simp)
  case s18 =>
   exact⟨_,_,_,_,rfl,rfl,rfl,.inr rfl,fun env hd=>⟨hd.1 0 (by decide +kernel) _ rfl _ rfl,rfl,hd.1 17 (by decide +kernel) _ rfl _ rfl⟩⟩
  case s19 =>
   intro env S' hd hS
   have q1:=hd.1 0 (by decide +kernel) _ rfl _ rfl
   simp only [fI.out,go_sem] at q1
   clear hd hS
   repeat' first | refine st ?_ | (refine br ?_ ?_<;>intro hb) | refine sd ?_ | apply aB | (apply aL;(· decide +kernel)) | refine bd ?_ ?_ | fail
   first | exact⟨trivial,trivial⟩ | (constructor<;>first | rfl | trivial | simp)
  case s20 =>
   intro env S' hd hS
   have q1:=hd.1 19 (by decide +kernel) _ rfl _ rfl
   simp only [fI.out,go_sem] at q1
   clear hd hS
   repeat' first | refine st ?_ | (refine br ?_ ?_<;>intro hb) | refine sd ?_ | apply aB | (apply aL;(· decide +kernel)) | refine bd ?_ ?_ | fail
   first | exact⟨trivial,trivial⟩ | (constructor<;>first | rfl | trivial | simp)
 case fin =>
  intro env hs hk
  have q0:=hs 20 _ rfl _ rfl
  have q5:=hk 1000000 rfl
  clear hs hk
  simp only [fI.out,go_sem] at q0 q5
  simp only [mZ,gW,aA,aC]
  repeat' first | refine st ?_ | (refine br ?_ ?_<;>intro hb) | fail
  refine fR Tryz.results72 ?_
  exact H.out
def j6:List (AV × AV):=ua.map fun p=>(.int .u8 p.1,p.2.av)
def BQ:List (AV × AV):=xA.map fun p=>(p.1.av,p.2.av)
def xX (e:AV × AV):AV × AV:=(.agg [.int .u8 0,.str [],e.1],e.2)
def mw:AV × AV:=(.agg [.int .u8 0,.str [35],.int .u8 56],bG 16 0 0)
theorem mF {e:AV × AV} (h:e∈j6):∃ (n:Int) (k a m:Int),e=(.int .u8 n,bG k a m):=by
 unfold j6 at h
 obtain⟨⟨n,x⟩,hp,rfl⟩:=aH.1 h
 have:∃ k a m,x=dr k a m:=by
  simp only [ua,bA,List.not_mem_nil,or_false,lA] at hp
  rcases hp with⟨_,rfl⟩ | ⟨_,rfl⟩ | ⟨_,rfl⟩ | ⟨_,rfl⟩ | ⟨_,rfl⟩ | ⟨_,rfl⟩ | ⟨_,rfl⟩ | ⟨_,rfl⟩ | ⟨_,rfl⟩ | ⟨_,rfl⟩ | ⟨_,rfl⟩
  all_goals exact⟨_,_,_,rfl⟩
 obtain⟨k,a,m,rfl⟩:=this
 exact⟨n,k,a,m,rfl⟩
theorem vz:(j6.map bZ).Nodup:=by
 simp [j6,ua]
theorem wd {es:List (AV × AV)} (h:∀ x∈es,∃ k a j q m,x=(.int k a,bG j q m)) (n:Nat):lh n es=true:=by
 rw [dz]
 intro x hx
 obtain⟨k,a,j,q,m,rfl⟩:=h x hx
 exact⟨rfl,rfl⟩
theorem zb {es:List (AV × AV)} (h:∀ x∈es,∃ a s b j q m,x=(.agg [.int .u8 a,.str s,.int .u8 b],bG j q m)) (n:Nat):lh n es=true:=by
 rw [dz]
 intro x hx
 obtain⟨k,a,j,q,m,_,rfl⟩:=h x hx
 exact⟨rfl,rfl⟩
theorem hZ (a:Int) (s:List UInt8) (b:Int):dW Tryz.prog 140 (.agg [.int .u8 a,.str s,.int .u8 b])=true:=by
 simp [dW,iv,dp,go_sem]
theorem zU {vis rest:List (AV × AV)}{e:AV × AV} (hp:j6.Perm (vis++e::rest)):(xX e).1∉(mw::vis.map xX).map bZ:=by
 have h1:=(hp.map bZ).nodup_iff.1 vz
 rw [bg,gZ] at h1
 rw [aA,Ag]
 intro hm
 rcases bA.1 hm with hm | hm
 ·have:=congrArg (fun x=>match x with | AV.agg [_,AV.str s,_]=>s | _=>[]) hm
  simp [xX,mw] at this
 ·obtain⟨x,hx,he⟩:=aH.1 hm
  have hxe:x.1=e.1:=by
   simp only [aN,xX,AV.agg.injEq,iI,true_and,and_true] at he
   exact he
  exact h1.2.2 _ (aH.2 ⟨x,hx,rfl⟩) _ (aH.2 ⟨e,cV ..,rfl⟩) hxe
theorem z6 (w0:World) (S:List ax) (R:Rt) (h:R (.ret (.mval BQ)) S):ao Tryz.prog w0 73 [] S R:=by
 have hac:=uf w0
 have H:=ae h
 have Hac:=ae hac
 clear h
 refine eN Tryz.func73 rfl Tryz.ntmps73 fun hO=>?_
 repeat' ((fail_if_success (apply bW 3));first | refine st ?_ | (refine ca ?_;apply hac) | (refine br ?_ ?_<;>intro hb) | fail)
 refine ew (S.length+1) ss ?_
 repeat' first | refine st ?_ | (refine br ?_ ?_<;>intro hb) | fail
 refine eJ (fun (p:Option (AV × AV) × List (AV × AV) × List (AV × AV)) env S'=>j6.Perm (p.2.1++p.2.2)∧(∀ n,(ax.mit p.1 []).ltB n=true)∧env 1000000=.dfr []∧env 1=.mown S.length∧env 25=.own (S.length+2) 0 ∧
  S'=S++[.mp false (mw::p.2.1.map xX),.mp true j6,.mit p.1 p.2.2]) (fun p=>p.2.2.length) (none,[],j6) ?_ ?_
 ·exact⟨.refl _,fun _=>rfl,ss,ss,ss,rfl⟩
 ·rintro⟨cur,vis,rest⟩ env S' ⟨hp,hcur,e0,e1,e25,rfl⟩ IH
  have HI:=ae IH
  have HP:=ae hp
  have HO:=ae hO
  clear IH hp hac
  simp only at hcur
  repeat' first | refine st ?_ | (refine br ?_ ?_<;>intro hb) | fail
  apply nU
  ·(simp only [go_sem, *];try rfl)
  ·rfl
  ·(simp only [go_sem, *];try rfl)
  ·(simp only [go_sem, *];try rfl)
  ·rfl
  ·intro hr
   have hp:=HP.out
   rw [hr,aE] at hp
   subst hr
   simp only [putA]
   refine l6 S.length (es':=mw::j6.map xX) ss ((hp.symm.map xX).cons mw) ss ?_
   simp only [j6,ua,aA,aC,xX,mw,Ac.av,dr,bG,ba]
   have Hac2:=Hac.out
   clear hp HI HP
   repeat' first | refine st ?_ | (refine ca ?_;apply Hac2) | (refine br ?_ ?_<;>intro hb) | apply cR | apply fO | fail
   refine fR Tryz.results73 ?_
   exact H.out
  ·intro e rest' hr
   have hp:j6.Perm (vis++e::rest'):=HP.out.trans (gm _ hr)
   have hnew:=zU hp
   obtain⟨n,k,a,m,rfl⟩:=mF (hp.mem_iff.2 (b9 _ (cV ..)))
   have hkeys:∀ x∈mw::vis.map xX,∃ a s b j q m,x=(.agg [.int .u8 a,.str s,.int .u8 b],bG j q m):=by
    intro x hx
    rcases bA.1 hx with rfl | hx
    ·exact⟨_,_,_,_,_,_,rfl⟩
    ·obtain⟨y,hy,rfl⟩:=aH.1 hx
     obtain⟨n,k,a,m,rfl⟩:=mF (hp.mem_iff.2 (fM _ hy))
     exact⟨_,_,_,_,_,_,rfl⟩
   have HN:=ae hnew
   have HK:=ae hkeys
   have HP2:=ae hp
   have HR:=ae hr
   have HL1:=ae (zb (es:=(mw::vis.map xX)++[(.agg [.int .u8 0,.str [],.int .u8 n],bG k a m)]) (by
    intro x hx
    rcases bv.1 hx with hx | hx
    ·exact hkeys x hx
    ·simp at hx;subst hx;exact⟨_,_,_,_,_,_,rfl⟩))
   have HL2:=ae (wd (es:=rest') (by
    intro x hx
    obtain⟨n,k,a,m,rfl⟩:=mF (hp.mem_iff.2 (b9 _ (fa _ hx)))
    exact⟨_,_,_,_,_,rfl⟩))
   have HL3:=ae (wd (es:=j6) (by
    intro x hx
    obtain⟨n,k,a,m,rfl⟩:=mF hx
    exact⟨_,_,_,_,_,rfl⟩))
   clear hp hnew hkeys hr
   simp only [putA,bG]
   repeat' first | refine st ?_ | (refine br ?_ ?_<;>intro hb) | fail
   have hka:∀ x∈mw::vis.map xX,dW Tryz.prog 140 x.1=true:=by
    intro x hx
    obtain⟨a,s,b,_,_,_,rfl⟩:=HK.out x hx
    exact hZ a s b
   have hkk:=hZ 0 [] n
   apply Cq
   ·(simp only [go_sem, *];try rfl)
   ·rfl
   ·(simp only [go_sem, *];try rfl)
   ·(simp only [go_sem, *];try rfl)
   ·(simp only [go_sem, *];try rfl)
   ·(simp only [go_sem, *];try rfl)
   ·(simp only [go_sem, *];try rfl)
   ·exact hkk
   ·exact aq.2 hka
   ·exact jI hkk hka HN.out
   ·rfl
   ·(simp only [go_sem, *];try rfl)
   clear hka hkk
   simp only [putA]
   repeat' first | refine st ?_ | (refine br ?_ ?_<;>intro hb) | fail
   refine fT HO.out 3 [1,25] rfl ss ss ?_ ?_
   ·have l1:=HL1.out
    have l2:=HL2.out
    have l3:=HL3.out
    simp only [bG,cz] at l1
    (simp only [go_sem, *];try rfl)
   simp only [cy,co]
   refine HI.out (some (.int .u8 n,bG k a m),vis++[(.int .u8 n,bG k a m)],rest') _ _ ?_ ⟨?_, ?_, ?_, ?_, ?_, ?_⟩
   ·have:=HR.out.length_eq;simp at this ⊢;omega
   ·simpa using HP2.out
   ·intro n;rfl
   ·(simp only [go_sem, *];try rfl)
   ·(simp only [go_sem, *];try rfl)
   ·(simp only [go_sem, *];try rfl)
   ·simp [xX,bG]
def eX (f:AV):AV:=.fn (.func 139) [] [.pro [f]]
def qW:Sq→AV
 | .cnt k=>eX (.fn (.func 143) [] [.pro [.int .i64 k]])
 | .first k=>eX (.fn (.func 145) [] [.pro [.int .i64 k]])
 | .way k n=>eX (.fn (.func 147) [] [.pro [.int .i64 k,.int .i64 n,.int .i64 0,.int .i64 0,.int .i64 0,.str []]])
 | .cursor=>eX (.fn (.func 148) [] [])
 | .modes k bit=>.fn (.func 141) [] [.pro [.int .i64 k],.pro [.int .i64 bit]]
 | .ask n=>.fn (.func 150) [] [.pro [.int .i64 n]]
 | .margins=>eX (.fn (.func 151) [] [])
 | .const k=>eX (.fn (.func (if k=12 then 152 else if k=13 then 153 else 157)) [] [])
 | .pens=>.fn (.func 154) [] []
 | .shape=>eX (.fn (.func 156) [] [])
 | .askMode n=>eX (.fn (.func 158) [] [.pro [.int .i64 n]])
def AC:List (AV × AV):=uH.map fun p=>(p.1.av,qW p.2)
theorem rD {base L vis rest:List (AV × AV)}{e:AV × AV}{f:AV × AV→AV × AV} (hn:((base++L.map f).map bZ).Nodup) (hp:L.Perm (vis++e::rest)):(f e).1∉(base++vis.map f).map bZ:=by
 have h1:=(((hp.map f).append_left base).map bZ).nodup_iff.1 hn
 rw [show base++bE f (vis++e::rest)=(base++vis.map f)++f e::rest.map f by simp,bg,aA,gZ] at h1
 intro hm
 exact h1.2.2 _ hm _ (cV ..) rfl
theorem zY (w0:World) (S:List ax) (g:FuncId) (cap:List AV) (hp:plainL cap=true) (hl:∀ n,Go.Fen.ltL n cap=true) (R:Rt) (h:R (.ret (eX (.fn (.func g) [] cap))) S):ao Tryz.prog w0 138 [.fn (.func g) [] cap] S R:=by
 unfold eX at h
 refine eN Tryz.func138 rfl Tryz.ntmps138 fun hO=>?_
 repeat' first | refine st ?_ | (refine br ?_ ?_<;>intro hb) | fail
 refine fR Tryz.results138 ?_
 exact h
theorem Fv (w0:World) (S:List ax) (k b:Int) (R:Rt) (h:R (.ret (qW (.modes k b))) S):ao Tryz.prog w0 140 [.int .i64 k,.int .i64 b] S R:=by
 unfold qW at h
 refine eN Tryz.func140 rfl Tryz.ntmps140 fun hO=>?_
 repeat' first | refine st ?_ | (refine br ?_ ?_<;>intro hb) | fail
 refine fR Tryz.results140 ?_
 exact h
theorem Cb (w0:World) (S:List ax) (a m:Nat) (es:List (AV × AV)) (pv:Int) (it:List UInt8) (fn:Int) (v:AV) (ha:S[a]? = some (.cells [.mown m] none)) (hm:S[m]? = some (.mp false es)) (hall:(es.all fun x=>dW Tryz.prog 140 x.1)=true)
  (hnew:es.any (fun e=>jb (.agg [.int .u8 pv,.str it,.int .u8 fn]) e.1)=false) (hlt:lh S.length (es++[(.agg [.int .u8 pv,.str it,.int .u8 fn],v)])=true) (R:Rt)
  (h:R (.ret (.tup [])) (S.set m (.mp false (es++[(.agg [.int .u8 pv,.str it,.int .u8 fn],v)])))):ao Tryz.prog w0 137 [.int .u8 pv,.str it,.int .u8 fn,v,.own a 0] S R:=by
 have HN:=ae hnew
 have HA:=ae hall
 have HL:=ae hlt
 have H:=ae h
 clear hnew hall hlt h
 refine eN Tryz.func137 rfl Tryz.ntmps137 fun hO=>?_
 repeat' first | refine st ?_ | (refine br ?_ ?_<;>intro hb) | fail
 apply Cq
 ·(simp only [go_sem, *];try rfl)
 ·rfl
 ·(simp only [go_sem, *];try rfl)
 ·(simp only [go_sem, *];try rfl)
 ·(simp only [go_sem, *];try rfl)
 ·(simp only [go_sem, *];try rfl)
 ·(simp only [go_sem, *];try rfl)
 ·exact hZ pv it fn
 ·exact HA.out
 ·exact HN.out
 ·rfl
 ·rfl
 simp only [putA]
 repeat' first | refine st ?_ | (refine br ?_ ?_<;>intro hb) | fail
 refine El Tryz.results137 ?_ ?_ ?_
 ·exact bw.set hO HL.out
 ·simp
 ·exact H.out
def fG (g:FuncId) (e:AV × AV):AV × AV:=(.agg [.int .u8 0,.str [],e.1],eX (.fn (.func g) [] [.pro e.2.cells]))
def gM:List (AV × AV):=n9.map fun p=>(.int .u8 p.1,.int .i64 p.2)
def fA:List (AV × AV):=mC.map fun p=>(.int .u8 p.1,.int .i64 p.2)
def lr:List (AV × AV):=vQ.map fun p=>(.int .u8 p.1,bG p.2.1 p.2.2 0)
def lx:List (AV × AV):=[]
def jZ:List (AV × AV):=lx++gM.map (fG 143)
def jt:List (AV × AV):=jZ++fA.map (fG 145)
def qD:List (AV × AV):=jt++lr.map (fG 147)
theorem mW (S r:List ax) (a b:ax):(S++a::r).set S.length b=S++b::r:=by
 rw [cZ _ _ (aP _),p4,Ci]
def gH (x:AV × AV):Prop:=(∃ a s b,x.1=.agg [.int .u8 a,.str s,.int .u8 b])∧∀ n,x.2.lt n=true
theorem gH.key {x:AV × AV} (h:gH x):dW Tryz.prog 140 x.1=true:=by
 obtain⟨⟨a,s,b,e⟩,_⟩:=h
 rw [e];exact hZ a s b
theorem gH.lts {es:List (AV × AV)} (h:∀ x∈es,gH x) (n:Nat):lh n es=true:=by
 rw [dz]
 intro x hx
 obtain⟨⟨a,s,b,e⟩,h2⟩:=h x hx
 exact⟨by rw [e];rfl,h2 n⟩
theorem dY {g:FuncId}{e:AV × AV}{n:Int} (h1:e.1=.int .u8 n) (h2:∀ m,Go.Fen.ltL m e.2.cells=true):gH (fG g e):=by
 refine⟨⟨0,[],n,by simp [fG,h1]⟩,fun m=>?_⟩
 simp only [fG,eX,AV.lt,Go.Fen.ltL,h2 m,x_]
theorem iC {e:AV × AV} (h:e∈gM):∃ (n k:Int),e=(.int .u8 n,.int .i64 k):=by
 unfold gM at h
 obtain⟨p,hp,rfl⟩:=aH.1 h
 exact⟨_,_,rfl⟩
theorem gX {e:AV × AV} (h:e∈fA):∃ (n k:Int),e=(.int .u8 n,.int .i64 k):=by
 unfold fA at h
 obtain⟨p,hp,rfl⟩:=aH.1 h
 exact⟨_,_,rfl⟩
theorem km {e:AV × AV} (h:e∈lr):∃ (n k a:Int),e=(.int .u8 n,bG k a 0):=by
 unfold lr at h
 obtain⟨p,hp,rfl⟩:=aH.1 h
 exact⟨_,_,_,rfl⟩
theorem qE:∀ x∈lx,gH x:=by intro x hx;cases hx
theorem nd:∀ x∈jZ,gH x:=by
 intro x hx
 rcases bv.1 hx with hx | hx
 ·exact qE x hx
 ·obtain⟨y,hy,rfl⟩:=aH.1 hx
  obtain⟨n,k,rfl⟩:=iC hy
  exact dY rfl fun m=>rfl
theorem nc:∀ x∈jt,gH x:=by
 intro x hx
 rcases bv.1 hx with hx | hx
 ·exact nd x hx
 ·obtain⟨y,hy,rfl⟩:=aH.1 hx
  obtain⟨n,k,rfl⟩:=gX hy
  exact dY rfl fun m=>rfl
theorem xN:∀ x∈qD,gH x:=by
 intro x hx
 rcases bv.1 hx with hx | hx
 ·exact nc x hx
 ·obtain⟨y,hy,rfl⟩:=aH.1 hx
  obtain⟨n,k,a,rfl⟩:=km hy
  exact dY rfl fun m=>rfl
theorem y9:(qD.map bZ).Nodup:=by
 simp [qD,jt,jZ,lx,gM,n9,fA,mC,lr,vQ,fG]
theorem y_:(jt.map bZ).Nodup:=by
 have h:=y9
 unfold qD at h
 rw [bg] at h
 exact(gZ.1 h).1
theorem DE:(jZ.map bZ).Nodup:=by
 have h:=y_
 unfold jt at h
 rw [bg] at h
 exact(gZ.1 h).1
theorem Ft (w0:World) (S:List ax) (R:Rt) (h:R (.ret (.mval AC)) S):ao Tryz.prog w0 75 [] S R:=by
 have hac:=uf w0
 have H:=ae h
 have Hac:=ae hac
 clear h
 refine eN Tryz.func75 rfl Tryz.ntmps75 fun hO=>?_
 have HO:=ae hO
 repeat' ((fail_if_success (apply bW 6));first | refine st ?_ | (refine ca ?_;apply hac) | (refine br ?_ ?_<;>intro hb) | fail)
 refine ew (S.length+2) ss ?_
 repeat' first | refine st ?_ | (refine br ?_ ?_<;>intro hb) | fail
 refine eJ (fun (p:Option (AV × AV) × List (AV × AV) × List (AV × AV)) env S2=>gM.Perm (p.2.1++p.2.2)∧(∀ n,(ax.mit p.1 []).ltB n=true)∧env 1000000=.dfr []∧env 1=.own (S.length+1) 0∧env 2=.fn (.func 137) [] [.own (S.length+1) 0]∧env 3=.fn (.func 138) [] []∧env 4=.fn (.func 140) [] []∧env 27=.own (S.length+3) 0 ∧
  S2=S++[.mp false (lx++p.2.1.map (fG 143)),.cells [.mown S.length] none,.mp true gM,.mit p.1 p.2.2]) (fun p=>p.2.2.length) (none,[],gM) ?_ ?_
 ·exact⟨.refl _,fun _=>rfl,ss,ss,ss,ss,ss,ss,rfl⟩
 rintro⟨cur,vis,rest⟩ env S2 ⟨hp,hcur,e0,e1,e2,e3,e4,eit,rfl⟩ IH
 have HI:=ae IH
 have HP:=ae hp
 clear IH hp hac
 simp only at hcur
 repeat' first | refine st ?_ | (refine br ?_ ?_<;>intro hb) | fail
 apply nU
 ·(simp only [go_sem, *];try rfl)
 ·rfl
 ·(simp only [go_sem, *];try rfl)
 ·(simp only [go_sem, *];try rfl)
 ·rfl
 rotate_left
 ·intro e rest' hr
  have hp:gM.Perm (vis++e::rest'):=HP.out.trans (gm _ hr)
  have hnew:=rD (f:=fG 143) DE hp
  obtain⟨n,k,rfl⟩:=iC (hp.mem_iff.2 (b9 _ (cV ..)))
  have hkeys:∀ x∈lx++vis.map (fG 143),gH x:=by
   intro x hx
   rcases bv.1 hx with hx | hx
   ·exact qE x hx
   ·obtain⟨y,hy,rfl⟩:=aH.1 hx
    obtain⟨n,k,rfl⟩:=iC (hp.mem_iff.2 (fM _ hy))
    exact dY rfl fun m=>rfl
  have HN:=ae hnew
  have HK:=ae hkeys
  have HP2:=ae hp
  have HR:=ae hr
  have HL2:pK (∀ n,lh n rest'=true∧lh n gM=true):=ae (by
   intro m
   constructor
   ·rw [dz]
    intro x hx
    obtain⟨n,k,rfl⟩:=iC (hp.mem_iff.2 (b9 _ (fa _ hx)))
    exact⟨rfl,rfl⟩
   ·rw [dz]
    intro x hx
    obtain⟨n,k,rfl⟩:=iC hx
    exact⟨rfl,rfl⟩)
  clear hp hnew hkeys hr
  simp only [putA,bG]
  repeat' ((fail_if_success (apply bX 33 rfl));first | refine st ?_ | (refine br ?_ ?_<;>intro hb) | fail)
  refine l7 (t:=7) (a:=S.length+4) (o:=0) ss ss ?_
  simp only [fN]
  have hone:=fun S'=>zY w0 S' 143 [.pro [.int .i64 k]] rfl (fun _=>rfl)
  unfold eX at hone
  repeat' ((fail_if_success (apply bX 38 rfl));first | refine st ?_ | (refine ca ?_;apply hone) | (refine br ?_ ?_<;>intro hb) | fail)
  apply dT []
  ·(simp only [go_sem, *];try rfl)
  ·rfl
  ·(simp only [go_sem, *];try rfl)
  ·rfl
  ·(simp only [go_sem, *];try rfl)
  ·(simp only [go_sem, *];try rfl)
  have hke:gH (fG 143 (.int .u8 n,.int .i64 k)):=dY rfl fun m=>rfl
  refine Cb w0 _ (S.length+1) S.length (lx++vis.map (fG 143)) 0 [] n _ ?_ ?_ (aq.2 fun x hx=>(HK.out x hx).key) (jI (hZ 0 [] n) (fun x hx=>(HK.out x hx).key) HN.out) (gH.lts (es:=(lx++vis.map (fG 143))++[fG 143 (.int .u8 n,.int .i64 k)]) (by
   intro x hx
   rcases bv.1 hx with hx | hx
   ·exact HK.out x hx
   ·rw [aZ.1 hx];exact hke) _) _ ?_
  ·(simp only [go_sem, *];try rfl)
  ·(simp only [go_sem, *];try rfl)
  rw [mW]
  clear hke
  repeat' first | refine st ?_ | (refine br ?_ ?_<;>intro hb) | fail
  refine fT HO.out 4 [1,2,3,4,27] rfl ss ss ?_ ?_
  ·have hke:gH (fG 143 (.int .u8 n,.int .i64 k)):=dY rfl fun m=>rfl
   have l1:=gH.lts (es:=(lx++vis.map (fG 143))++[fG 143 (.int .u8 n,.int .i64 k)]) (by
    intro x hx
    rcases bv.1 hx with hx | hx
    ·exact HK.out x hx
    ·rw [aZ.1 hx];exact hke)
   have l2:=fun n=>(HL2.out n).1
   have l3:=fun n=>(HL2.out n).2
   clear hke
   simp only [fG,eX,AV.cells,bG,aK] at l1 ⊢
   (simp only [go_sem, *];try rfl)
  simp only [cy,co]
  refine HI.out (some (.int .u8 n,.int .i64 k),vis++[(.int .u8 n,.int .i64 k)],rest') _ _ ?_ ⟨?_, ?_, ?_, ?_, ?_, ?_, ?_, ?_, ?_⟩
  ·have:=HR.out.length_eq;simp at this ⊢;omega
  ·simpa using HP2.out
  ·intro n;rfl
  ·(simp only [go_sem, *];try rfl)
  ·(simp only [go_sem, *];try rfl)
  ·(simp only [go_sem, *];try rfl)
  ·(simp only [go_sem, *];try rfl)
  ·(simp only [go_sem, *];try rfl)
  ·(simp only [go_sem, *];try rfl)
  ·simp [fG,eX,bG,AV.cells]
 intro hr
 have hp:=HP.out
 rw [hr,aE] at hp
 subst hr
 simp only [putA]
 refine l6 S.length (es':=jZ) ss ((hp.symm.map (fG 143)).append_left lx) ss ?_
 clear hp HI HP
 repeat' ((fail_if_success (apply bW 10));first | refine st ?_ | (refine br ?_ ?_<;>intro hb) | fail)
 refine fT HO.out 2 [1,2,3,4] rfl ss ss ?_ ?_
 ·have l1:=gH.lts nd
  (simp only [go_sem, *];try rfl)
 simp only [cy,co]
 have Hac2:=Hac.out
 repeat' ((fail_if_success (apply bW 11));first | refine st ?_ | (refine ca ?_;apply Hac2) | (refine br ?_ ?_<;>intro hb) | fail)
 refine ew (S.length+2) ss ?_
 repeat' first | refine st ?_ | (refine br ?_ ?_<;>intro hb) | fail
 refine eJ (fun (p:Option (AV × AV) × List (AV × AV) × List (AV × AV)) env S2=>fA.Perm (p.2.1++p.2.2)∧(∀ n,(ax.mit p.1 []).ltB n=true)∧env 1000000=.dfr []∧env 1=.own (S.length+1) 0∧env 2=.fn (.func 137) [] [.own (S.length+1) 0]∧env 3=.fn (.func 138) [] []∧env 4=.fn (.func 140) [] []∧env 42=.own (S.length+3) 0 ∧
  S2=S++[.mp false (jZ++p.2.1.map (fG 145)),.cells [.mown S.length] none,.mp true fA,.mit p.1 p.2.2]) (fun p=>p.2.2.length) (none,[],fA) ?_ ?_
 ·exact⟨.refl _,fun _=>rfl,ss,ss,ss,ss,ss,ss,by simp only [aC,aE];rfl⟩
 clear e0 e1 e2 e3 e4 eit hcur
 rintro⟨cur,vis,rest⟩ env S2 ⟨hp,hcur,e0,e1,e2,e3,e4,eit,rfl⟩ IH
 have HI:=ae IH
 have HP:=ae hp
 clear IH hp
 simp only at hcur
 repeat' first | refine st ?_ | (refine br ?_ ?_<;>intro hb) | fail
 apply nU
 ·(simp only [go_sem, *];try rfl)
 ·rfl
 ·(simp only [go_sem, *];try rfl)
 ·(simp only [go_sem, *];try rfl)
 ·rfl
 rotate_left
 ·intro e rest' hr
  have hp:fA.Perm (vis++e::rest'):=HP.out.trans (gm _ hr)
  have hnew:=rD (f:=fG 145) y_ hp
  obtain⟨n,k,rfl⟩:=gX (hp.mem_iff.2 (b9 _ (cV ..)))
  have hkeys:∀ x∈jZ++vis.map (fG 145),gH x:=by
   intro x hx
   rcases bv.1 hx with hx | hx
   ·exact nd x hx
   ·obtain⟨y,hy,rfl⟩:=aH.1 hx
    obtain⟨n,k,rfl⟩:=gX (hp.mem_iff.2 (fM _ hy))
    exact dY rfl fun m=>rfl
  have HN:=ae hnew
  have HK:=ae hkeys
  have HP2:=ae hp
  have HR:=ae hr
  have HL2:pK (∀ n,lh n rest'=true∧lh n fA=true):=ae (by
   intro m
   constructor
   ·rw [dz]
    intro x hx
    obtain⟨n,k,rfl⟩:=gX (hp.mem_iff.2 (b9 _ (fa _ hx)))
    exact⟨rfl,rfl⟩
   ·rw [dz]
    intro x hx
    obtain⟨n,k,rfl⟩:=gX hx
    exact⟨rfl,rfl⟩)
  clear hp hnew hkeys hr
  simp only [putA,bG]
  repeat' ((fail_if_success (apply bX 48 rfl));first | refine st ?_ | (refine br ?_ ?_<;>intro hb) | fail)
  refine l7 (t:=10) (a:=S.length+4) (o:=0) ss ss ?_
  simp only [fN]
  have hone:=fun S'=>zY w0 S' 145 [.pro [.int .i64 k]] rfl (fun _=>rfl)
  unfold eX at hone
  repeat' ((fail_if_success (apply bX 53 rfl));first | refine st ?_ | (refine ca ?_;apply hone) | (refine br ?_ ?_<;>intro hb) | fail)
  apply dT []
  ·(simp only [go_sem, *];try rfl)
  ·rfl
  ·(simp only [go_sem, *];try rfl)
  ·rfl
  ·(simp only [go_sem, *];try rfl)
  ·(simp only [go_sem, *];try rfl)
  have hke:gH (fG 145 (.int .u8 n,.int .i64 k)):=dY rfl fun m=>rfl
  refine Cb w0 _ (S.length+1) S.length (jZ++vis.map (fG 145)) 0 [] n _ ?_ ?_ (aq.2 fun x hx=>(HK.out x hx).key) (jI (hZ 0 [] n) (fun x hx=>(HK.out x hx).key) HN.out) (gH.lts (es:=(jZ++vis.map (fG 145))++[fG 145 (.int .u8 n,.int .i64 k)]) (by
   intro x hx
   rcases bv.1 hx with hx | hx
   ·exact HK.out x hx
   ·rw [aZ.1 hx];exact hke) _) _ ?_
  ·(simp only [go_sem, *];try rfl)
  ·(simp only [go_sem, *];try rfl)
  rw [mW]
  clear hke
  repeat' first | refine st ?_ | (refine br ?_ ?_<;>intro hb) | fail
  refine fT HO.out 4 [1,2,3,4,42] rfl ss ss ?_ ?_
  ·have hke:gH (fG 145 (.int .u8 n,.int .i64 k)):=dY rfl fun m=>rfl
   have l1:=gH.lts (es:=(jZ++vis.map (fG 145))++[fG 145 (.int .u8 n,.int .i64 k)]) (by
    intro x hx
    rcases bv.1 hx with hx | hx
    ·exact HK.out x hx
    ·rw [aZ.1 hx];exact hke)
   have l2:=fun n=>(HL2.out n).1
   have l3:=fun n=>(HL2.out n).2
   clear hke
   simp only [fG,eX,AV.cells,bG,aK] at l1 ⊢
   (simp only [go_sem, *];try rfl)
  simp only [cy,co]
  refine HI.out (some (.int .u8 n,.int .i64 k),vis++[(.int .u8 n,.int .i64 k)],rest') _ _ ?_ ⟨?_, ?_, ?_, ?_, ?_, ?_, ?_, ?_, ?_⟩
  ·have:=HR.out.length_eq;simp at this ⊢;omega
  ·simpa using HP2.out
  ·intro n;rfl
  ·(simp only [go_sem, *];try rfl)
  ·(simp only [go_sem, *];try rfl)
  ·(simp only [go_sem, *];try rfl)
  ·(simp only [go_sem, *];try rfl)
  ·(simp only [go_sem, *];try rfl)
  ·(simp only [go_sem, *];try rfl)
  ·simp [fG,eX,bG,AV.cells]
 intro hr
 have hp:=HP.out
 rw [hr,aE] at hp
 subst hr
 simp only [putA]
 refine l6 S.length (es':=jt) ss ((hp.symm.map (fG 145)).append_left jZ) ss ?_
 clear hp HI HP
 repeat' ((fail_if_success (apply bW 15));first | refine st ?_ | (refine br ?_ ?_<;>intro hb) | fail)
 refine fT HO.out 2 [1,2,3,4] rfl ss ss ?_ ?_
 ·have l1:=gH.lts nc
  (simp only [go_sem, *];try rfl)
 simp only [cy,co]
 repeat' ((fail_if_success (apply bW 16));first | refine st ?_ | (refine ca ?_;apply Hac2) | (refine br ?_ ?_<;>intro hb) | fail)
 refine ew (S.length+2) ss ?_
 repeat' first | refine st ?_ | (refine br ?_ ?_<;>intro hb) | fail
 refine eJ (fun (p:Option (AV × AV) × List (AV × AV) × List (AV × AV)) env S2=>lr.Perm (p.2.1++p.2.2)∧(∀ n,(ax.mit p.1 []).ltB n=true)∧env 1000000=.dfr []∧env 1=.own (S.length+1) 0∧env 2=.fn (.func 137) [] [.own (S.length+1) 0]∧env 3=.fn (.func 138) [] []∧env 4=.fn (.func 140) [] []∧env 65=.own (S.length+3) 0 ∧
  S2=S++[.mp false (jt++p.2.1.map (fG 147)),.cells [.mown S.length] none,.mp true lr,.mit p.1 p.2.2]) (fun p=>p.2.2.length) (none,[],lr) ?_ ?_
 ·exact⟨.refl _,fun _=>rfl,ss,ss,ss,ss,ss,ss,by simp only [aC,aE];rfl⟩
 clear e0 e1 e2 e3 e4 eit hcur
 rintro⟨cur,vis,rest⟩ env S2 ⟨hp,hcur,e0,e1,e2,e3,e4,eit,rfl⟩ IH
 have HI:=ae IH
 have HP:=ae hp
 clear IH hp
 simp only at hcur
 repeat' first | refine st ?_ | (refine br ?_ ?_<;>intro hb) | fail
 apply nU
 ·(simp only [go_sem, *];try rfl)
 ·rfl
 ·(simp only [go_sem, *];try rfl)
 ·(simp only [go_sem, *];try rfl)
 ·rfl
 rotate_left
 ·intro e rest' hr
  have hp:lr.Perm (vis++e::rest'):=HP.out.trans (gm _ hr)
  have hnew:=rD (f:=fG 147) y9 hp
  obtain⟨n,k,a,rfl⟩:=km (hp.mem_iff.2 (b9 _ (cV ..)))
  have hkeys:∀ x∈jt++vis.map (fG 147),gH x:=by
   intro x hx
   rcases bv.1 hx with hx | hx
   ·exact nc x hx
   ·obtain⟨y,hy,rfl⟩:=aH.1 hx
    obtain⟨n,k,a,rfl⟩:=km (hp.mem_iff.2 (fM _ hy))
    exact dY rfl fun m=>rfl
  have HN:=ae hnew
  have HK:=ae hkeys
  have HP2:=ae hp
  have HR:=ae hr
  have HL2:pK (∀ n,lh n rest'=true∧lh n lr=true):=ae (by
   intro m
   constructor
   ·rw [dz]
    intro x hx
    obtain⟨n,k,a,rfl⟩:=km (hp.mem_iff.2 (b9 _ (fa _ hx)))
    exact⟨rfl,rfl⟩
   ·rw [dz]
    intro x hx
    obtain⟨n,k,a,rfl⟩:=km hx
    exact⟨rfl,rfl⟩)
  clear hp hnew hkeys hr
  simp only [putA,bG]
  repeat' ((fail_if_success (apply bX 71 rfl));first | refine st ?_ | (refine br ?_ ?_<;>intro hb) | fail)
  refine l7 (t:=13) (a:=S.length+4) (o:=0) ss ss ?_
  simp only [fN]
  have hone:=fun S'=>zY w0 S' 147 [.pro [.int .i64 k,.int .i64 a,.int .i64 0,.int .i64 0,.int .i64 0,.str []]] rfl (fun _=>rfl)
  unfold eX at hone
  repeat' ((fail_if_success (apply bX 76 rfl));first | refine st ?_ | (refine ca ?_;apply hone) | (refine br ?_ ?_<;>intro hb) | fail)
  apply dT []
  ·(simp only [go_sem, *];try rfl)
  ·rfl
  ·(simp only [go_sem, *];try rfl)
  ·rfl
  ·(simp only [go_sem, *];try rfl)
  ·(simp only [go_sem, *];try rfl)
  have hke:gH (fG 147 (.int .u8 n,bG k a 0)):=dY rfl fun m=>rfl
  refine Cb w0 _ (S.length+1) S.length (jt++vis.map (fG 147)) 0 [] n _ ?_ ?_ (aq.2 fun x hx=>(HK.out x hx).key) (jI (hZ 0 [] n) (fun x hx=>(HK.out x hx).key) HN.out) (gH.lts (es:=(jt++vis.map (fG 147))++[fG 147 (.int .u8 n,bG k a 0)]) (by
   intro x hx
   rcases bv.1 hx with hx | hx
   ·exact HK.out x hx
   ·rw [aZ.1 hx];exact hke) _) _ ?_
  ·(simp only [go_sem, *];try rfl)
  ·(simp only [go_sem, *];try rfl)
  rw [mW]
  clear hke
  repeat' first | refine st ?_ | (refine br ?_ ?_<;>intro hb) | fail
  refine fT HO.out 4 [1,2,3,4,65] rfl ss ss ?_ ?_
  ·have hke:gH (fG 147 (.int .u8 n,bG k a 0)):=dY rfl fun m=>rfl
   have l1:=gH.lts (es:=(jt++vis.map (fG 147))++[fG 147 (.int .u8 n,bG k a 0)]) (by
    intro x hx
    rcases bv.1 hx with hx | hx
    ·exact HK.out x hx
    ·rw [aZ.1 hx];exact hke)
   have l2:=fun n=>(HL2.out n).1
   have l3:=fun n=>(HL2.out n).2
   clear hke
   simp only [fG,eX,AV.cells,bG,aK] at l1 ⊢
   (simp only [go_sem, *];try rfl)
  simp only [cy,co]
  refine HI.out (some (.int .u8 n,bG k a 0),vis++[(.int .u8 n,bG k a 0)],rest') _ _ ?_ ⟨?_, ?_, ?_, ?_, ?_, ?_, ?_, ?_, ?_⟩
  ·have:=HR.out.length_eq;simp at this ⊢;omega
  ·simpa using HP2.out
  ·intro n;rfl
  ·(simp only [go_sem, *];try rfl)
  ·(simp only [go_sem, *];try rfl)
  ·(simp only [go_sem, *];try rfl)
  ·(simp only [go_sem, *];try rfl)
  ·(simp only [go_sem, *];try rfl)
  ·(simp only [go_sem, *];try rfl)
  ·simp [fG,eX,bG,AV.cells]
 intro hr
 have hp:=HP.out
 rw [hr,aE] at hp
 subst hr
 simp only [putA]
 refine l6 S.length (es':=qD) ss ((hp.symm.map (fG 147)).append_left jt) ss ?_
 clear hp HI HP
 repeat' ((fail_if_success (apply bW 20));first | refine st ?_ | (refine br ?_ ?_<;>intro hb) | fail)
 refine fT HO.out 2 [1,2,3,4] rfl ss ss ?_ ?_
 ·have l1:=gH.lts xN
  (simp only [go_sem, *];try rfl)
 simp only [cy,co]
 simp only [qD,jt,jZ,lx,gM,n9,fA,mC,lr,vQ,fG,eX,AV.cells,bG,aA,aC,cU,cz,ba]
 have hput:=Cb w0
 have hwk:=hZ
 have hone:=fun S' g=>zY w0 S' g [] rfl (fun _=>rfl)
 have heach:=Fv w0
 unfold eX at hone
 unfold qW at heach
 have hone2:=fun S' n=>zY w0 S' 158 [.pro [.int .i64 n]] rfl (fun _=>rfl)
 unfold eX at hone2
 repeat' ((fail_if_success (apply bX 112 rfl));first | refine st ?_ | (refine ca ?_;first | apply hone | apply heach | (apply hput;(iterate 5 (· simp only [go_sem, *];try rfl))) | apply hone2) | (refine br ?_ ?_<;>intro hb) | apply cR | apply fO | fail)
 refine l7 (t:=18) (a:=S.length+2) (o:=0) ss ss ?_
 simp only [fN]
 repeat' ((fail_if_success (apply bX 113 rfl));first | refine st ?_ | (refine br ?_ ?_<;>intro hb) | fail)
 repeat' ((fail_if_success (apply bX 112 rfl));first | refine st ?_ | (refine ca ?_;first | apply hone | apply heach | (apply hput;(iterate 5 (· simp only [go_sem, *];try rfl))) | apply hone2) | (refine br ?_ ?_<;>intro hb) | apply cR | apply fO | fail)
 refine l7 (t:=18) (a:=S.length+3) (o:=0) ss ss ?_
 simp only [fN]
 repeat' ((fail_if_success (apply bX 113 rfl));first | refine st ?_ | (refine br ?_ ?_<;>intro hb) | fail)
 repeat' ((fail_if_success (apply bX 145 rfl));first | refine st ?_ | (refine ca ?_;first | apply hone | apply heach | (apply hput;(iterate 5 (· simp only [go_sem, *];try rfl))) | apply hone2) | (refine br ?_ ?_<;>intro hb) | apply cR | apply fO | fail)
 refine l7 (t:=20) (a:=S.length+4) (o:=0) ss ss ?_
 simp only [fN]
 repeat' ((fail_if_success (apply bX 146 rfl));first | refine st ?_ | (refine br ?_ ?_<;>intro hb) | fail)
 repeat' ((fail_if_success (apply bX 145 rfl));first | refine st ?_ | (refine ca ?_;first | apply hone | apply heach | (apply hput;(iterate 5 (· simp only [go_sem, *];try rfl))) | apply hone2) | (refine br ?_ ?_<;>intro hb) | apply cR | apply fO | fail)
 refine l7 (t:=20) (a:=S.length+5) (o:=0) ss ss ?_
 simp only [fN]
 repeat' ((fail_if_success (apply bX 146 rfl));first | refine st ?_ | (refine br ?_ ?_<;>intro hb) | fail)
 repeat' first | refine st ?_ | (refine ca ?_;first | apply hone | apply heach | (apply hput;(iterate 5 (· simp only [go_sem, *];try rfl))) | apply hone2) | (refine br ?_ ?_<;>intro hb) | apply cR | apply fO | fail
 refine fR Tryz.results75 ?_
 exact H.out
def fZ (n m:Int):Ac:=⟨39,n,m,0,0,[]⟩
def pw (n k c:Int):Ac:=⟨39,n,0,k,c,[]⟩
def AA (v:Int):Option Ac :=
 if v=0 then some (fZ 0 0) else if v=1 then some (fZ 1 1) else if v=2 then some (fZ 1 2) else if v=3 then some (fZ 1 4) else if v=4 then some (fZ 3 1) else if v=5∨v=6 then some (fZ 1 8)
 else if v=7 then some (fZ 1 16) else if v=8 then some (fZ 1 32) else if v=9 then some (fZ 1 64) else if v=53 then some (fZ 1 128)
 else if v=22 then some (fZ 2 3) else if v=23 then some (fZ 2 4) else if v=25 then some (fZ 2 8) else if v=27 then some (fZ 2 16) else if v=28 then some (fZ 2 32) else if v=29 then some (fZ 2 64) else if v=55 then some (fZ 2 128)
 else if v=21 then some (fZ 3 2) else if v=24 then some (fZ 3 0) else if v=39 then some (fZ 4 0) else if v=49 then some (fZ 5 0) else if v=59 then some (fZ 6 0)
 else if 30≤v∧v≤37 then some (pw 4 1 (v - 30)) else if 40≤v∧v≤47 then some (pw 5 1 (v - 40)) else if 90≤v∧v≤97 then some (pw 4 1 (v - 82)) else if 100≤v∧v≤107 then some (pw 5 1 (v - 92)) else none
def yk (v:Int):Option Int:=if v=38 then some 4 else if v=48 then some 5 else if v=58 then some 6 else none
def FQ (l:List Int):Bool:=l.all fun n=>decide (0≤n)&&decide (n≤255)
def mV (n how:Int) (l:List Int):Option Ac :=
 if FQ l=false then none else if how=5∧l.length=1 then some (pw n 1 (l.getD 0 0)) else if how=2∧l.length=3 then some (pw n 2 (l.getD 0 0 * 65536+l.getD 1 0 * 256+l.getD 2 0)) else none
def uR (s:List Int):Option Ac :=
 if max 0 (s.getD 0 0)=4∧s.length=2 then (if 0≤s.getD 1 0∧s.getD 1 0≤5 then some (fZ 3 (s.getD 1 0)) else none)
 else match yk (max 0 (s.getD 0 0)) with
  | none=>none
  | some n=>if s.length=6∧s.getD 1 0=2 then mV n 2 (s.drop 3) else if 2<s.length then mV n (s.getD 1 0) (s.drop 2) else none
def Cs:List (List Int)→List Int
 | [n]::r=>max 0 n::Cs r
 | _=>[]
def lM (l:List (List Int)):Option Ac × Nat :=
 match Cs l with
 | []=>(uR (l.headD []),1)
 | v::r=>match yk v,r with
  | some n,h::t =>
   if h=5 then (if 1≤t.length then (mV n 5 (t.take 1),3) else (none,min 3 l.length))
   else if h=2 then (if 3≤t.length then (mV n 2 (t.take 3),5) else (none,min 5 l.length))
   else (AA v,1)
  | _,_=>(AA v,1)
def qf:Nat→List (List Int)→List Ac
 | 0,_=>[]
 | k+1,l=>if l=[] then [] else (lM l).1.toList++qf k (l.drop (lM l).2)
def mj (l:List (List Int)):List Ac:=if l=[] then [fZ 0 0] else qf l.length l
def im (q:Sq) (l:List (List Int)):List Ac :=
 match q with
 | .cnt k=>[dr k (kM l) 0]
 | .first k=>[dr k (dV l 0 0) 0]
 | .way k n=>[dr k n (kM l)]
 | .cursor=>[dr 19 (kM l) (max 1 (dV l 1 0))]
 | .modes k bit=>(bC (max 1 l.length)).map fun (i:Nat)=>dr k (dV l (i:Int) 0) bit
 | .ask n=>if dV l 0 0=0 then [dr 42 n 0] else []
 | .margins=>[dr 38 (dV l 0 0) (dV l 1 0)]
 | .const k=>[dr k 0 0]
 | .pens=>mj l
 | .shape=>[dr 40 (dV l 0 0) 0]
 | .askMode n=>[dr 43 (dV l 0 0) n]
def zO (e:Ev):List Ac:=match nK ⟨e.priv,e.inter,e.fin⟩ with
 | some q=>im q e.pars
 | none=>[]
def ue (e:Ev):List Ac :=
 if e.kind=1 then [dr 1 e.code 0] else if e.kind=2 then (zN e.code).toList else if e.kind=3 then (zA ⟨0,e.inter,e.fin⟩).toList
 else if e.kind=4 then zO e else if e.kind=5 then (ek e.text).toList else []
def xV (e:Ev):List Ac:=if li e then (ue e).filter gv else []
theorem Ad (a:Ac):a.av.plain=true:=rfl
@[go_sem] theorem Ac.plainL (l:List Ac):plainL (l.map Ac.av)=true:=ej Ad l
@[go_sem] theorem Ac.ltL (l:List Ac) (n:Nat):Go.Fen.ltL n (l.map Ac.av)=true:=cw.2 fun x hx=>by obtain⟨y,_,rfl⟩:=aH.1 hx;rfl
@[go_sem] theorem Ac.ok (l:List Ac):cC 6 (l.map Ac.av)=true:=by
 unfold cC;rw [aq];intro x hx;obtain⟨y,_,rfl⟩:=aH.1 hx;rfl
theorem Gj (v:Int):(if (1:Int)<v then v else 1)=max 1 v:=by split<;>omega
theorem q4 (w0:World) (S:List ax) (l:List (List Int)) (k:Int) (R:Rt) (h:R (.ret (bG k (kM l) 0)) S):ao Tryz.prog w0 143 [.sval false (l.map dE),.pro [.int .i64 k]] S R:=by
 have hac:=uf w0
 have hf:=fun S'=>g_ w0 S' l
 have hs:=fun S'=>gP w0 S' l
 have hc:=fun S'=>fB w0 S' l
 unfold bG at h
 generalize kM l=c at h hc
 have H:=ae h
 clear h
 refine eN Tryz.func143 rfl Tryz.ntmps143 fun hO=>?_
 repeat' ((fail_if_success (apply bW 1));first | refine st ?_ | (refine br ?_ ?_<;>intro hb) | fail)
 refine eY (n:=5) mixed rfl ?_;refine tS 4 1 rfl (by decide +kernel) (by decide +kernel) (by decide +kernel) ?_
 repeat' first | refine st ?_ | (refine ca ?_;first | apply hac | apply hf | apply hs | apply hc) | (refine br ?_ ?_<;>intro hb) | refine sd ?_ | apply aB | (apply aL;(· decide +kernel)) | refine bd ?_ ?_ | (refine cd ?_;first | apply hac | apply hf | apply hs | apply hc) | refine sq ?_ | (apply oK;(iterate 2 (· simp only [go_sem, *];try rfl));(· rfl);(· simp only [go_sem, *];try rfl);(· rfl);(· rfl);(· simp only [go_sem, *];try rfl);(· intro R hR;(first | apply hac | apply hf | apply hs | apply hc);exact hR)) | (refine bq ?_ ?_;all_goals (intro hb;try simp only [az,aG] at hb)) | fail
 refine fR Tryz.results143 ?_
 exact H.out
theorem q5 (w0:World) (S:List ax) (l:List (List Int)) (k:Int) (R:Rt) (h:R (.ret (bG k (dV l 0 0) 0)) S):ao Tryz.prog w0 145 [.sval false (l.map dE),.pro [.int .i64 k]] S R:=by
 have hac:=uf w0
 have hf:=fun S'=>g_ w0 S' l
 have hs:=fun S'=>gP w0 S' l
 have hc:=fun S'=>fB w0 S' l
 unfold bG at h
 have H:=ae h
 clear h
 refine eN Tryz.func145 rfl Tryz.ntmps145 fun hO=>?_
 repeat' ((fail_if_success (apply bW 1));first | refine st ?_ | (refine br ?_ ?_<;>intro hb) | fail)
 refine eY (n:=5) mixed rfl ?_;refine tS 4 1 rfl (by decide +kernel) (by decide +kernel) (by decide +kernel) ?_
 repeat' first | refine st ?_ | (refine ca ?_;first | apply hac | apply hf | apply hs | apply hc) | (refine br ?_ ?_<;>intro hb) | refine sd ?_ | apply aB | (apply aL;(· decide +kernel)) | refine bd ?_ ?_ | (refine cd ?_;first | apply hac | apply hf | apply hs | apply hc) | refine sq ?_ | (apply oK;(iterate 2 (· simp only [go_sem, *];try rfl));(· rfl);(· simp only [go_sem, *];try rfl);(· rfl);(· rfl);(· simp only [go_sem, *];try rfl);(· intro R hR;(first | apply hac | apply hf | apply hs | apply hc);exact hR)) | (refine bq ?_ ?_;all_goals (intro hb;try simp only [az,aG] at hb)) | fail
 refine fR Tryz.results145 ?_
 exact H.out
theorem q6 (w0:World) (S:List ax) (l:List (List Int)) (k n:Int) (R:Rt) (h:R (.ret (bG k n (kM l))) S):ao Tryz.prog w0 147 [.sval false (l.map dE),.pro [.int .i64 k,.int .i64 n,.int .i64 0,.int .i64 0,.int .i64 0,.str []]] S R:=by
 have hac:=uf w0
 have hf:=fun S'=>g_ w0 S' l
 have hs:=fun S'=>gP w0 S' l
 have hc:=fun S'=>fB w0 S' l
 unfold bG at h
 generalize kM l=c at h hc
 have H:=ae h
 clear h
 refine eN Tryz.func147 rfl Tryz.ntmps147 fun hO=>?_
 repeat' ((fail_if_success (apply bW 1));first | refine st ?_ | (refine br ?_ ?_<;>intro hb) | fail)
 refine eY (n:=8) mixed rfl ?_;refine tS 7 1 rfl (by decide +kernel) (by decide +kernel) (by decide +kernel) ?_
 repeat' first | refine st ?_ | (refine ca ?_;first | apply hac | apply hf | apply hs | apply hc) | (refine br ?_ ?_<;>intro hb) | refine sd ?_ | apply aB | (apply aL;(· decide +kernel)) | refine bd ?_ ?_ | (refine cd ?_;first | apply hac | apply hf | apply hs | apply hc) | refine sq ?_ | (apply oK;(iterate 2 (· simp only [go_sem, *];try rfl));(· rfl);(· simp only [go_sem, *];try rfl);(· rfl);(· rfl);(· simp only [go_sem, *];try rfl);(· intro R hR;(first | apply hac | apply hf | apply hs | apply hc);exact hR)) | (refine bq ?_ ?_;all_goals (intro hb;try simp only [az,aG] at hb)) | fail
 refine fR Tryz.results147 ?_
 exact H.out
theorem q7 (w0:World) (S:List ax) (l:List (List Int)) (R:Rt) (h:R (.ret (bG 19 (kM l) (max 1 (dV l 1 0)))) S):ao Tryz.prog w0 148 [.sval false (l.map dE)] S R:=by
 have hac:=uf w0
 have hf:=fun S'=>g_ w0 S' l
 have hs:=fun S'=>gP w0 S' l
 have hc:=fun S'=>fB w0 S' l
 unfold bG at h
 generalize kM l=c at h hc
 rw [← Gj] at h
 obtain⟨v,hv⟩:∃ v,(if (1:Int)<dV l 1 0 then dV l 1 0 else 1)=v:=⟨_,rfl⟩
 rw [hv] at h
 have H:=ae h
 clear h
 refine eN Tryz.func148 rfl Tryz.ntmps148 fun hO=>?_
 repeat' first | refine st ?_ | (refine ca ?_;first | apply hac | apply hf | apply hs | apply hc) | (refine br ?_ ?_<;>intro hb) | fail
 refine fR Tryz.results148 ?_
 exact H.out
theorem q9 (w0:World) (S:List ax) (l:List (List Int)) (R:Rt) (h:R (.ret (bG 38 (dV l 0 0) (dV l 1 0))) S):ao Tryz.prog w0 151 [.sval false (l.map dE)] S R:=by
 have hac:=uf w0
 have hf:=fun S'=>g_ w0 S' l
 have hs:=fun S'=>gP w0 S' l
 have hc:=fun S'=>fB w0 S' l
 unfold bG at h
 have H:=ae h
 clear h
 refine eN Tryz.func151 rfl Tryz.ntmps151 fun hO=>?_
 repeat' first | refine st ?_ | (refine ca ?_;first | apply hac | apply hf | apply hs | apply hc) | (refine br ?_ ?_<;>intro hb) | fail
 refine fR Tryz.results151 ?_
 exact H.out
theorem J4 (w0:World) (S:List ax) (l:List (List Int)) (R:Rt) (h:R (.ret (bG 12 0 0)) S):ao Tryz.prog w0 152 [.sval false (l.map dE)] S R:=by
 have hac:=uf w0
 have hf:=fun S'=>g_ w0 S' l
 have hs:=fun S'=>gP w0 S' l
 have hc:=fun S'=>fB w0 S' l
 unfold bG at h
 have H:=ae h
 clear h
 refine eN Tryz.func152 rfl Tryz.ntmps152 fun hO=>?_
 repeat' first | refine st ?_ | (refine ca ?_;first | apply hac | apply hf | apply hs | apply hc) | (refine br ?_ ?_<;>intro hb) | fail
 refine fR Tryz.results152 ?_
 exact H.out
theorem J3 (w0:World) (S:List ax) (l:List (List Int)) (R:Rt) (h:R (.ret (bG 13 0 0)) S):ao Tryz.prog w0 153 [.sval false (l.map dE)] S R:=by
 have hac:=uf w0
 have hf:=fun S'=>g_ w0 S' l
 have hs:=fun S'=>gP w0 S' l
 have hc:=fun S'=>fB w0 S' l
 unfold bG at h
 have H:=ae h
 clear h
 refine eN Tryz.func153 rfl Tryz.ntmps153 fun hO=>?_
 repeat' first | refine st ?_ | (refine ca ?_;first | apply hac | apply hf | apply hs | apply hc) | (refine br ?_ ?_<;>intro hb) | fail
 refine fR Tryz.results153 ?_
 exact H.out
theorem J1 (w0:World) (S:List ax) (l:List (List Int)) (R:Rt) (h:R (.ret (bG 40 (dV l 0 0) 0)) S):ao Tryz.prog w0 156 [.sval false (l.map dE)] S R:=by
 have hac:=uf w0
 have hf:=fun S'=>g_ w0 S' l
 have hs:=fun S'=>gP w0 S' l
 have hc:=fun S'=>fB w0 S' l
 unfold bG at h
 have H:=ae h
 clear h
 refine eN Tryz.func156 rfl Tryz.ntmps156 fun hO=>?_
 repeat' first | refine st ?_ | (refine ca ?_;first | apply hac | apply hf | apply hs | apply hc) | (refine br ?_ ?_<;>intro hb) | fail
 refine fR Tryz.results156 ?_
 exact H.out
theorem J0 (w0:World) (S:List ax) (l:List (List Int)) (R:Rt) (h:R (.ret (bG 15 0 0)) S):ao Tryz.prog w0 157 [.sval false (l.map dE)] S R:=by
 have hac:=uf w0
 have hf:=fun S'=>g_ w0 S' l
 have hs:=fun S'=>gP w0 S' l
 have hc:=fun S'=>fB w0 S' l
 unfold bG at h
 have H:=ae h
 clear h
 refine eN Tryz.func157 rfl Tryz.ntmps157 fun hO=>?_
 repeat' first | refine st ?_ | (refine ca ?_;first | apply hac | apply hf | apply hs | apply hc) | (refine br ?_ ?_<;>intro hb) | fail
 refine fR Tryz.results157 ?_
 exact H.out
theorem JZ (w0:World) (S:List ax) (l:List (List Int)) (n:Int) (R:Rt) (h:R (.ret (bG 43 (dV l 0 0) n)) S):ao Tryz.prog w0 158 [.sval false (l.map dE),.pro [.int .i64 n]] S R:=by
 have hac:=uf w0
 have hf:=fun S'=>g_ w0 S' l
 have hs:=fun S'=>gP w0 S' l
 have hc:=fun S'=>fB w0 S' l
 unfold bG at h
 have H:=ae h
 clear h
 refine eN Tryz.func158 rfl Tryz.ntmps158 fun hO=>?_
 repeat' ((fail_if_success (apply bW 1));first | refine st ?_ | (refine br ?_ ?_<;>intro hb) | fail)
 refine eY (n:=5) mixed rfl ?_;refine tS 4 1 rfl (by decide +kernel) (by decide +kernel) (by decide +kernel) ?_
 repeat' first | refine st ?_ | (refine ca ?_;first | apply hac | apply hf | apply hs | apply hc) | (refine br ?_ ?_<;>intro hb) | refine sd ?_ | apply aB | (apply aL;(· decide +kernel)) | refine bd ?_ ?_ | (refine cd ?_;first | apply hac | apply hf | apply hs | apply hc) | refine sq ?_ | (apply oK;(iterate 2 (· simp only [go_sem, *];try rfl));(· rfl);(· simp only [go_sem, *];try rfl);(· rfl);(· rfl);(· simp only [go_sem, *];try rfl);(· intro R hR;(first | apply hac | apply hf | apply hs | apply hc);exact hR)) | (refine bq ?_ ?_;all_goals (intro hb;try simp only [az,aG] at hb)) | fail
 refine fR Tryz.results158 ?_
 exact H.out
theorem qb (w0:World) (S:List ax) (l:List (List Int)) (g:FuncId) (k n m:Int) (hg:∀ (S':List ax) (R:Rt),R (.ret (bG k n m)) S'→ao Tryz.prog w0 g [.sval false (l.map dE)] S' R) (R:Rt) (h:R (.ret (.sval false [bG k n m])) S):ao Tryz.prog w0 139 [.sval false (l.map dE),.pro [.fn (.func g) [] []]] S R:=by
 unfold bG at hg h
 refine eN Tryz.func139 rfl Tryz.ntmps139 fun hO=>?_
 repeat' first | refine st ?_ | (refine ca ?_;apply hg) | (refine br ?_ ?_<;>intro hb) | fail
 refine fR Tryz.results139 ?_
 exact h
theorem yR (w0:World) (S:List ax) (l:List (List Int)) (g:FuncId) (a:Int) (k n m:Int) (hg:∀ (S':List ax) (R:Rt),R (.ret (bG k n m)) S'→ao Tryz.prog w0 g [.sval false (l.map dE),.pro [.int .i64 a]] S' R) (R:Rt) (h:R (.ret (.sval false [bG k n m])) S):ao Tryz.prog w0 139 [.sval false (l.map dE),.pro [.fn (.func g) [] [.pro [.int .i64 a]]]] S R:=by
 unfold bG at hg h
 refine eN Tryz.func139 rfl Tryz.ntmps139 fun hO=>?_
 repeat' first | refine st ?_ | (refine ca ?_;apply hg) | (refine br ?_ ?_<;>intro hb) | fail
 refine fR Tryz.results139 ?_
 exact h
theorem EH (w0:World) (S:List ax) (l:List (List Int)) (g:FuncId) (a b:Int) (k n m:Int) (hg:∀ (S':List ax) (R:Rt),R (.ret (bG k n m)) S'→ao Tryz.prog w0 g [.sval false (l.map dE),.pro [.int .i64 a,.int .i64 b,.int .i64 0,.int .i64 0,.int .i64 0,.str []]] S' R) (R:Rt) (h:R (.ret (.sval false [bG k n m])) S):ao Tryz.prog w0 139 [.sval false (l.map dE),.pro [.fn (.func g) [] [.pro [.int .i64 a,.int .i64 b,.int .i64 0,.int .i64 0,.int .i64 0,.str []]]]] S R:=by
 unfold bG at hg h
 refine eN Tryz.func139 rfl Tryz.ntmps139 fun hO=>?_
 repeat' first | refine st ?_ | (refine ca ?_;apply hg) | (refine br ?_ ?_<;>intro hb) | fail
 refine fR Tryz.results139 ?_
 exact h
theorem q8 (w0:World) (S:List ax) (l:List (List Int)) (n:Int) (R:Rt) (h:R (.ret (.sval false ((im (.ask n) l).map Ac.av))) S):ao Tryz.prog w0 150 [.sval false (l.map dE),.pro [.int .i64 n]] S R:=by
 have hac:=uf w0
 have hf:=fun S'=>g_ w0 S' l
 unfold im at h
 by_cases hz:dV l 0 0=0
 ·simp only [hz,if_true,aA,aC,gi,bG] at h
  rw [hz] at hf
  clear hz
  refine eN Tryz.func150 rfl Tryz.ntmps150 fun hO=>?_
  repeat' first | refine st ?_ | (refine ca ?_;first | apply hac | apply hf) | (refine br ?_ ?_<;>intro hb) | fail
  refine fR Tryz.results150 ?_
  exact h
 ·simp only [hz,if_false,aC] at h
  have hb:(dV l 0 0 != 0)=true:=by simpa using hz
  clear hz
  refine eN Tryz.func150 rfl Tryz.ntmps150 fun hO=>?_
  repeat' first | refine st ?_ | (refine ca ?_;first | apply hac | apply hf) | (refine br ?_ ?_<;>intro hb) | fail
  refine fR Tryz.results150 ?_
  exact h
theorem JY (w0:World) (S:List ax) (l:List (List Int)) (k b:Int) (hl:l.length≤100000) (R:Rt) (h:R (.ret (.sval false ((im (.modes k b) l).map Ac.av))) S):ao Tryz.prog w0 141 [.sval false (l.map dE),.pro [.int .i64 k],.pro [.int .i64 b]] S R:=by
 have hac:=uf w0
 unfold im at h
 simp only [Ag,aN,gi] at h
 have hv:=fun (i:Nat) S' R h=>(mQ w0 S' l (i:Int) 0 R h).1
 obtain⟨n,hn⟩:∃ n,max 1 l.length=n:=⟨_,rfl⟩
 rw [hn] at h
 have hm:(if (1:Int)<(l.length:Int) then (l.length:Int) else 1)=(n:Int):=by subst hn;split<;>omega
 have hn2:n≤100001:=by omega
 have H:=ae h
 clear h hl hn
 refine eN Tryz.func141 rfl Tryz.ntmps141 fun hO=>?_
 repeat' first | refine st ?_ | (refine br ?_ ?_<;>intro hb) | fail
 refine uy (t:=4) (e:=25) (sz:=6) ss (by decide) ?_
 refine eJ (fun (j:Nat) env S'=>j≤n∧env 1000000=.dfr []∧env 0=.sval false (l.map dE)∧env 1=.pro [.int .i64 k]∧env 2=.pro [.int .i64 b]∧env 4=.sown S.length j j∧env 8=.int .i64 (n:Int)∧env 9=.int .i64 (j:Int)∧S'=S++[.arr 25 6 0 j ((bC j).map fun (i:Nat)=>bG k (dV l (i:Int) 0) b)]) (fun j=>n - j) 0 ?_ ?_
 ·exact⟨bx _,ss,ss,ss,ss,ss,ss,ss,rfl⟩
 ·rintro j env S' ⟨hj,e0,f0,f1,f2,f4,f8,f9,rfl⟩ IH
  have HI:=ae IH
  clear IH
  have hok:cC 6 ((bC j).map fun (i:Nat)=>bG k (dV l (i:Int) 0) b)=true:=by
   unfold cC;rw [aq];intro x hx;obtain⟨y,_,rfl⟩:=aH.1 hx;rfl
  have hlt2:∀ m,Go.Fen.ltL m ((bC j).map fun (i:Nat)=>bG k (dV l (i:Int) 0) b)=true:=fun m=>cw.2 fun x hx=>by obtain⟨y,_,rfl⟩:=aH.1 hx;rfl
  have hpl:plainL ((bC j).map fun (i:Nat)=>bG k (dV l (i:Int) 0) b)=true:=ej (fun _=>rfl) _
  have hle:((bC j).map fun (i:Nat)=>bG k (dV l (i:Int) 0) b).length=j:=by simp
  have Hsu:pK (((bC (j+1)).map fun (i:Nat)=>bG k (dV l (i:Int) 0) b)=((bC j).map fun (i:Nat)=>bG k (dV l (i:Int) 0) b)++[bG k (dV l (j:Int) 0) b]):=ae (by rw [List.range_succ,bg];rfl)
  generalize hL:((bC j).map fun (i:Nat)=>bG k (dV l (i:Int) 0) b)=L at hok hlt2 hpl hle Hsu ⊢
  by_cases hlt:j<n
  ·have h1:decide ((j:Int)<(n:Int))=true:=by simpa using hlt
   have hw:af.wrap ((j:Int)+1)=((j+1:Nat):Int):=by rw [au _ (by omega)];omega
   have hb:(j+1) * 56≤140737488355328:=by omega
   have hvj:=hv j
   have Hlt:=ae hlt
   clear hlt hj hv hL hm hn2
   repeat' first | refine st ?_ | (refine ca ?_;first | apply hac | apply hvj) | (refine br ?_ ?_<;>intro hb) | refine sd ?_ | apply aB | (apply aL;(· decide +kernel)) | refine bd ?_ ?_ | (refine cd ?_;first | apply hac | apply hvj) | fail
   refine fT hO 1 [0,1,2,4,8,9] rfl ss ss ?_ ?_
   ·(simp only [go_sem, *];try rfl)
   simp only [cy,co]
   refine HI.out (j+1) _ _ (by have:=Hlt.out;omega) ⟨Hlt.out, ?_, ?_, ?_, ?_, ?_, ?_, ?_, ?_⟩
   ·(simp only [go_sem, *];try rfl)
   ·(simp only [go_sem, *];try rfl)
   ·(simp only [go_sem, *];try rfl)
   ·(simp only [go_sem, *];try rfl)
   ·(simp only [go_sem, *];try rfl)
   ·(simp only [go_sem, *];try rfl)
   ·(simp only [go_sem, *];try rfl)
   ·rw [Hsu.out];rfl
  ·have h1:decide ((j:Int)<(n:Int))=false:=by simpa using hlt
   have hje:j=n:=by omega
   subst hje
   have H2:=H.out
   rw [hL] at H2
   clear hlt hj hv hL hm hn2 HI H
   repeat' first | refine st ?_ | (refine br ?_ ?_<;>intro hb) | fail
   refine fE Tryz.results141 ?_
   exact H2
def si (w0:World):Prop:=∀ (S:List ax) (l:List (List Int)),eo l=true→∀ (R:Rt),R (.ret (.tup [.sval false ((mj l).map Ac.av),.int .i64 0])) S→ao Tryz.prog w0 155 [.sval false (l.map dE)] S R
theorem tG (c:Int):∀ l:List (Int × Ac),(l.map fun p=>((.int .i64 p.1:AV),p.2.av)).find? (fun e=>jb (.int .i64 c) e.1)=(l.find? fun p=>c==p.1).map fun p=>((.int .i64 p.1:AV),p.2.av)
 | []=>rfl
 | p::l=>by
  rw [aA,ji,ji,tG c l]
  show (match c==p.1 with | true=>_ | false=>_)=_
  cases c==p.1<;>rfl
theorem CQ (a b:Wy):jb a.av b.av=(a==b):=by
 obtain⟨p,i,f⟩:=a
 obtain⟨p',i',f'⟩:=b
 rw [dX]
 simp only [Wy.av,jb,oW,pW,aj,beq_iff_eq,Wy.mk.injEq,and_true,Int.ofNat_inj,Int.natCast_inj]
theorem rN {α:Type} (f:α→AV) (w:Wy):∀ l:List (Wy × α),(l.map fun p=>(p.1.av,f p.2)).find? (fun e=>jb w.av e.1)=(l.find? fun p=>w==p.1).map fun p=>(p.1.av,f p.2)
 | []=>rfl
 | p::l=>by
  rw [aA,ji,ji,rN f w l,CQ]
  cases w==p.1<;>rfl
theorem yj (w:Wy):dW Tryz.prog 140 w.av=true:=hZ _ _ _
theorem xH (c:Int):(rm.find? (fun e=>jb (.int .i64 c) e.1)=(xI.find? fun p=>c==p.1).map fun p=>((.int .i64 p.1:AV),p.2.av))∧rm.all (fun e=>dW Tryz.prog 3 e.1)=true:=by
 constructor
 ·exact tG c xI
 ·unfold rm
  rw [be]
  exact aq.2 fun p _=>by simp only [dW,aN,go_sem]
theorem xz (w:Wy):(BQ.find? (fun e=>jb w.av e.1)=(xA.find? fun p=>w==p.1).map fun p=>(p.1.av,p.2.av))∧BQ.all (fun e=>dW Tryz.prog 140 e.1)=true:=by
 constructor
 ·exact rN Ac.av w xA
 ·unfold BQ
  rw [be]
  exact aq.2 fun p _=>yj _
theorem wS (w:Wy):(AC.find? (fun e=>jb w.av e.1)=(uH.find? fun p=>w==p.1).map fun p=>(p.1.av,qW p.2))∧AC.all (fun e=>dW Tryz.prog 140 e.1)=true:=by
 constructor
 ·exact rN qW w uH
 ·unfold AC
  rw [be]
  exact aq.2 fun p _=>yj _
theorem lN {α β:Type} (f:α × β→Bool) (l:List (α × β)):l.find? f=none∨∃ j a,l.find? f=some (j,a):=by
 cases l.find? f with
 | none=>exact .inl rfl
 | some q=>exact .inr ⟨q.1,q.2,rfl⟩
theorem FA (w0:World) (S:List ax) (c:Int) (pr fi:Nat) (pars:List (List Int)) (it tx:List UInt8) (R:Rt) (h:R (.ret (.sval false ([dr 1 c 0].map Ac.av))) S):ao Tryz.prog w0 34 [.agg [.int .i64 1,.int .i64 c,.int .u8 pr,.int .u8 fi,.sval false (pars.map dE),.str it,.str tx]] S R:=by
 have hac:=uf w0
 simp only [aA,aC,gi,bG] at h
 refine eN Tryz.func34 rfl Tryz.ntmps34 fun hO=>?_
 repeat' first | refine st ?_ | (refine ca ?_;apply hac) | (refine br ?_ ?_<;>intro hb) | fail
 all_goals refine fR Tryz.results34 ?_
 all_goals exact h
theorem Fz (w0:World) (S:List ax) (c:Int) (pr fi:Nat) (pars:List (List Int)) (it tx:List UInt8) (R:Rt) (h:R (.ret (.sval false ((zN c).toList.map Ac.av))) S):ao Tryz.prog w0 34 [.agg [.int .i64 2,.int .i64 c,.int .u8 pr,.int .u8 fi,.sval false (pars.map dE),.str it,.str tx]] S R:=by
 have hp:=Ef w0
 obtain⟨hf,ha⟩:=xH c
 unfold zN at h
 rcases lN (fun p=>c==p.1) xI with hl | ⟨j,a,hl⟩
 ·rw [hl] at hf h
  simp only [pF,lY,aC] at hf h
  simp only [go_sem] at hf ha
  clear hl
  refine eN Tryz.func34 rfl Tryz.ntmps34 fun hO=>?_
  repeat' first | refine st ?_ | (refine ca ?_;apply hp) | (refine br ?_ ?_<;>intro hb) | refine sd ?_ | refine sx ?_ | apply aB | (apply aL;(· decide +kernel)) | refine bd ?_ ?_ | (refine cd ?_;apply hp) | fail
  all_goals refine fR Tryz.results34 ?_
  all_goals exact h
 ·rw [hl] at hf h
  obtain⟨k1,k2,k3,k4,k5,k6⟩:=a
  simp only [cu,iK,aA,aC,Ac.av] at hf h
  simp only [go_sem] at hf ha
  clear hl
  refine eN Tryz.func34 rfl Tryz.ntmps34 fun hO=>?_
  repeat' first | refine st ?_ | (refine ca ?_;apply hp) | (refine br ?_ ?_<;>intro hb) | refine sd ?_ | refine sx ?_ | apply aB | (apply aL;(· decide +kernel)) | refine bd ?_ ?_ | (refine cd ?_;apply hp) | fail
  all_goals refine fR Tryz.results34 ?_
  all_goals exact h
theorem Fy (w0:World) (S:List ax) (c:Int) (pr fi:Nat) (pars:List (List Int)) (it tx:List UInt8) (R:Rt) (h:R (.ret (.sval false ((zA ⟨0,it,fi⟩).toList.map Ac.av))) S):ao Tryz.prog w0 34 [.agg [.int .i64 3,.int .i64 c,.int .u8 pr,.int .u8 fi,.sval false (pars.map dE),.str it,.str tx]] S R:=by
 have hp:=z6 w0
 obtain⟨hf,ha⟩:=xz ⟨0,it,fi⟩
 unfold zA at h
 rcases lN (fun p=>(⟨0,it,fi⟩:Wy)==p.1) xA with hl | ⟨j,a,hl⟩
 ·rw [hl] at hf h
  simp only [pF,lY,aC] at hf h
  simp only [Wy.av,ba,go_sem] at hf ha
  clear hl
  refine eN Tryz.func34 rfl Tryz.ntmps34 fun hO=>?_
  repeat' first | refine st ?_ | (refine ca ?_;apply hp) | (refine br ?_ ?_<;>intro hb) | refine sd ?_ | refine sx ?_ | apply aB | (apply aL;(· decide +kernel)) | refine bd ?_ ?_ | (refine cd ?_;apply hp) | fail
  all_goals refine fR Tryz.results34 ?_
  all_goals exact h
 ·rw [hl] at hf h
  obtain⟨k1,k2,k3,k4,k5,k6⟩:=a
  simp only [cu,iK,aA,aC,Ac.av] at hf h
  simp only [Wy.av,ba,go_sem] at hf ha
  clear hl
  refine eN Tryz.func34 rfl Tryz.ntmps34 fun hO=>?_
  repeat' first | refine st ?_ | (refine ca ?_;apply hp) | (refine br ?_ ?_<;>intro hb) | refine sd ?_ | refine sx ?_ | apply aB | (apply aL;(· decide +kernel)) | refine bd ?_ ?_ | (refine cd ?_;apply hp) | fail
  all_goals refine fR Tryz.results34 ?_
  all_goals exact h
theorem Fw (w0:World) (S:List ax) (c:Int) (pr fi:Nat) (pars:List (List Int)) (it tx:List UInt8) (hQ:jP w0) (ht:tx.length≤8192) (R:Rt) (h:R (.ret (.sval false ((ek tx).toList.map Ac.av))) S):ao Tryz.prog w0 34 [.agg [.int .i64 5,.int .i64 c,.int .u8 pr,.int .u8 fi,.sval false (pars.map dE),.str it,.str tx]] S R:=by
 have hp:=fun S'=>hQ S' tx ht
 cases hl:ek tx with
 | none =>
  rw [hl] at hp h
  simp only [uT,zeroA,Ac.av,lY,aC] at hp h
  clear hl
  refine eN Tryz.func34 rfl Tryz.ntmps34 fun hO=>?_
  repeat' first | refine st ?_ | (refine ca ?_;apply hp) | (refine br ?_ ?_<;>intro hb) | fail
  all_goals refine fR Tryz.results34 ?_
  all_goals exact h
 | some a =>
  rw [hl] at hp h
  obtain⟨k1,k2,k3,k4,k5,k6⟩:=a
  simp only [uT,Ac.av,iK,aA,aC] at hp h
  clear hl
  refine eN Tryz.func34 rfl Tryz.ntmps34 fun hO=>?_
  repeat' first | refine st ?_ | (refine ca ?_;apply hp) | (refine br ?_ ?_<;>intro hb) | fail
  all_goals refine fR Tryz.results34 ?_
  all_goals exact h
theorem FB (k:Int) (h1:(k==1)=false) (h2:(k==2)=false) (h3:(k==3)=false) (h4:(k==4)=false) (h5:(k==5)=false) (w0:World) (S:List ax) (c:Int) (pr fi:Nat) (pars:List (List Int)) (it tx:List UInt8) (R:Rt) (h:R (.ret (.sval false (([]:List Ac).map Ac.av))) S):ao Tryz.prog w0 34 [.agg [.int .i64 k,.int .i64 c,.int .u8 pr,.int .u8 fi,.sval false (pars.map dE),.str it,.str tx]] S R:=by
 simp only [aC] at h
 refine eN Tryz.func34 rfl Tryz.ntmps34 fun hO=>?_
 repeat' first | refine st ?_ | (refine br ?_ ?_<;>intro hb) | fail
 all_goals refine fR Tryz.results34 ?_
 all_goals exact h
theorem tW {w:Wy}{k:Int} (h:nK w=some (.const k)):k=12∨k=13∨k=15:=by
 unfold nK at h
 obtain⟨p,hp,e⟩:=aJ.1 h
 have hm:=gw hp
 have hall:(uH.all fun p=>match p.2 with | .const k=>k==12||(k==13||k==15) | _=>true)=true:=by decide
 have:=aq.1 hall p hm
 rw [e] at this
 simpa using this
theorem J2 (w0:World) (hP:si w0) (S:List ax) (l:List (List Int)) (hl:eo l=true) (R:Rt) (h:R (.ret (.sval false ((mj l).map Ac.av))) S):ao Tryz.prog w0 154 [.sval false (l.map dE)] S R:=by
 have hp:=fun S'=>hP S' l hl
 generalize mj l=x at h hp
 clear hP hl
 refine eN Tryz.func154 rfl Tryz.ntmps154 fun hO=>?_
 repeat' first | refine st ?_ | (refine ca ?_;apply hp) | (refine br ?_ ?_<;>intro hb) | fail
 refine fR Tryz.results154 ?_
 exact h
theorem Fx (w0:World) (S:List ax) (c:Int) (pr fi:Nat) (pars:List (List Int)) (it tx:List UInt8) (hok:eo pars=true) (hP:nK ⟨pr,it,fi⟩=some .pens→si w0) (R:Rt) (h:R (.ret (.sval false ((zO ⟨4,c,pr,fi,pars,it,tx⟩).map Ac.av))) S):ao Tryz.prog w0 34 [.agg [.int .i64 4,.int .i64 c,.int .u8 pr,.int .u8 fi,.sval false (pars.map dE),.str it,.str tx]] S R:=by
 have hp:=Ft w0
 obtain⟨hf,ha⟩:=wS ⟨pr,it,fi⟩
 have hlen:pars.length≤100000:=by
  unfold eo at hok
  simp only [aj,decide_eq_true_eq] at hok
  omega
 have hq:zO ⟨4,c,pr,fi,pars,it,tx⟩=match nK ⟨pr,it,fi⟩ with | some q=>im q pars | none=>[]:=rfl
 have hcc:=fun k=>tW (w:=⟨pr,it,fi⟩) (k:=k)
 rw [hq] at h
 clear hq
 unfold nK at h hP hcc
 rcases lN (fun p=>(⟨pr,it,fi⟩:Wy)==p.1) uH with hl | ⟨j,q,hl⟩
 ·rw [hl] at hf h
  simp only [pF,aC] at hf h
  simp only [Wy.av,ba,go_sem] at hf ha
  clear hl hP hcc hok hlen
  refine eN Tryz.func34 rfl Tryz.ntmps34 fun hO=>?_
  repeat' first | refine st ?_ | (refine ca ?_;apply hp) | (refine br ?_ ?_<;>intro hb) | refine sd ?_ | refine sx ?_ | apply aB | (apply aL;(· decide +kernel)) | refine bd ?_ ?_ | (refine cd ?_;apply hp) | fail
  all_goals refine fR Tryz.results34 ?_
  all_goals exact h
 ·rw [hl] at hf h hP hcc
  simp only [cu] at hf h hP hcc
  clear hl
  cases q with
  | cnt k =>
   have hk:=fun S'=>yR w0 S' pars _ k k (kM pars) 0 (fun S'=>q4 w0 S' pars k)
   simp only [im,aA,aC,gi] at h
   simp only [bG] at h hk
   simp only [Wy.av,ba,qW,eX,go_sem] at hf ha
   clear hP hcc hok hlen
   refine eN Tryz.func34 rfl Tryz.ntmps34 fun hO=>?_
   repeat' first | refine st ?_ | (refine ca ?_;first | apply hp | apply hk) | (refine br ?_ ?_<;>intro hb) | refine sd ?_ | refine sx ?_ | apply aB | (apply aL;(· decide +kernel)) | refine bd ?_ ?_ | (refine cd ?_;first | apply hp | apply hk) | fail
   all_goals refine fR Tryz.results34 ?_
   all_goals exact h
  | first k =>
   have hk:=fun S'=>yR w0 S' pars _ k k (dV pars 0 0) 0 (fun S'=>q5 w0 S' pars k)
   simp only [im,aA,aC,gi] at h
   simp only [bG] at h hk
   simp only [Wy.av,ba,qW,eX,go_sem] at hf ha
   clear hP hcc hok hlen
   refine eN Tryz.func34 rfl Tryz.ntmps34 fun hO=>?_
   repeat' first | refine st ?_ | (refine ca ?_;first | apply hp | apply hk) | (refine br ?_ ?_<;>intro hb) | refine sd ?_ | refine sx ?_ | apply aB | (apply aL;(· decide +kernel)) | refine bd ?_ ?_ | (refine cd ?_;first | apply hp | apply hk) | fail
   all_goals refine fR Tryz.results34 ?_
   all_goals exact h
  | way k n =>
   have hk:=fun S'=>EH w0 S' pars _ k n k n (kM pars) (fun S'=>q6 w0 S' pars k n)
   simp only [im,aA,aC,gi] at h
   simp only [bG] at h hk
   simp only [Wy.av,ba,qW,eX,go_sem] at hf ha
   clear hP hcc hok hlen
   refine eN Tryz.func34 rfl Tryz.ntmps34 fun hO=>?_
   repeat' first | refine st ?_ | (refine ca ?_;first | apply hp | apply hk) | (refine br ?_ ?_<;>intro hb) | refine sd ?_ | refine sx ?_ | apply aB | (apply aL;(· decide +kernel)) | refine bd ?_ ?_ | (refine cd ?_;first | apply hp | apply hk) | fail
   all_goals refine fR Tryz.results34 ?_
   all_goals exact h
  | cursor =>
   have hk:=fun S'=>qb w0 S' pars _ 19 (kM pars) (max 1 (dV pars 1 0)) (fun S'=>q7 w0 S' pars)
   simp only [im,aA,aC,gi] at h
   simp only [bG] at h hk
   simp only [Wy.av,ba,qW,eX,go_sem] at hf ha
   clear hP hcc hok hlen
   refine eN Tryz.func34 rfl Tryz.ntmps34 fun hO=>?_
   repeat' first | refine st ?_ | (refine ca ?_;first | apply hp | apply hk) | (refine br ?_ ?_<;>intro hb) | refine sd ?_ | refine sx ?_ | apply aB | (apply aL;(· decide +kernel)) | refine bd ?_ ?_ | (refine cd ?_;first | apply hp | apply hk) | fail
   all_goals refine fR Tryz.results34 ?_
   all_goals exact h
  | modes k b =>
   have hk:=fun S'=>JY w0 S' pars k b hlen
   simp only [Wy.av,ba,qW,eX,go_sem] at hf ha
   have h:R (.ret (.sval false ((im (.modes k b) pars).map Ac.av))) S:=h
   generalize im (.modes k b) pars=z at h hk
   clear hP hcc hok hlen
   refine eN Tryz.func34 rfl Tryz.ntmps34 fun hO=>?_
   repeat' first | refine st ?_ | (refine ca ?_;first | apply hp | apply hk) | (refine br ?_ ?_<;>intro hb) | refine sd ?_ | refine sx ?_ | apply aB | (apply aL;(· decide +kernel)) | refine bd ?_ ?_ | (refine cd ?_;first | apply hp | apply hk) | fail
   all_goals refine fR Tryz.results34 ?_
   all_goals exact h
  | ask n =>
   have hk:=fun S'=>q8 w0 S' pars n
   simp only [Wy.av,ba,qW,eX,go_sem] at hf ha
   have h:R (.ret (.sval false ((im (.ask n) pars).map Ac.av))) S:=h
   generalize im (.ask n) pars=z at h hk
   clear hP hcc hok hlen
   refine eN Tryz.func34 rfl Tryz.ntmps34 fun hO=>?_
   repeat' first | refine st ?_ | (refine ca ?_;first | apply hp | apply hk) | (refine br ?_ ?_<;>intro hb) | refine sd ?_ | refine sx ?_ | apply aB | (apply aL;(· decide +kernel)) | refine bd ?_ ?_ | (refine cd ?_;first | apply hp | apply hk) | fail
   all_goals refine fR Tryz.results34 ?_
   all_goals exact h
  | margins =>
   have hk:=fun S'=>qb w0 S' pars _ 38 (dV pars 0 0) (dV pars 1 0) (fun S'=>q9 w0 S' pars)
   simp only [im,aA,aC,gi] at h
   simp only [bG] at h hk
   simp only [Wy.av,ba,qW,eX,go_sem] at hf ha
   clear hP hcc hok hlen
   refine eN Tryz.func34 rfl Tryz.ntmps34 fun hO=>?_
   repeat' first | refine st ?_ | (refine ca ?_;first | apply hp | apply hk) | (refine br ?_ ?_<;>intro hb) | refine sd ?_ | refine sx ?_ | apply aB | (apply aL;(· decide +kernel)) | refine bd ?_ ?_ | (refine cd ?_;first | apply hp | apply hk) | fail
   all_goals refine fR Tryz.results34 ?_
   all_goals exact h
  | const k =>
   rcases hcc k rfl with rfl | rfl | rfl
   ·
    have hk:=fun S'=>qb w0 S' pars _ 12 0 0 (fun S'=>J4 w0 S' pars)
    simp only [im,aA,aC,gi] at h
    simp only [bG] at h hk
    simp only [Wy.av,ba,qW,eX,if_true,if_false,show ((13:Int)=12)=False from by decide,show ((15:Int)=12)=False from by decide,show ((15:Int)=13)=False from by decide,go_sem] at hf ha
    clear hP hcc hok hlen
    refine eN Tryz.func34 rfl Tryz.ntmps34 fun hO=>?_
    repeat' first | refine st ?_ | (refine ca ?_;first | apply hp | apply hk) | (refine br ?_ ?_<;>intro hb) | refine sd ?_ | refine sx ?_ | apply aB | (apply aL;(· decide +kernel)) | refine bd ?_ ?_ | (refine cd ?_;first | apply hp | apply hk) | fail
    all_goals refine fR Tryz.results34 ?_
    all_goals exact h
   ·
    have hk:=fun S'=>qb w0 S' pars _ 13 0 0 (fun S'=>J3 w0 S' pars)
    simp only [im,aA,aC,gi] at h
    simp only [bG] at h hk
    simp only [Wy.av,ba,qW,eX,if_true,if_false,show ((13:Int)=12)=False from by decide,show ((15:Int)=12)=False from by decide,show ((15:Int)=13)=False from by decide,go_sem] at hf ha
    clear hP hcc hok hlen
    refine eN Tryz.func34 rfl Tryz.ntmps34 fun hO=>?_
    repeat' first | refine st ?_ | (refine ca ?_;first | apply hp | apply hk) | (refine br ?_ ?_<;>intro hb) | refine sd ?_ | refine sx ?_ | apply aB | (apply aL;(· decide +kernel)) | refine bd ?_ ?_ | (refine cd ?_;first | apply hp | apply hk) | fail
    all_goals refine fR Tryz.results34 ?_
    all_goals exact h
   ·
    have hk:=fun S'=>qb w0 S' pars _ 15 0 0 (fun S'=>J0 w0 S' pars)
    simp only [im,aA,aC,gi] at h
    simp only [bG] at h hk
    simp only [Wy.av,ba,qW,eX,if_true,if_false,show ((13:Int)=12)=False from by decide,show ((15:Int)=12)=False from by decide,show ((15:Int)=13)=False from by decide,go_sem] at hf ha
    clear hP hcc hok hlen
    refine eN Tryz.func34 rfl Tryz.ntmps34 fun hO=>?_
    repeat' first | refine st ?_ | (refine ca ?_;first | apply hp | apply hk) | (refine br ?_ ?_<;>intro hb) | refine sd ?_ | refine sx ?_ | apply aB | (apply aL;(· decide +kernel)) | refine bd ?_ ?_ | (refine cd ?_;first | apply hp | apply hk) | fail
    all_goals refine fR Tryz.results34 ?_
    all_goals exact h
  | pens =>
   have hk:=fun S'=>J2 w0 (hP rfl) S' pars hok
   simp only [Wy.av,ba,qW,eX,go_sem] at hf ha
   have h:R (.ret (.sval false ((mj pars).map Ac.av))) S:=h
   generalize mj pars=z at h hk
   clear hP hcc hok hlen
   refine eN Tryz.func34 rfl Tryz.ntmps34 fun hO=>?_
   repeat' first | refine st ?_ | (refine ca ?_;first | apply hp | apply hk) | (refine br ?_ ?_<;>intro hb) | refine sd ?_ | refine sx ?_ | apply aB | (apply aL;(· decide +kernel)) | refine bd ?_ ?_ | (refine cd ?_;first | apply hp | apply hk) | fail
   all_goals refine fR Tryz.results34 ?_
   all_goals exact h
  | shape =>
   have hk:=fun S'=>qb w0 S' pars _ 40 (dV pars 0 0) 0 (fun S'=>J1 w0 S' pars)
   simp only [im,aA,aC,gi] at h
   simp only [bG] at h hk
   simp only [Wy.av,ba,qW,eX,go_sem] at hf ha
   clear hP hcc hok hlen
   refine eN Tryz.func34 rfl Tryz.ntmps34 fun hO=>?_
   repeat' first | refine st ?_ | (refine ca ?_;first | apply hp | apply hk) | (refine br ?_ ?_<;>intro hb) | refine sd ?_ | refine sx ?_ | apply aB | (apply aL;(· decide +kernel)) | refine bd ?_ ?_ | (refine cd ?_;first | apply hp | apply hk) | fail
   all_goals refine fR Tryz.results34 ?_
   all_goals exact h
  | askMode n =>
   have hk:=fun S'=>yR w0 S' pars _ n 43 (dV pars 0 0) n (fun S'=>JZ w0 S' pars n)
   simp only [im,aA,aC,gi] at h
   simp only [bG] at h hk
   simp only [Wy.av,ba,qW,eX,go_sem] at hf ha
   clear hP hcc hok hlen
   refine eN Tryz.func34 rfl Tryz.ntmps34 fun hO=>?_
   repeat' first | refine st ?_ | (refine ca ?_;first | apply hp | apply hk) | (refine br ?_ ?_<;>intro hb) | refine sd ?_ | refine sx ?_ | apply aB | (apply aL;(· decide +kernel)) | refine bd ?_ ?_ | (refine cd ?_;first | apply hp | apply hk) | fail
   all_goals refine fR Tryz.results34 ?_
   all_goals exact h
def wv (a:Ac):Prop:=(-100000≤a.m∧a.m≤100000)∧a.text.length≤8192
theorem qQ {l:List (List Int)} (h:eo l=true) (i:Int):0≤dV l i 0∧dV l i 0≤9999:=by
 unfold eo at h
 simp only [aj,az,List.any_eq_false] at h
 unfold dV
 split
 ·omega
 ·split
  ·next n s hx =>
   have hm:=h.2.2 _ (ar hx)
   unfold jd at hm
   simp only [ef,not_or,Bool.not_eq_true,ed,bj] at hm
   have hn:=hm.2.2.1
   unfold nf at hn
   simp only [bj,decide_eq_false_iff_not] at hn
   split<;>omega
  ·omega
theorem BZ {l:List (List Int)} (h:eo l=true):1≤kM l∧kM l≤9999:=by
 have:=qQ h 0
 unfold kM
 split<;>omega
theorem kR (k n m:Int) (h1 : -100000≤m) (h2:m≤100000):wv (dr k n m):=⟨⟨h1,h2⟩,by simp [dr]⟩
theorem DQ {c:Prop} [Decidable c] {x a:Ac}{r:Option Ac} (h:(if c then some x else r)=some a):x=a∨r=some a:=by
 split at h
 ·cases h;exact .inl rfl
 ·exact .inr h
theorem EJ (n m:Int) (h1 : -100000≤m) (h2:m≤100000):wv (fZ n m):=⟨⟨h1,h2⟩,by simp [fZ]⟩
theorem Fk (n k c:Int):wv (pw n k c):=⟨by simp [pw],by simp [pw]⟩
theorem Cx {v:Int}{a:Ac} (h:AA v=some a):wv a:=by
 unfold AA at h
 iterate 26 (rcases DQ h with h | h;· subst h;first | exact EJ _ _ (by decide) (by decide) | exact Fk _ _ _)
 cases h
theorem nZ {n how:Int}{l:List Int}{a:Ac} (h:mV n how l=some a):wv a:=by
 unfold mV at h
 repeat' split at h
 all_goals first | (cases h;done) | (cases h;exact⟨by simp [pw],by simp [pw]⟩)
theorem A7 {s:List Int}{a:Ac} (h:uR s=some a):wv a:=by
 unfold uR at h
 split at h
 ·split at h
  ·next h5=>cases h;exact⟨⟨by simp only [fZ];omega,by simp only [fZ];omega⟩,by simp [fZ]⟩
  ·cases h
 ·split at h
  ·cases h
  ·split at h
   ·exact nZ h
   ·split at h
    ·exact nZ h
    ·cases h
theorem BL {l:List (List Int)}{a:Ac} (h:(lM l).1=some a):wv a:=by
 unfold lM at h
 split at h
 ·exact A7 h
 ·split at h
  ·split at h
   ·split at h
    ·exact nZ h
    ·cases h
   ·split at h
    ·split at h
     ·exact nZ h
     ·cases h
    ·exact Cx h
  ·exact Cx h
theorem wa:∀ (k:Nat) (l:List (List Int)),∀ a∈qf k l,wv a
 | 0,_,a,h=>by cases h
 | k+1,l,a,h=>by
  unfold qf at h
  split at h
  ·cases h
  ·rcases bv.1 h with h | h
   ·exact BL (by simpa using h)
   ·exact wa k _ a h
theorem A6 (l:List (List Int)):∀ a∈mj l,wv a:=by
 intro a h
 unfold mj at h
 split at h
 ·rw [aZ.1 h];exact⟨by decide,by decide⟩
 ·exact wa _ _ a h
def pA:Sq→Bool
 | .modes _ b=>decide (-1000≤b)&&decide (b≤1000)
 | .askMode n=>decide (-1000≤n)&&decide (n≤1000)
 | _=>true
theorem EC {q:Sq}{l:List (List Int)} (h:eo l=true) (hq:pA q=true):∀ a∈im q l,wv a:=by
 have h0:=qQ h 0
 have h1:=qQ h 1
 have hc:=BZ h
 intro a ha
 cases q with
 | cnt k=>rw [aZ.1 ha];exact kR _ _ _ (by omega) (by omega)
 | first k=>rw [aZ.1 ha];exact kR _ _ _ (by omega) (by omega)
 | way k n=>rw [aZ.1 ha];exact kR _ _ _ (by omega) (by omega)
 | cursor=>rw [aZ.1 ha];exact kR _ _ _ (by omega) (by omega)
 | modes k b =>
  simp only [pA,aj,decide_eq_true_eq] at hq
  obtain⟨i,_,rfl⟩:=aH.1 ha
  exact kR _ _ _ (by omega) (by omega)
 | ask n =>
  simp only [im] at ha
  split at ha
  ·rw [aZ.1 ha];exact kR _ _ _ (by omega) (by omega)
  ·cases ha
 | margins=>rw [aZ.1 ha];exact kR _ _ _ (by omega) (by omega)
 | const k=>rw [aZ.1 ha];exact kR _ _ _ (by omega) (by omega)
 | pens=>exact A6 l a ha
 | shape=>rw [aZ.1 ha];exact kR _ _ _ (by omega) (by omega)
 | askMode n =>
  simp only [pA,aj,decide_eq_true_eq] at hq
  rw [aZ.1 ha];exact kR _ _ _ (by omega) (by omega)
theorem yE {w:Wy}{q:Sq} (h:nK w=some q):pA q=true:=by
 unfold nK at h
 obtain⟨p,hp,rfl⟩:=aJ.1 h
 have hm:=gw hp
 have hall:(uH.all fun p=>pA p.2)=true:=by decide
 exact aq.1 hall p hm
theorem tI {α β:Type}{f:α × β→Bool}{l:List (α × β)}{g:β→Bool}{b:β} (hg:l.all (fun p=>g p.2)=true) (h:(l.find? f).map (·.2)=some b):g b=true:=by
 obtain⟨p,hp,rfl⟩:=aJ.1 h
 exact aq.1 hg p (gw hp)
def rn (a:Ac):Bool:=decide (-100000≤a.m)&&(decide (a.m≤100000)&&decide (a.text.length≤8192))
theorem s_ {a:Ac} (h:rn a=true):wv a:=by
 unfold rn at h
 simp only [aj,decide_eq_true_eq] at h
 exact⟨⟨h.1,h.2.1⟩,h.2.2⟩
theorem A8 {s:List UInt8}{a:Ac} (h:ek s=some a):wv a:=by
 obtain⟨⟨u,hu⟩,_⟩:=tc h
 have hl:=(td hu).2.2.1
 rcases nn hu with⟨t,rfl,_,rfl⟩ | ⟨n,c,rfl,_⟩ | ⟨t,rfl,ht,_⟩
 ·exact⟨by simp,by simp at hl ⊢;omega⟩
 ·exact⟨by simp,by simp⟩
 ·exact⟨by simp,by simp;omega⟩
theorem Fr {e:Ev} (h:li e=true):∀ a∈ue e,wv a:=by
 unfold li at h
 simp only [aj] at h
 have hr:=h.2
 intro a ha
 unfold ue at ha
 split at ha
 ·rw [aZ.1 ha];exact kR _ _ _ (by decide) (by decide)
 ·split at ha
  ·have ha:zN e.code=some a:=by simpa using ha
   exact s_ (tI (g:=rn) (l:=xI) (by decide) ha)
  ·split at ha
   ·have ha:zA ⟨0,e.inter,e.fin⟩=some a:=by simpa using ha
    exact s_ (tI (g:=rn) (l:=xA) (by decide) ha)
   ·split at ha
    ·unfold zO at ha
     split at ha
     ·next q hq=>exact EC hr (yE hq) a ha
     ·cases ha
    ·split at ha
     ·exact A8 (by simpa using ha)
     ·cases ha
theorem Gw (w0:World) (hQ:jP w0) (S:List ax) (e:Ev) (hr:eo e.pars=true) (ht:e.text.length≤8192) (hP:e.kind=4→nK ⟨e.priv,e.inter,e.fin⟩=some .pens→si w0) (R:Rt) (h:R (.ret (.sval false ((ue e).map Ac.av))) S):ao Tryz.prog w0 34 [e.av] S R:=by
 obtain⟨k,c,pr,fi,pars,it,tx⟩:=e
 unfold ue at h
 simp only at h hr ht hP
 unfold Ev.av
 simp only
 by_cases h1:k=1
 ·subst h1;rw [if_pos rfl] at h;exact FA w0 S c pr fi pars it tx R h
 rw [if_neg h1] at h
 by_cases h2:k=2
 ·subst h2;rw [if_pos rfl] at h;exact Fz w0 S c pr fi pars it tx R h
 rw [if_neg h2] at h
 by_cases h3:k=3
 ·subst h3;rw [if_pos rfl] at h;exact Fy w0 S c pr fi pars it tx R h
 rw [if_neg h3] at h
 by_cases h4:k=4
 ·subst h4;rw [if_pos rfl] at h;exact Fx w0 S c pr fi pars it tx hr (hP rfl) R h
 rw [if_neg h4] at h
 by_cases h5:k=5
 ·subst h5;rw [if_pos rfl] at h;exact Fw w0 S c pr fi pars it tx hQ ht R h
 rw [if_neg h5] at h
 exact FB k (beq_eq_false_iff_ne.2 h1) (beq_eq_false_iff_ne.2 h2) (beq_eq_false_iff_ne.2 h3) (beq_eq_false_iff_ne.2 h4) (beq_eq_false_iff_ne.2 h5) w0 S c pr fi pars it tx R h
theorem qe:∀ (k:Nat) (l:List (List Int)),(qf k l).length≤k
 | 0,_=>aP _
 | k+1,l=>by
  unfold qf
  split
  ·simp
  ·have:=qe k (l.drop (lM l).2)
   have h2:(lM l).1.toList.length≤1:=by cases (lM l).1<;>simp
   rw [ah];omega
theorem lB {α:Type} (o:Option α):o.toList.length≤1:=by cases o<;>simp
theorem B7 {e:Ev} (h:li e=true):(ue e).length≤100:=by
 unfold li eo at h
 simp only [aj,decide_eq_true_eq] at h
 have hl:=h.2.1
 unfold ue
 split
 ·simp
 ·split
  ·have:=lB (zN e.code);omega
  ·split
   ·have:=lB (zA ⟨0,e.inter,e.fin⟩);omega
   ·split
    ·unfold zO
     split
     ·next q _ =>
      cases q
      all_goals simp only [im,aI,aU,aY,List.length_range]
      all_goals (try omega)
      ·split<;>simp
      ·unfold mj
       split
       ·simp
       ·have:=qe e.pars.length e.pars;omega
     ·simp
    ·split
     ·have:=lB (ek e.text);omega
     ·simp
theorem xv {α:Type}{p:α→Bool}{l:List α}{i:Nat}{x:α} (h:l[i]? = some x):(l.take (i+1)).filter p=(l.take i).filter p++(if p x then [x] else []):=by
 rw [eP,h,Ck]
 congr 1
 simp only [iK]
 cases hp:p x
 ·rw [List.filter_cons_of_neg (by simp [hp])];rfl
 ·rw [List.filter_cons_of_pos hp];rfl
theorem Gv (w0:World) (hM:jQ w0) (hW:jO w0) (hQ:ld w0) (hQ2:jP w0) (S:List ax) (e:Ev) (hl:pC e.pars) (ht:e.text.length≤8192) (hP:li e=true→e.kind=4→nK ⟨e.priv,e.inter,e.fin⟩=some .pens→si w0) (R:Rt)
  (h:R (.ret (.tup [.sval false ((xV e).map Ac.av),.int .i64 (if li e then 0 else 201)])) S):ao Tryz.prog w0 17 [e.av] S R:=by
 have hck:=fun S'=>z7 w0 S' e hl
 unfold xV at h
 cases hok:li e with
 | false =>
  rw [hok] at h hck
  simp only [bJ,if_false,aC] at h hck
  unfold Ev.av at hck ⊢
  clear hM hW hQ hQ2 hl ht hP hok
  refine eN Tryz.func17 rfl Tryz.ntmps17 fun hO=>?_
  repeat' first | refine st ?_ | (refine ca ?_;apply hck) | (refine br ?_ ?_<;>intro hb) | fail
  refine fR Tryz.results17 ?_
  exact h
 | true =>
  have hokr:eo e.pars=true:=by unfold li at hok;simp only [aj] at hok;exact hok.2
  have hal:=fun S'=>Gw w0 hQ2 S' e hokr ht (hP hok)
  have hB:=Fr hok
  have hLn:=B7 hok
  rw [hok] at h hck
  simp only [if_true] at h hck
  generalize ue e=L at h hal hB hLn
  have hcf:=fun S' (a:Ac) (hb:wv a)=>z8 w0 hM hW hQ S' a ⟨by have:=hb.1;omega,by have:=hb.1;omega⟩ (by have:=hb.2;omega)
  unfold Ev.av at hck hal ⊢
  have H:=ae h
  have HB:=ae hB
  have HC:=ae hcf
  clear hM hW hQ hQ2 hl ht hP hok hokr hcf hB h
  refine eN Tryz.func17 rfl Tryz.ntmps17 fun hO=>?_
  repeat' first | refine st ?_ | (refine ca ?_;first | apply hck | apply hal) | (refine br ?_ ?_<;>intro hb) | fail
  refine uy (t:=2) (e:=25) (sz:=6) ss (by decide) ?_
  refine eJ (fun (j:Nat) env S'=>j≤L.length∧env 1000000=.dfr []∧env 2=.sown (S.length+1) ((L.take j).filter gv).length ((L.take j).filter gv).length∧env 13=.sval false (L.map Ac.av)∧env 14=.int .i64 (L.length:Int)∧env 15=.int .i64 (j:Int) ∧
   S'=S++[.cells [.int .i64 e.kind,.int .i64 e.code,.int .u8 e.priv,.int .u8 e.fin,.sval false (e.pars.map dE),.str e.inter,.str e.text] none,.arr 25 6 0 ((L.take j).filter gv).length (((L.take j).filter gv).map Ac.av)]) (fun j=>L.length - j) 0 ?_ ?_
  ·exact⟨bx _,ss,ss,ss,ss,ss,by simp only [co,List.filter_nil,aC,aU];(simp only [go_sem, *];try rfl)⟩
  ·rintro j env S' ⟨hj,e0,f2,f13,f14,f15,rfl⟩ IH
   have HI:=ae IH
   clear IH hck hal
   have hfl:((L.take j).filter gv).length≤100:=dB (List.length_filter_le _ _) (dB (List.length_take_le' _ _) hLn)
   by_cases hlt:j<L.length
   ·obtain⟨a,hx⟩:∃ a,L[j]? = some a:=⟨_,al hlt⟩
    have h1:decide ((j:Int)<(L.length:Int))=true:=by simpa using hlt
    have hw:af.wrap ((j:Int)+1)=((j+1:Nat):Int):=by rw [au _ (by omega)];omega
    have Hsu:=ae (xv (p:=gv) hx)
    have hc:=fun S'=>HC.out S' a (HB.out a (ar hx))
    generalize (L.take j).filter gv=F at hfl Hsu f2 ⊢
    have hb:(F.length+1) * 56≤140737488355328:=by omega
    have Hlt:=ae hlt
    obtain⟨k1,k2,k3,k4,k5,k6⟩:=a
    have hav:Ac.av ⟨k1,k2,k3,k4,k5,k6⟩=.agg [.int .i64 k1,.int .i64 k2,.int .i64 k3,.int .i64 k4,.int .i64 k5,.str k6]:=rfl
    rw [hav] at hc
    clear hlt hj hfl hLn
    cases ha:gv ⟨k1,k2,k3,k4,k5,k6⟩
    ·rw [ha] at hc
     simp only [bJ,if_false] at hc
     repeat' first | refine st ?_ | (refine ca ?_;apply hc) | (refine br ?_ ?_<;>intro hb) | fail
     refine fT hO 2 [2,13,14,15] rfl ss ss ?_ ?_
     ·(simp only [go_sem, *];try rfl)
     simp only [cy,co]
     refine HI.out (j+1) _ _ (by have:=Hlt.out;omega) ⟨Hlt.out, ?_, ?_, ?_, ?_, ?_, ?_⟩
     ·(simp only [go_sem, *];try rfl)
     ·rw [Hsu.out,ha];simp only [bJ,if_false,aE];(simp only [go_sem, *];try rfl)
     ·(simp only [go_sem, *];try rfl)
     ·(simp only [go_sem, *];try rfl)
     ·(simp only [go_sem, *];try rfl)
     ·rw [Hsu.out,ha];simp only [bJ,if_false,aE]
    ·rw [ha] at hc
     simp only [if_true] at hc
     repeat' first | refine st ?_ | (refine ca ?_;apply hc) | (refine br ?_ ?_<;>intro hb) | fail
     refine fT hO 2 [2,13,14,15] rfl ss ss ?_ ?_
     ·(simp only [go_sem, *];try rfl)
     simp only [cy,co]
     refine HI.out (j+1) _ _ (by have:=Hlt.out;omega) ⟨Hlt.out, ?_, ?_, ?_, ?_, ?_, ?_⟩
     ·(simp only [go_sem, *];try rfl)
     ·rw [Hsu.out,ha];simp only [if_true,ah,aI,aU,di];(simp only [go_sem, *];try rfl)
     ·(simp only [go_sem, *];try rfl)
     ·(simp only [go_sem, *];try rfl)
     ·(simp only [go_sem, *];try rfl)
     ·rw [Hsu.out,ha];simp only [if_true,ah,aI,aU,di,bg,aA,aC,hav]
   ·have h1:decide ((j:Int)<(L.length:Int))=false:=by simpa using hlt
    have htk:L.take j=L:=cA (by omega)
    have hh:=H.out
    rw [htk] at f2 ⊢
    generalize L.filter gv=F at hh f2 ⊢
    have hle:(F.map Ac.av).length=F.length:=by simp
    clear hlt hj hfl hLn htk HI H
    repeat' first | refine st ?_ | (refine br ?_ ?_<;>intro hb) | fail
    refine fR Tryz.results17 ?_
    exact hh
def gU (l:List (List Int)):List (List Int):=if l=[] then [[-1]] else l
def lu (l:List (List Int)) (c:Nat):List (List Int) × Int :=
 if c=59 then (if (gU l).length<16 then (gU l++[[-1]],0) else ([],3))
 else if c=58 then (if ((gU l).getLastD []).length<6 then ((gU l).dropLast++[(gU l).getLastD []++[-1]],0) else ([],3))
 else if 48≤c∧c≤57 then ((gU l).dropLast++[((gU l).getLastD []).dropLast++[min (max 0 (((gU l).getLastD []).getLastD 0) * 10+((c:Int) - 48)) 9999]],0)
 else ([],6)
structure Ps where
 st:Nat
 utf:List Nat
 pv:Nat
 fn:Nat
 pars:List (List Int)
 inter:List UInt8
 text:List UInt8
 bad:Bool
 deriving DecidableEq
def Ps.av (p:Ps):AV:=.agg [.int .i64 p.st,.sval false (p.utf.map By),.int .u8 p.pv,.int .u8 p.fn,.sval false (p.pars.map dE),.str p.inter,.str p.text,.bool p.bad]
def cB (n:Nat):Ps:=⟨n,[],0,0,[],[],[],false⟩
def nJ (n:Nat):Ps:=⟨n,[],0,0,[],[],[],true⟩
def jL (c:Nat):Ev:=⟨1,c,0,0,[],[],[]⟩
def tK (c:Nat):Ev:=⟨2,c,0,0,[],[],[]⟩
def qw (i:List UInt8) (b:Nat):Ev:=⟨3,0,0,b,[],i,[]⟩
def zz (p:Ps) (b:Nat):Ev:=⟨4,0,p.pv,b,p.pars,p.inter,[]⟩
def qv (p:Ps):Ev:=⟨5,0,0,0,[],[],p.text⟩
def zy (p:Ps):Ev:=⟨6,0,p.pv,p.fn,p.pars,p.inter,p.text⟩
def jq (p:Ps) (e:Ev):Ps × List Ev:=(cB 0,if p.bad then [] else [e])
def ks (p:Ps) (b:Nat):Ps:=if p.bad∨p.inter.length=2 then nJ p.st else { p with inter:=p.inter++[aD b] }
def xE (p:Ps) (b:Nat):Ps:=if (lu p.pars b).2≠0∨p.bad then nJ p.st else { p with pars:=(lu p.pars b).1 }
def kD (p:Ps) (b:Nat):Ps × List Ev:=if p.st≤5 then jq p (zz p b) else ({ p with st:=11,fn:=if p.bad then p.fn else b },[])
def xB (p:Ps) (b:Nat):Ps × List Ev :=
 if b=91 then (cB 3,[]) else if b=93 then (cB 6,[]) else if b=80 then (cB 8,[]) else if b=88∨b=94∨b=95 then (cB 13,[])
 else if b<48 then (ks (cB 2) b,[]) else jq p (qw [] b)
def mT (p:Ps) (b:Nat):Ps × List Ev:=if b<48 then (ks p b,[]) else jq p (qw p.inter b)
def kJ (p:Ps) (b:Nat):Ps × List Ev :=
 if b<48 then (ks (cB (p.st+2)) b,[]) else if b<60 then (xE (cB (p.st+1)) b,[]) else if b<64 then ({ cB (p.st+1) with pv:=b },[]) else kD p b
def iU (p:Ps) (b:Nat):Ps × List Ev :=
 if b<48 then (ks { p with st:=p.st+1 } b,[]) else if b<60 then (xE p b,[]) else if b<64 then (nJ p.st,[]) else kD p b
def iW (p:Ps) (b:Nat):Ps × List Ev:=if b<48 then (ks p b,[]) else if b<64 then (nJ p.st,[]) else kD p b
def dJ (p:Ps) (b:Nat):Ps × List Ev :=
 match p.st with
 | 0=>(p,[jL b])
 | 1=>xB p b
 | 2=>mT p b
 | 3 | 8=>kJ p b
 | 4 | 9=>iU p b
 | 5 | 10=>iW p b
 | _=>(p,[])
def rZ (b:Nat):Ps × List Ev:=if b=24∨b=26 then (cB 0,[]) else if b=27 then (cB 1,[]) else if b<32 then (cB 0,[tK b]) else (cB 0,[])
def gh (q:Ps × List Ev) (c:Nat):Ps × List Ev :=
 if c<32∨c=127 then ((rZ c).1,q.2++(rZ c).2) else if c<127∨159<c then (q.1,q.2++[jL c]) else q
def gy (p:Ps) (b:Nat):Ps × List Ev:=(dj p.utf b).2.foldl gh ({ cB 0 with utf:=(dj p.utf b).1 },[])
def eH (n:Nat):Bool:=n==6||(n==11||n==13)
def iy (n:Nat):Bool:=n==7||(n==12||n==14)
def hY (p:Ps) (b:Nat):Ps × List Ev :=
 if b=7∧p.st=6 then jq p (qv p) else if b<32∨b=127∨p.st=13∨p.bad then (p,[]) else if p.text.length=512 then (nJ p.st,[]) else ({ p with text:=p.text++[aD b] },[])
def take1 (p:Ps) (b:Nat):Ps × List Ev :=
 if p.st=0∧(p.utf≠[]∨128≤b) then gy p b
 else if b=24∨b=26 then (cB 0,[])
 else if b=27 then (if eH p.st then ({ p with st:=p.st+1 },[]) else (cB 1,[]))
 else if eH p.st then hY p b
 else if 128≤b then gy (cB 0) b
 else if b<32 then (p,if p.st≤5 then [tK b] else [])
 else if b=127 then (p,[])
 else dJ p b
def tM (p:Ps) (b:Nat):Ps × List Ev :=
 if b≠92 then take1 (cB 1) b else if p.st=7 then jq p (qv p) else if p.st=12 then jq p (zy p) else (cB 0,[])
def fk (p:Ps) (b:Nat):Ps × List Ev:=if iy p.st∧¬ (b=24∨b=26∨b=27) then tM p b else take1 p b
def dk (p:Ps) (s:List Nat):Ps × List Ev:=s.foldl (fun q b=>((fk q.1 b).1,q.2++(fk q.1 b).2)) (p,[])
structure ep (p:Ps):Prop where
 st:p.st≤14
 utf:fm p.utf=true
 byt:∀ x∈p.utf,x<256
 pv:p.pv<256
 fn:p.fn<256
 pars:eo p.pars=true
 inter:p.inter.length≤2
 text:p.text.length≤512
theorem nt {l:List (List Int)} (h:eo l=true):∃ pre q n,gU l=pre++[q++[n]]∧pre.length≤15∧q.length≤5∧(-1≤n∧n≤9999)∧(pre.any jd=false)∧q.any nf=false:=by
 have hb:(gU l).any jd=false∧(gU l).length≤16∧gU l≠[]:=by
  unfold gU
  split
  ·exact⟨by decide,by decide,by decide⟩
  ·next hn =>
   unfold eo at h
   simp only [aj,decide_eq_true_eq,az] at h
   exact⟨h.2.2,h.1,hn⟩
 obtain⟨h1,h2,h3⟩:=hb
 have hsp:=so h3
 generalize (gU l).dropLast=pre at hsp
 generalize (gU l).getLast h3=s at hsp
 rw [← hsp] at h1 h2
 simp only [dy,ed,fc,eI,bj,ah,aI,aU] at h1 h2
 have hs:=h1.2
 unfold jd at hs
 simp only [bj,beq_eq_false_iff_ne,decide_eq_false_iff_not] at hs
 have hne:s≠[]:=by rintro rfl;exact hs.1 rfl
 have hsq:=so hne
 generalize s.dropLast=q at hsq
 generalize s.getLast hne=n at hsq
 subst hsq
 simp only [dy,ed,fc,eI,bj,ah,aI,aU] at hs
 have hn:=hs.2.2.2
 unfold nf at hn
 simp only [bj,decide_eq_false_iff_not] at hn
 exact⟨pre,q,n,hsp.symm,by omega,by omega,⟨by omega,by omega⟩,h1.1,hs.2.2.1⟩
theorem jl {α:Type} (l:List α) (x d:α):(l++[x]).getLastD d=x:=by simp [List.getLastD_eq_getLast?]
theorem kp {l pre:List (List Int)}{q:List Int}{n:Int}{c:Nat} (h:gU l=pre++[q++[n]]):lu l c =
  if c=59 then (if pre.length<15 then (pre++[q++[n],[-1]],0) else ([],3))
  else if c=58 then (if q.length<5 then (pre++[q++[n,-1]],0) else ([],3))
  else if 48≤c∧c≤57 then (pre++[q++[min (max 0 n * 10+((c:Int) - 48)) 9999]],0)
  else ([],6):=by
 unfold lu
 rw [h,jl,jl,wy,wy]
 have e1:(pre.length+1<16)=(pre.length<15):=by rw [eq_iff_iff];omega
 have e2:(q.length+1<6)=(q.length<5):=by rw [eq_iff_iff];omega
 simp only [ah,aI,aU,di,e1,e2,aK,cz,cU]
theorem yz {l:List (List Int)}{c:Nat} (h:eo l=true) (h0:(lu l c).2=0):eo (lu l c).1=true:=by
 obtain⟨pre,q,n,hl,h1,h2,h3,h4,h5⟩:=nt h
 rw [kp hl] at h0 ⊢
 have hb:jd (q++[n])=false:=by
  unfold jd
  simp only [bj,beq_eq_false_iff_ne,decide_eq_false_iff_not,dy,ed,fc,eI,ah,aI,aU]
  refine⟨by omega,by omega,h5, ?_⟩
  unfold nf
  simp only [bj,decide_eq_false_iff_not]
  omega
 split at h0
 ·next hc =>
  rw [if_pos hc]
  split at h0
  ·next hp =>
   rw [if_pos hp]
   unfold eo
   simp only [aj,decide_eq_true_eq,az,dy,ed,fc,eI,ah,aI,aU,h4,hb,uq]
   refine⟨by omega, ?_,by decide⟩
   rw [beq_eq_false_iff_ne]
   intro e
   have:=congrArg dM e
   simp at this
  ·cases h0
 ·next hc =>
  rw [if_neg hc]
  split at h0
  ·next hc =>
   rw [if_pos hc]
   split at h0
   ·next hp =>
    rw [if_pos hp]
    have hb2:jd (q++[n,-1])=false:=by
     unfold jd at hb ⊢
     simp only [bj,beq_eq_false_iff_ne,decide_eq_false_iff_not,dy,ed,fc,eI,ah,aI,aU] at hb ⊢
     exact⟨by omega,by omega,h5,hb.2.2.2,by decide⟩
    unfold eo
    simp only [aj,decide_eq_true_eq,az,dy,ed,fc,eI,ah,aI,aU,h4,hb2,uq]
    refine⟨by omega, ?_,trivial⟩
    rw [beq_eq_false_iff_ne]
    intro e
    have hp:pre=[]:=by
     have:=congrArg dM e
     simp at this
     exact this
    subst hp
    simp at e
    have:=congrArg dM e
    simp at this
   ·cases h0
  ·next hc =>
   rw [if_neg hc]
   split at h0
   ·next hc2 =>
    rw [if_pos hc2]
    have hv:0≤min (max 0 n * 10+((c:Int) - 48)) 9999∧min (max 0 n * 10+((c:Int) - 48)) 9999≤9999:=by omega
    generalize min (max 0 n * 10+((c:Int) - 48)) 9999=v at hv
    have hb2:jd (q++[v])=false:=by
     unfold jd at hb ⊢
     simp only [bj,beq_eq_false_iff_ne,decide_eq_false_iff_not,dy,ed,fc,eI,ah,aI,aU] at hb ⊢
     refine⟨by omega,by omega,h5, ?_⟩
     unfold nf
     simp only [bj,decide_eq_false_iff_not]
     omega
    unfold eo
    simp only [aj,decide_eq_true_eq,az,dy,ed,fc,eI,ah,aI,aU,h4,hb2,uq]
    refine⟨by omega, ?_,trivial⟩
    rw [beq_eq_false_iff_ne]
    intro e
    have hp:pre=[]:=by
     have:=congrArg dM e
     simp at this
     exact this
    subst hp
    simp at e
    have hq:q=[]:=by
     have:=congrArg dM e
     simp at this
     exact this
    subst hq
    simp at e
    omega
   ·cases h0
theorem ep.beg {n:Nat} (h:n≤14):ep (cB n):=⟨h,rfl,by simp [cB],ec _,ec _,rfl,bx _,bx _⟩
theorem ep.spo {n:Nat} (h:n≤14):ep (nJ n):=⟨h,rfl,by simp [nJ],ec _,ec _,rfl,bx _,bx _⟩
theorem ep.at {p:Ps} (h:ep p){n:Nat} (hn:n≤14):ep { p with st:=n }:=⟨hn,h.utf,h.byt,h.pv,h.fn,h.pars,h.inter,h.text⟩
theorem ep.sign {p:Ps} (h:ep p) (b:Nat):ep (ks p b):=by
 unfold ks
 split
 ·exact .spo h.st
 ·next hc =>
  refine⟨h.st,h.utf,h.byt,h.pv,h.fn,h.pars, ?_,h.text⟩
  have:=h.inter
  simp only [ah,aI,aU]
  rw [not_or] at hc
  omega
theorem ep.dig {p:Ps} (h:ep p) (b:Nat):ep (xE p b):=by
 unfold xE
 split
 ·exact .spo h.st
 ·next hc =>
  rw [not_or] at hc
  exact⟨h.st,h.utf,h.byt,h.pv,h.fn,yz h.pars (uw.1 hc.1),h.inter,h.text⟩
theorem ep.disp (p:Ps) (e:Ev):ep (jq p e).1:=.beg (by decide)
theorem ep.last {p:Ps} (h:ep p){b:Nat} (hb:b<256):ep (kD p b).1:=by
 unfold kD
 split
 ·exact .disp _ _
 ·refine⟨(by decide:11≤14),h.utf,h.byt,h.pv, ?_,h.pars,h.inter,h.text⟩
  have:=h.fn
  simp only
  split<;>assumption
theorem ep.goes {p:Ps} (h:ep p){b:Nat} (hb:b<256):ep (dJ p b).1:=by
 have key:∀ n,n≤14→ep (ks (cB n) b):=fun n hn=>(ep.beg hn).sign b
 have hs:=h.st
 unfold dJ
 split
 ·exact h
 ·unfold xB
  repeat' split
  all_goals first | exact .beg (by decide) | exact key 2 (by decide)
 ·unfold mT
  split
  ·exact h.sign b
  ·exact .disp _ _
 ·next e =>
  unfold kJ
  repeat' split
  ·exact key _ (by omega)
  ·exact(ep.beg (by omega)).dig b
  ·exact⟨by simp only [cB];omega,rfl,by simp [cB],hb,ec _,rfl,bx _,bx _⟩
  ·exact h.last hb
 ·next e =>
  unfold kJ
  repeat' split
  ·exact key _ (by omega)
  ·exact(ep.beg (by omega)).dig b
  ·exact⟨by simp only [cB];omega,rfl,by simp [cB],hb,ec _,rfl,bx _,bx _⟩
  ·exact h.last hb
 ·next e =>
  unfold iU
  repeat' split
  ·exact(h.at (by omega)).sign b
  ·exact h.dig b
  ·exact .spo hs
  ·exact h.last hb
 ·next e =>
  unfold iU
  repeat' split
  ·exact(h.at (by omega)).sign b
  ·exact h.dig b
  ·exact .spo hs
  ·exact h.last hb
 ·unfold iW
  repeat' split
  ·exact h.sign b
  ·exact .spo hs
  ·exact h.last hb
 ·unfold iW
  repeat' split
  ·exact h.sign b
  ·exact .spo hs
  ·exact h.last hb
 ·exact h
theorem ep.ctl (b:Nat):ep (rZ b).1:=by
 unfold rZ
 repeat' split
 all_goals exact .beg (by decide)
theorem ep.code {q:Ps × List Ev} (h:ep q.1) (c:Nat):ep (gh q c).1:=by
 unfold gh
 split
 ·exact .ctl c
 ·split<;>exact h
theorem ep.codes:∀ {l:List Nat}{q:Ps × List Ev},ep q.1→ep (l.foldl gh q).1
 | [],_,h=>h
 | c::l,_,h=>ep.codes (l:=l) (h.code c)
theorem ep.print {p:Ps} (h:ep p){b:Nat} (hb:b<256):ep (gy p b).1:=by
 unfold gy
 refine ep.codes ⟨bx _,nj _ _,oC h.byt hb,ec _,ec _,rfl,bx _,bx _⟩
theorem ep.within {p:Ps} (h:ep p) (b:Nat):ep (hY p b).1:=by
 unfold hY
 split
 ·exact .disp _ _
 ·split
  ·exact h
  ·split
   ·exact .spo h.st
   ·next hc =>
    refine⟨h.st,h.utf,h.byt,h.pv,h.fn,h.pars,h.inter, ?_⟩
    have:=h.text
    simp only [ah,aI,aU]
    omega
theorem ep.take1 {p:Ps} (h:ep p){b:Nat} (hb:b<256):ep (take1 p b).1:=by
 have hs:=h.st
 unfold Go.Proofs.YthdbijpefkapnaaGreatDoor.take1
 split
 ·exact h.print hb
 ·split
  ·exact .beg (by decide)
  ·split
   ·split
    ·next ht =>
     have:p.st≠14:=by
      intro e
      rw [e] at ht
      exact absurd ht (by decide)
     exact h.at (by omega)
    ·exact .beg (by decide)
   ·split
    ·exact h.within b
    ·split
     ·exact(ep.beg (by decide)).print hb
     ·split
      ·exact h
      ·split
       ·exact h
       ·exact h.goes hb
theorem ep.take {p:Ps} (h:ep p){b:Nat} (hb:b<256):ep (fk p b).1:=by
 unfold fk
 split
 ·unfold tM
  repeat' split
  ·exact(ep.beg (by decide)).take1 hb
  ·exact .disp _ _
  ·exact .disp _ _
  ·exact .beg (by decide)
 ·exact h.take1 hb
def cJ (p:Ps) (b g:Nat):ax:=.cells [.int .i64 p.st,.sval false (p.utf.map By),.int .u8 p.pv,.int .u8 p.fn,.sval false (p.pars.map dE),.str p.inter,.str p.text,.bool p.bad,.sown b g g]
def cL (l:List Ev):ax:=.arr 40 7 0 l.length (l.map Ev.av)
def aM (X:List ax) (p:Ps) (l:List Ev):List ax:=X++[cJ p (X.length+1) l.length,cL l]
@[go_sem] theorem Ev.ltL (l:List Ev) (n:Nat):ltL n (l.map Ev.av)=true:=cw.2 fun x hx=>by
 obtain⟨y,_,rfl⟩:=aH.1 hx
 simp only [Ev.av,AV.lt,Go.Fen.ltL,dE.ltL,x_]
@[go_sem] theorem Ev.ok (l:List Ev):cC 7 (l.map Ev.av)=true:=by
 unfold cC;rw [aq];intro x hx;obtain⟨y,_,rfl⟩:=aH.1 hx;rfl
theorem DH (X:List ax) (p:Ps) (g:Nat):(cJ p (X.length+1) g).ltB (X.length+2)=true:=by
 simp [cJ,ax.ltB,Go.Fen.ltL,AV.lt,By.ltL,dE.ltL]
theorem vi (l:List Ev) (n:Nat):(cL l).ltB n=true:=by
 simp [cL,ax.ltB,Ev.ltL]
theorem za (X:List ax) (p:Ps) (l:List Ev):(aM X p l).length=X.length+2:=by simp [aM]
theorem fF {X:List ax}{p q:Ps}{l k:List Ev} (h:bw (aM X p l)):bw (aM X q k):=k8 h (DH X q _) (vi k _)
section
variable {P:Program}{w0:World}{F:Func}{S0 S X L:List ax}{R:df→List ax→Prop}{ms vs:List AV}{env:cF}{B C:ax}
theorem rS (h0:env DS=.dfr ms) (h01:dA ms S=some (X++B::C::L)) (h1:e_ P env (X++B::C::L) F.results.toList=some []) (hl:X.length+2=S0.length) (hB:bw (X++[B,C])) (h:R (.ret (.tup [])) (X++[B,C])):i6 P F S0 R .ret env S:=by
 have e:X++B::C::L=(X++[B,C])++L:=by simp
 rw [e] at h01 h1
 exact zx h0 h01 (by simp;omega) hB h1 rfl rfl h
theorem vh (h0:env DS=.dfr ms) (h01:dA ms S=some (X++B::C::L)) (h1:e_ P env (X++B::C::L) F.results.toList=some []) (hl:X.length+2=S0.length) (hB:bw (X++[B,C])) (h:R (.ret (.tup [])) (X++[B,C])):i6 P F S0 R .normal env S :=
 rS h0 h01 h1 hl hB h
end
theorem ou {P:Program}{w0:World}{n0 N:Nat}{r:Option Nat}{Q:bN}{k:List TI}{env:cF}{S X:List ax}{it:KI}{B C:ax}{cs:List AV}{ty:Option TypeId} (t:Nat) (sl:List Nat) (hS:S=X++[B,C,.cells cs ty]) (hO:bw (X++[B,C])) (hn:n0=X.length+2) (ht:env t=.own (X.length+2) 0)
  (hds:(env DS).lt (X.length+2)=true) (hsl:(sl.all fun u=>(eg env t (.pro cs) u).lt (X.length+2))=true) (h:aX P w0 n0 N r (.it it::k) Q .normal (gg sl (eg env t (.pro cs))) (X++[B,C])):aX P w0 n0 N r (.it it::k) Q .normal env S:=by
 have hl:(X++[B,C]).length=X.length+2:=by simp
 have hS':S=(X++[B,C])++[.cells cs ty]:=by rw [hS];simp
 refine Cr (X++[B,C]) sl hS' hO (hn.trans hl.symm) (by rw [hl];exact ht) (by rw [hl];exact hds) (by rw [hl];exact hsl) h
section
variable {P:Program}{F:Func}{S0 S X L:List ax}{R:df→List ax→Prop}{ms:List AV}{env:cF}{p q:Ps}{l k:List Ev}
theorem lP (hO:bw (aM X p l)) (h:R (.ret (.tup [])) (aM X q k)) (hl:X.length+2=S0.length) (h0:env DS=.dfr ms) (h01:dA ms S=some (X++cJ q (X.length+1) k.length::cL k::L)) (h1:e_ P env (X++cJ q (X.length+1) k.length::cL k::L) F.results.toList=some []):i6 P F S0 R .ret env S :=
 rS h0 h01 h1 hl (fF hO) h
theorem bD (hO:bw (aM X p l)) (h:R (.ret (.tup [])) (aM X q k)) (hl:X.length+2=S0.length) (h0:env DS=.dfr ms) (h01:dA ms S=some (X++cJ q (X.length+1) k.length::cL k::L)) (h1:e_ P env (X++cJ q (X.length+1) k.length::cL k::L) F.results.toList=some []):i6 P F S0 R .normal env S :=
 lP hO h hl h0 h01 h1
end
theorem sN {X:List ax}{cs:List AV}{ty:Option TypeId}{E:ax}{p:Ps}{l:List Ev} (h1:ax.cells (cs.map softV) ty=cJ p (X.length+1) l.length) (h2:E=cL l){R:df→List ax→Prop}{o:df} (h:R o (aM X p l)) :
  ∃ cs' ty',(X++[ax.cells cs ty,E])[X.length]? = some (.cells cs' ty')∧R o ((X++[ax.cells cs ty,E]).set X.length (.cells (cs'.map softV) ty')):=by
 subst h2
 refine⟨cs,ty,by simp, ?_⟩
 rw [cZ _ _ (aP _),p4,Ci,h1]
 exact h
theorem eW (w0:World) (X:List ax) (p:Ps) (l:List Ev) (n:Nat) (R:Rt) (h:R (.ret (.tup [])) (aM X (cB n) l)):ao Tryz.prog w0 167 [.own X.length 0,.int .i64 n] (aM X p l) R:=by
 refine ao.softC X.length ?_
 have H:=ae h
 clear h
 refine eN Tryz.func167 rfl Tryz.ntmps167 fun hO=>?_
 have HO:=ae hO
 clear hO
 unfold aM cJ
 repeat' first | refine st ?_ | (refine br ?_ ?_<;>intro hb) | fail
 refine El Tryz.results167 ?_ ?_ ?_
 ·exact k8 HO.out (by simp [ax.ltB,Go.Fen.ltL,AV.lt]) (vi _ _)
 ·simp [aM]
 ·exact sN rfl rfl H.out
theorem oI (w0:World) (X:List ax) (p:Ps) (l:List Ev) (R:Rt) (h:R (.ret (.tup [])) (aM X (nJ p.st) l)):ao Tryz.prog w0 215 [.own X.length 0] (aM X p l) R:=by
 refine ao.softC X.length ?_
 have H:=ae h
 clear h
 refine eN Tryz.func215 rfl Tryz.ntmps215 fun hO=>?_
 have HO:=ae hO
 clear hO
 unfold aM cJ
 repeat' first | refine st ?_ | (refine br ?_ ?_<;>intro hb) | fail
 refine El Tryz.results215 ?_ ?_ ?_
 ·exact k8 HO.out (by simp [ax.ltB,Go.Fen.ltL,AV.lt]) (vi _ _)
 ·simp [aM]
 ·exact sN rfl rfl H.out
theorem vY (w0:World) (X:List ax) (p:Ps) (l:List Ev) (e:Ev) (hl:l.length≤1000000) (R:Rt) (h:R (.ret (.tup [])) (aM X p (l++[e]))):ao Tryz.prog w0 170 [.own X.length 0,e.av] (aM X p l) R:=by
 have H:=ae h
 clear h
 have hb:(l.length+1) * 80≤140737488355328:=by omega
 rw [show e.av=.agg [.int .i64 e.kind,.int .i64 e.code,.int .u8 e.priv,.int .u8 e.fin,.sval false (e.pars.map dE),.str e.inter,.str e.text] from rfl]
 refine eN Tryz.func170 rfl Tryz.ntmps170 fun hO=>?_
 have HO:=ae hO
 clear hO hl
 unfold aM cJ cL
 repeat' first | refine st ?_ | (refine br ?_ ?_<;>intro hb) | refine sd ?_ | refine sx ?_ | apply aB | (apply aL;(· decide +kernel)) | refine bd ?_ ?_ | fail
 apply vh
 ·(simp only [go_sem, *];try rfl)
 ·(simp only [go_sem, *];try rfl)
 ·(simp only [go_sem, *,Tryz.results170];try rfl)
 ·simp
 ·exact k8 HO.out (by simp [ax.ltB,Go.Fen.ltL,AV.lt,By.ltL,dE.ltL]) (by rw [we,oU,Ev.ltL];simp [Go.Fen.ltL,AV.lt,dE.ltL])
 ·have H1:=H.out
  simp only [aM,cJ,cL,ah,aI,aU,bg,aA,aC,di] at H1
  exact H1
theorem qy (p:Ps) (e:Ev):(jq p e).2.length≤1:=by
 unfold jq
 split<;>simp
theorem p_ (w0:World) (X:List ax) (p:Ps) (l:List Ev) (e:Ev) (hl:l.length≤1000000) (R:Rt) (h:R (.ret (.tup [])) (aM X (jq p e).1 (l++(jq p e).2))):ao Tryz.prog w0 214 [.own X.length 0,e.av] (aM X p l) R:=by
 have htell:=vY w0 X p l e hl
 have hbeg:=fun l=>eW w0 X p l 0
 have hbe2:=eW w0 X p (l++[e]) 0
 unfold jq at h
 rw [show e.av=.agg [.int .i64 e.kind,.int .i64 e.code,.int .u8 e.priv,.int .u8 e.fin,.sval false (e.pars.map dE),.str e.inter,.str e.text] from rfl] at htell ⊢
 have H:=ae h
 clear h hl
 refine eN Tryz.func214 rfl Tryz.ntmps214 fun hO=>?_
 have HO:=ae hO
 clear hO
 repeat' ((fail_if_success (apply bX 4 rfl));first | refine st ?_ | (refine br ?_ ?_<;>intro hb) | fail)
 refine Cr (aM X p l) (t:=3) [0,3] rfl HO.out rfl ss ss ?_ ?_
 ·simp only [go_sem, *,za]
 unfold aM cJ cL
 cases hb:p.bad
 ·have hb2:=hbe2
  simp only [aM,cJ,cL,hb] at htell hb2
  clear hbeg hbe2
  repeat' first | refine st ?_ | (refine ca ?_;first | apply htell | apply hb2) | (refine br ?_ ?_<;>intro hb) | fail
  apply vh (L:=[])
  ·(simp only [go_sem, *];try rfl)
  ·(simp only [go_sem, *];try rfl)
  ·(simp only [go_sem, *,Tryz.results214];try rfl)
  ·simp
  ·exact fF (q:=cB 0) (k:=l++[e]) HO.out
  ·have H1:=H.out
   rw [hb] at H1
   exact H1
 ·have hb2:=hbeg l
  simp only [aM,cJ,cL,hb] at hb2
  clear hbeg hbe2 htell
  repeat' first | refine st ?_ | (refine ca ?_;apply hb2) | (refine br ?_ ?_<;>intro hb) | fail
  apply vh (L:=[])
  ·(simp only [go_sem, *];try rfl)
  ·(simp only [go_sem, *];try rfl)
  ·(simp only [go_sem, *,Tryz.results214];try rfl)
  ·simp
  ·exact fF (q:=cB 0) (k:=l) HO.out
  ·have H1:=H.out
   rw [hb] at H1
   simp only [if_true,aE] at H1
   exact H1
theorem sS (w0:World) (X:List ax) (p:Ps) (l:List Ev) (b:Nat) (hi:p.inter.length≤2) (R:Rt) (h:R (.ret (.tup [])) (aM X (ks p b) l)):ao Tryz.prog w0 260 [.own X.length 0,.int .u8 b] (aM X p l) R:=by
 have hsp:=oI w0 X p l
 by_cases hc:p.bad∨p.inter.length=2
 ·unfold ks at h
  rw [if_pos hc] at h
  have H:=ae h
  clear h
  refine eN Tryz.func260 rfl Tryz.ntmps260 fun hO=>?_
  have HO:=ae hO
  clear hO
  unfold aM cJ cL
  cases hb:p.bad
  ·have h2:((p.inter.length:Int)==2)=true:=by
    rcases hc with hc | hc
    ·rw [hb] at hc;cases hc
    ·rw [hc];rfl
   simp only [aM,cJ,cL,hb] at hsp
   clear hc hi
   repeat' first | refine st ?_ | (refine ca ?_;apply hsp) | (refine br ?_ ?_<;>intro hb) | fail
   apply rS (L:=[])
   ·(simp only [go_sem, *];try rfl)
   ·(simp only [go_sem, *];try rfl)
   ·(simp only [go_sem, *,Tryz.results260];try rfl)
   ·simp
   ·exact fF (q:=nJ p.st) HO.out
   ·exact H.out
  ·simp only [aM,cJ,cL,hb] at hsp
   clear hc hi
   repeat' first | refine st ?_ | (refine ca ?_;apply hsp) | (refine br ?_ ?_<;>intro hb) | fail
   apply rS (L:=[])
   ·(simp only [go_sem, *];try rfl)
   ·(simp only [go_sem, *];try rfl)
   ·(simp only [go_sem, *,Tryz.results260];try rfl)
   ·simp
   ·exact fF (q:=nJ p.st) HO.out
   ·exact H.out
 ·unfold ks at h
  rw [if_neg hc] at h
  rw [not_or] at hc
  have hb:p.bad=false:=by simpa using hc.1
  have h2:((p.inter.length:Int)==2)=false:=by rw [beq_eq_false_iff_ne];omega
  have h3:p.inter.length+1≤9223372036854775807:=by omega
  have H:=ae h
  clear h hc hi hsp
  refine eN Tryz.func260 rfl Tryz.ntmps260 fun hO=>?_
  have HO:=ae hO
  clear hO
  unfold aM cJ cL
  rw [hb]
  repeat' first | refine st ?_ | (refine br ?_ ?_<;>intro hb) | refine sd ?_ | refine sx ?_ | apply aB | (apply aL;(· decide +kernel)) | refine bd ?_ ?_ | fail
  (apply bD HO.out H.out;(· simp);(· (simp only [go_sem, *];try rfl));(· (simp only [go_sem, *];try rfl));(· (simp only [go_sem, *,Tryz.results260];try rfl)))
theorem zj (p:Ps) (b:Nat):(kD p b).2.length≤1:=by
 unfold kD
 split
 ·exact qy _ _
 ·simp
theorem yK (w0:World) (X:List ax) (p:Ps) (l:List Ev) (b:Nat) (hl:l.length≤1000000) (hs:p.st≤14) (R:Rt) (h:R (.ret (.tup [])) (aM X (kD p b).1 (l++(kD p b).2))):ao Tryz.prog w0 262 [.own X.length 0,.int .u8 b] (aM X p l) R:=by
 have hd:=p_ w0 X p l (zz p b) hl
 unfold kD at h
 by_cases h5:p.st≤5
 ·rw [if_pos h5] at h
  have d5:decide ((p.st:Int)≤5)=true:=by simp;omega
  have hav:(zz p b).av=.agg [.int .i64 4,.int .i64 0,.int .u8 p.pv,.int .u8 b,.sval false (p.pars.map dE),.str p.inter,.str []]:=rfl
  rw [hav] at hd
  have H:=ae h
  clear h h5 hl
  refine eN Tryz.func262 rfl Tryz.ntmps262 fun hO=>?_
  have HO:=ae hO
  clear hO
  unfold aM cJ cL
  repeat' ((fail_if_success (apply bX 9 rfl));first | refine st ?_ | (refine br ?_ ?_<;>intro hb) | fail)
  refine ou 4 [0,1,4] rfl HO.out (by simp) ss ss ss ?_
  simp only [aM,cJ,cL] at hd
  repeat' first | refine st ?_ | (refine ca ?_;apply hd) | (refine br ?_ ?_<;>intro hb) | fail
  (apply lP HO.out H.out;(· simp);(· (simp only [go_sem, *];try rfl));(· (simp only [go_sem, *];try rfl));(· (simp only [go_sem, *,Tryz.results262];try rfl)))
 ·rw [if_neg h5] at h
  have d5:decide ((p.st:Int)≤5)=false:=by simp;omega
  rw [aE] at h
  clear h5 hl hd
  cases hb:p.bad
  all_goals
   rw [hb] at h
   have H:=ae h
   clear h
   refine eN Tryz.func262 rfl Tryz.ntmps262 fun hO=>?_
   have HO:=ae hO
   clear hO
   unfold aM cJ cL
   rw [hb]
   repeat' ((fail_if_success (apply bX 9 rfl));first | refine st ?_ | (refine br ?_ ?_<;>intro hb) | fail)
   refine ou 4 [0,1,4] rfl (by first | exact fF (q:={ p with bad:=false }) (k:=l) HO.out | exact fF (q:={ p with bad:=true }) (k:=l) HO.out) (by simp) ss ss ss ?_
   repeat' first | refine st ?_ | (refine br ?_ ?_<;>intro hb) | fail
   (apply bD HO.out H.out;(· simp);(· (simp only [go_sem, *];try rfl));(· (simp only [go_sem, *];try rfl));(· (simp only [go_sem, *,Tryz.results262];try rfl)))
theorem qk {l:List (List Int)} (h:l≠[]):gU l=l:=if_neg h
theorem lw {α β:Type} (f:α→β) (q:List α) (x:α):lm q.length (bE f (q++[x]))=bE f q:=by
 rw [bg,List.take_append_of_le_length (by simp),cA (by simp)]
theorem tp {α β:Type} (f:α→β) (q:List α) (x:α):bE f q++[f x]=bE f (q++[x]):=by simp
theorem jv.all1 (l:List Int):((l.map jv).all fun el=>el.cells.length==1)=true:=by
 rw [aq];intro x hx;obtain⟨y,_,rfl⟩:=aH.1 hx;rfl
theorem dE.all1 (l:List (List Int)):((l.map dE).all fun el=>el.cells.length==1)=true:=by
 rw [aq];intro x hx;obtain⟨y,_,rfl⟩:=aH.1 hx;rfl
theorem tg (w0:World) (S:List ax) (q:List Int) (n v:Int) (hq:q.length≤1000) (R:Rt) (h:R (.ret (.sval false ((q++[v]).map jv))) S):ao Tryz.prog w0 324 [.sval false ((q++[n]).map jv),.int .i64 v] S R:=by
 have hlen:(q++[n]).length=q.length+1:=by simp
 have hw:af.wrap (((q.length+1:Nat):Int) - 1)=(q.length:Int):=by rw [au _ (by omega)];omega
 have htk:=lw jv q n
 have hle:(q.length:Int)≤((q.length+1:Nat):Int):=by omega
 have hle2:(q.length:Int)≤(q.length:Int):=wA _
 have hb8:(q.length+1) * 8≤140737488355328:=by omega
 have hbe:(q.length==q.length)=true:=by simp
 have hall:=jv.all1 (q++[n])
 simp only [AV.cells] at hall
 have okA:=jv.ok q
 simp only [cC,AV.cells] at okA
 have h:R (.ret (.sval false (bE jv q++[.int .i64 v]))) S:=by rw [← tp] at h;exact h
 have H:=ae h
 clear h
 refine eN Tryz.func324 rfl Tryz.ntmps324 fun hO=>?_
 repeat' first | refine st ?_ | (refine br ?_ ?_<;>intro hb) | fail
 have hl2:(q.length+1=(bE jv q++[AV.int .i64 v]).length)=True:=by simp
 refine fR Tryz.results324 ?_
 exact H.out
theorem yY (w0:World) (S:List ax) (q:List (List Int)) (n v:List Int) (hq:q.length≤1000) (R:Rt) (h:R (.ret (.sval false ((q++[v]).map dE))) S):ao Tryz.prog w0 323 [.sval false ((q++[n]).map dE),dE v] S R:=by
 have hlen:(q++[n]).length=q.length+1:=by simp
 have hw:af.wrap (((q.length+1:Nat):Int) - 1)=(q.length:Int):=by rw [au _ (by omega)];omega
 have htk:=lw dE q n
 have hle:(q.length:Int)≤((q.length+1:Nat):Int):=by omega
 have hle2:(q.length:Int)≤(q.length:Int):=wA _
 have hb8:(q.length+1) * 24≤140737488355328:=by omega
 have hbe:(q.length==q.length)=true:=by simp
 have hall:=dE.all1 (q++[n])
 simp only [AV.cells] at hall
 have okA:=dE.ok q
 simp only [cC,AV.cells] at okA
 have h:R (.ret (.sval false (bE dE q++[.agg [.sval false (v.map jv)]]))) S:=by rw [← tp] at h;exact h
 have H:=ae h
 clear h
 rw [show dE v=.agg [.sval false (v.map jv)] from rfl]
 refine eN Tryz.func323 rfl Tryz.ntmps323 fun hO=>?_
 repeat' first | refine st ?_ | (refine br ?_ ?_<;>intro hb) | refine sd ?_ | refine sx ?_ | apply aB | (apply aL;(· decide +kernel)) | refine bd ?_ ?_ | fail
 all_goals have hl2:(q.length+1=(bE dE q++[AV.agg [.sval false (bE jv v)]]).length)=True:=by simp
 all_goals refine fR Tryz.results323 ?_
 all_goals exact H.out
theorem yX (w0:World) (S:List ax) (a:Nat) (ty:Option TypeId) (q:List (List Int)) (n v:List Int) (hq:q.length≤1000) (ha:S[a]? = some (.cells [.sval false ((q++[n]).map dE)] ty)) (R:Rt) (h:R (.ret (.tup [.sval false ((q++[v]).map dE),.int .i64 0])) S):ao Tryz.prog w0 322 [.sval false (v.map jv),.own a 0] S R:=by
 have hc:=fun S'=>yY w0 S' q n v hq
 rw [show dE v=.agg [.sval false (v.map jv)] from rfl] at hc
 clear hq
 refine eN Tryz.func322 rfl Tryz.ntmps322 fun hO=>?_
 repeat' first | refine st ?_ | (refine ca ?_;apply hc) | (refine br ?_ ?_<;>intro hb) | fail
 refine fR Tryz.results322 ?_
 exact h
def qV (q:List (List Int) × Int):AV:=.tup [.sval false (q.1.map dE),.int .i64 q.2]
theorem Dj (w0:World) (S:List ax) (pre:List (List Int)) (q:List Int) (n:Int) (c:Nat) (hc:c<256) (hok:eo (pre++[q++[n]])=true) (h1:pre.length≤15) (h2:q.length≤5) (h3 : -1≤n∧n≤9999) (R:Rt) (h:R (.ret (qV (lu (pre++[q++[n]]) c))) S) :
  ao Tryz.prog w0 299 [.sval false ((pre++[q++[n]]).map dE),.int .u8 c] S R:=by
 have hck:=fun S'=>rp w0 S' (pre++[q++[n]]) ⟨by simp;omega,by
  intro s hs
  rcases bv.1 hs with hs | hs
  ·unfold eo at hok
   simp only [aj,decide_eq_true_eq,az,dy,bj,List.any_eq_false] at hok
   have:=hok.2.2.1 s hs
   unfold jd at this
   simp only [ef,not_or,decide_eq_true_eq] at this
   omega
  ·rw [aZ.1 hs];simp;omega⟩
 unfold w_ at hck
 rw [hok] at hck
 rw [kp (qk (by simp))] at h
 have hlen:(pre++[q++[n]]).length=pre.length+1:=by simp
 have hlen2:(q++[n]).length=q.length+1:=by simp
 have hx:(pre++[q++[n]])[pre.length]? = some (q++[n]):=by simp
 have hy:(q++[n])[q.length]? = some n:=by simp
 have hw1:af.wrap (((pre.length+1:Nat):Int) - 1)=(pre.length:Int):=by rw [au _ (by omega)];omega
 have hw2:af.wrap (((q.length+1:Nat):Int) - 1)=(q.length:Int):=by rw [au _ (by omega)];omega
 have e0:(((pre.length+1:Nat):Int)==0)=false:=by rw [beq_eq_false_iff_ne];omega
 have hall1:=dE.all1 (pre++[q++[n]])
 have hall2:=jv.all1 (q++[n])
 simp only [AV.cells] at hall1 hall2
 have okA:=dE.ok (pre++[q++[n]])
 have okB:=jv.ok (q++[n])
 simp only [cC,AV.cells] at okA okB
 have hch:=fun S' v=>yX w0 S' (S.length) none pre (q++[n]) v (by omega)
 have hci:=fun S' v=>tg w0 S' q n v (by omega)
 have H3:=ae h3
 clear hok h3
 by_cases c1:c=59
 ·subst c1
  rw [if_pos rfl] at h
  by_cases hp:pre.length<15
  ·rw [if_pos hp] at h
   have d1:decide (((pre.length+1:Nat):Int)<16)=true:=by simp;omega
   have hle:((pre.length+1:Nat):Int)≤((pre.length+1:Nat):Int):=wA _
   have hbe:(pre.length+1==pre.length+1)=true:=by simp
   have hb8:(pre.length+1+1) * 24≤140737488355328:=by omega
   have htk:lm (pre.length+1) (bE dE (pre++[q++[n]]))=bE dE (pre++[q++[n]]):=cA (by simp)
   have h:R (.ret (.tup [.sval false (bE dE (pre++[q++[n]])++[.agg [.sval false [.int .i64 (-1)]]]),.int .i64 0])) S:=by
    have e:bE dE (pre++[q++[n]])++[.agg [.sval false [.int .i64 (-1)]]]=bE dE (pre++[q++[n],[-1]]):=by simp [dE,jv]
    rw [e];exact h
   have H:=ae h
   clear h hp h1 h2 hch hci
   refine eN Tryz.func299 rfl Tryz.ntmps299 fun hO=>?_
   repeat' ((fail_if_success (apply bX 44 rfl));first | refine st ?_ | (refine ca ?_;apply hck) | (refine br ?_ ?_<;>intro hb) | fail)
   refine ot (t:=43) (a:=S.length+1) rfl ss ss ?_
   repeat' first | refine st ?_ | (refine ca ?_;apply hck) | (refine br ?_ ?_<;>intro hb) | fail
   have hl2:(pre.length+1+1=(bE dE (pre++[q++[n]])++[AV.agg [.sval false [.int .i64 (-1)]]]).length)=True:=by simp
   refine fR Tryz.results299 ?_
   exact H.out
  ·rw [if_neg hp] at h
   have d1:decide (((pre.length+1:Nat):Int)<16)=false:=by simp;omega
   have H:=ae h
   clear h hp h1 h2 hch hci
   refine eN Tryz.func299 rfl Tryz.ntmps299 fun hO=>?_
   repeat' first | refine st ?_ | (refine ca ?_;apply hck) | (refine br ?_ ?_<;>intro hb) | refine sd ?_ | refine sx ?_ | apply aB | (apply aL;(· decide +kernel)) | refine bd ?_ ?_ | (refine cd ?_;apply hck) | fail
   refine fR Tryz.results299 ?_
   exact H.out
 rw [if_neg c1] at h
 have f1:((c:Int)==59)=false:=by rw [beq_eq_false_iff_ne];omega
 by_cases c2:c=58
 ·subst c2
  rw [if_pos rfl] at h
  by_cases hp:q.length<5
  ·rw [if_pos hp] at h
   have d1:decide (((q.length+1:Nat):Int)<6)=true:=by simp;omega
   have hle:((q.length+1:Nat):Int)≤((q.length+1:Nat):Int):=wA _
   have hbe:(q.length+1==q.length+1)=true:=by simp
   have hb8:(q.length+1+1) * 8≤140737488355328:=by omega
   have htk:lm (q.length+1) (bE jv (q++[n]))=bE jv (q++[n]):=cA (by simp)
   have hch2:=fun S'=>hch S' (q++[n,-1])
   have e:bE jv (q++[n,-1])=bE jv (q++[n])++[.int .i64 (-1)]:=by simp [jv]
   rw [e] at hch2
   have H:=ae h
   clear h hp h1 h2 hch hci e
   refine eN Tryz.func299 rfl Tryz.ntmps299 fun hO=>?_
   repeat' ((fail_if_success (apply bX 64 rfl));first | refine st ?_ | (refine ca ?_;apply hck) | (refine br ?_ ?_<;>intro hb) | fail)
   have hl2:(q.length+1+1=(bE jv (q++[n])++[AV.int .i64 (-1)]).length)=True:=by simp
   refine ot (t:=63) (a:=S.length+2) rfl ss ss ?_
   repeat' first | refine st ?_ | (refine ca ?_;(apply hch2;(· simp only [go_sem, *];try rfl))) | (refine br ?_ ?_<;>intro hb) | fail
   refine fR Tryz.results299 ?_
   exact H.out
  ·rw [if_neg hp] at h
   have d1:decide (((q.length+1:Nat):Int)<6)=false:=by simp;omega
   have H:=ae h
   clear h hp h1 h2 hch hci
   refine eN Tryz.func299 rfl Tryz.ntmps299 fun hO=>?_
   repeat' first | refine st ?_ | (refine ca ?_;apply hck) | (refine br ?_ ?_<;>intro hb) | refine sd ?_ | refine sx ?_ | apply aB | (apply aL;(· decide +kernel)) | refine bd ?_ ?_ | (refine cd ?_;apply hck) | fail
   refine fR Tryz.results299 ?_
   exact H.out
 rw [if_neg c2] at h
 have f2:((c:Int)==58)=false:=by rw [beq_eq_false_iff_ne];omega
 by_cases c3:48≤c∧c≤57
 ·rw [if_pos c3] at h
  have g1:decide ((48:Int)≤(c:Int))=true:=by simp;omega
  have g2:decide ((c:Int)≤57)=true:=by simp;omega
  have hwc:aW.wrap ((c:Int) - 48)=(c:Int) - 48:=en _ (by omega)
  have hwd:af.wrap ((c:Int) - 48)=(c:Int) - 48:=au _ (by omega)
  obtain⟨m,hm⟩:∃ m:Int,(if (0:Int)<n then n else 0)=m:=⟨_,rfl⟩
  have hm2:m=max 0 n∧0≤m∧m≤9999:=by have:=H3.out;subst hm;split<;>omega
  have hwm:af.wrap (m * 10)=m * 10:=au _ (by omega)
  have hwa:af.wrap (m * 10+((c:Int) - 48))=m * 10+((c:Int) - 48):=au _ (by omega)
  obtain⟨v,hv⟩:∃ v:Int,(if (9999:Int)<m * 10+((c:Int) - 48) then 9999 else m * 10+((c:Int) - 48))=v:=⟨_,rfl⟩
  have hv2:v=min (max 0 n * 10+((c:Int) - 48)) 9999:=by subst hv;rw [← hm2.1];split<;>omega
  rw [← hv2] at h
  have hch2:=fun S'=>hch S' (q++[v])
  have hci2:=fun S'=>hci S' v
  have H:=ae h
  clear h c1 c2 c3 h1 h2 hch hci hv2 hm2
  refine eN Tryz.func299 rfl Tryz.ntmps299 fun hO=>?_
  repeat' first | refine st ?_ | (refine ca ?_;first | apply hck | (apply hch2;(· simp only [go_sem, *];try rfl)) | apply hci2) | (refine br ?_ ?_<;>intro hb) | fail
  refine fR Tryz.results299 ?_
  exact H.out
 ·rw [if_neg c3] at h
  have H:=ae h
  clear h h1 h2 hch hci
  by_cases c4:48≤c
  ·have g1:decide ((48:Int)≤(c:Int))=true:=by simp;omega
   have g2:decide ((c:Int)≤57)=false:=by simp;omega
   clear c1 c2 c3 c4
   refine eN Tryz.func299 rfl Tryz.ntmps299 fun hO=>?_
   repeat' first | refine st ?_ | (refine ca ?_;apply hck) | (refine br ?_ ?_<;>intro hb) | fail
   refine fR Tryz.results299 ?_
   exact H.out
  ·have g1:decide ((48:Int)≤(c:Int))=false:=by simp;omega
   clear c1 c2 c3 c4
   refine eN Tryz.func299 rfl Tryz.ntmps299 fun hO=>?_
   repeat' first | refine st ?_ | (refine ca ?_;apply hck) | (refine br ?_ ?_<;>intro hb) | fail
   refine fR Tryz.results299 ?_
   exact H.out
theorem Dk (w0:World) (S:List ax) (c:Nat) (hc:c<256) (R:Rt) (h:R (.ret (qV (lu [] c))) S) :
  ao Tryz.prog w0 299 [.sval false [],.int .u8 c] S R:=by
 have hck:=fun S'=>rp w0 S' [] ⟨by decide,by simp⟩
 have hck0:w_ []=0:=by decide
 rw [hck0] at hck
 simp only [aC] at hck
 rw [kp (pre:=[]) (q:=[]) (n:=-1) rfl] at h
 have hch:=fun S' v=>yX w0 S' S.length none [] [-1] v (by decide)
 simp only [cU,aA,aC,dE,jv] at hch
 have hci:=fun S' v=>tg w0 S' [] (-1) v (by decide)
 simp only [cU,aA,aC,dE,jv] at hci
 simp only [cU,aU] at h
 by_cases c1:c=59
 ·subst c1
  have H:=ae h
  clear h hch hci
  refine eN Tryz.func299 rfl Tryz.ntmps299 fun hO=>?_
  repeat' ((fail_if_success (apply bX 21 rfl));first | refine st ?_ | (refine ca ?_;apply hck) | (refine br ?_ ?_<;>intro hb) | fail)
  refine yi S.length [S.length+1,S.length+2] ss ss ss ss ?_
  simp only [go_sem, *]
  repeat' ((fail_if_success (apply bX 44 rfl));first | refine st ?_ | (refine ca ?_;apply hck) | (refine br ?_ ?_<;>intro hb) | fail)
  refine ot (t:=43) (a:=S.length+3) rfl ss ss ?_
  repeat' first | refine st ?_ | (refine ca ?_;apply hck) | (refine br ?_ ?_<;>intro hb) | fail
  refine fR Tryz.results299 ?_
  exact H.out
 rw [if_neg c1] at h
 have f1:((c:Int)==59)=false:=by rw [beq_eq_false_iff_ne];omega
 by_cases c2:c=58
 ·subst c2
  have hch2:=fun S'=>hch S' [-1,-1]
  simp only [aA,aC,jv] at hch2
  have H:=ae h
  clear h hch hci
  refine eN Tryz.func299 rfl Tryz.ntmps299 fun hO=>?_
  repeat' ((fail_if_success (apply bX 21 rfl));first | refine st ?_ | (refine ca ?_;apply hck) | (refine br ?_ ?_<;>intro hb) | fail)
  refine yi S.length [S.length+1,S.length+2] ss ss ss ss ?_
  simp only [go_sem, *]
  repeat' ((fail_if_success (apply bX 64 rfl));first | refine st ?_ | (refine ca ?_;apply hck) | (refine br ?_ ?_<;>intro hb) | fail)
  refine ot (t:=63) (a:=S.length+4) rfl ss ss ?_
  repeat' first | refine st ?_ | (refine ca ?_;(apply hch2;(· simp only [go_sem, *];try rfl))) | (refine br ?_ ?_<;>intro hb) | fail
  refine fR Tryz.results299 ?_
  exact H.out
 rw [if_neg c2] at h
 have f2:((c:Int)==58)=false:=by rw [beq_eq_false_iff_ne];omega
 by_cases c3:48≤c∧c≤57
 ·rw [if_pos c3] at h
  have g1:decide ((48:Int)≤(c:Int))=true:=by simp;omega
  have g2:decide ((c:Int)≤57)=true:=by simp;omega
  have hwc:aW.wrap ((c:Int) - 48)=(c:Int) - 48:=en _ (by omega)
  have hwd:af.wrap ((c:Int) - 48)=(c:Int) - 48:=au _ (by omega)
  have hwa:af.wrap (0+((c:Int) - 48))=(c:Int) - 48:=by rw [Int.zero_add];exact hwd
  have hw0:af.wrap ((if (-1:Int)>0 then -1 else 0) * 10)=0:=by decide
  have hv:((9999:Int)<(c:Int) - 48)=False:=eq_false (by omega)
  rw [show min (max 0 (-1:Int) * 10+((c:Int) - 48)) 9999=(c:Int) - 48 by omega] at h
  obtain⟨v,hvv⟩:∃ v:Int,(c:Int) - 48=v:=⟨_,rfl⟩
  rw [hvv] at hwc hwd hwa hv h
  have hch2:=fun S'=>hch S' [v]
  simp only [aA,aC,jv] at hch2
  have hci2:=fun S'=>hci S' v
  have H:=ae h
  clear h c1 c2 c3 hch hci
  refine eN Tryz.func299 rfl Tryz.ntmps299 fun hO=>?_
  repeat' ((fail_if_success (apply bX 21 rfl));first | refine st ?_ | (refine ca ?_;apply hck) | (refine br ?_ ?_<;>intro hb) | fail)
  refine yi S.length [S.length+1,S.length+2] ss ss ss ss ?_
  simp only [go_sem, *]
  repeat' first | refine st ?_ | (refine ca ?_;first | (apply hch2;(· simp only [go_sem, *];try rfl)) | apply hci2) | (refine br ?_ ?_<;>intro hb) | fail
  refine fR Tryz.results299 ?_
  exact H.out
 ·rw [if_neg c3] at h
  have H:=ae h
  clear h hch hci
  by_cases c4:48≤c
  ·have g1:decide ((48:Int)≤(c:Int))=true:=by simp;omega
   have g2:decide ((c:Int)≤57)=false:=by simp;omega
   clear c1 c2 c3 c4
   refine eN Tryz.func299 rfl Tryz.ntmps299 fun hO=>?_
   repeat' first | refine st ?_ | (refine ca ?_;apply hck) | (refine br ?_ ?_<;>intro hb) | fail
   refine fR Tryz.results299 ?_
   exact H.out
  ·have g1:decide ((48:Int)≤(c:Int))=false:=by simp;omega
   clear c1 c2 c3 c4
   refine eN Tryz.func299 rfl Tryz.ntmps299 fun hO=>?_
   repeat' first | refine st ?_ | (refine ca ?_;apply hck) | (refine br ?_ ?_<;>intro hb) | fail
   refine fR Tryz.results299 ?_
   exact H.out
theorem EL (w0:World) (S:List ax) (l:List (List Int)) (c:Nat) (hc:c<256) (hok:eo l=true) (R:Rt) (h:R (.ret (qV (lu l c))) S):ao Tryz.prog w0 299 [.sval false (l.map dE),.int .u8 c] S R:=by
 by_cases hl:l=[]
 ·subst hl;exact Dk w0 S c hc R h
 ·obtain⟨pre,q,n,e,h1,h2,h3,_,_⟩:=nt hok
  rw [qk hl] at e
  subst e
  exact Dj w0 S pre q n c hc hok h1 h2 h3 R h
theorem yO (w0:World) (X:List ax) (p:Ps) (l:List Ev) (b:Nat) (hb8:b<256) (hok:eo p.pars=true) (R:Rt) (h:R (.ret (.tup [])) (aM X (xE p b) l)):ao Tryz.prog w0 261 [.own X.length 0,.int .u8 b] (aM X p l) R:=by
 have hsp:=oI w0 X p l
 have hst:=fun S'=>EL w0 S' p.pars b hb8 hok
 unfold qV at hst
 unfold xE at h
 generalize lu p.pars b=q at h hst
 obtain⟨q1,q2⟩:=q
 simp only at h hst
 clear hok hb8
 by_cases hq:q2=0
 ·subst hq
  cases hb:p.bad
  ·have h:R (.ret (.tup [])) (aM X { p with pars:=q1 } l):=by simpa [hb] using h
   have H:=ae h
   clear h hsp
   refine eN Tryz.func261 rfl Tryz.ntmps261 fun hO=>?_
   have HO:=ae hO
   clear hO
   unfold aM cJ cL
   rw [hb]
   repeat' first | refine st ?_ | (refine ca ?_;apply hst) | (refine br ?_ ?_<;>intro hb) | fail
   (apply bD HO.out H.out;(· simp);(· (simp only [go_sem, *];try rfl));(· (simp only [go_sem, *];try rfl));(· (simp only [go_sem, *,Tryz.results261];try rfl)))
  ·have h:R (.ret (.tup [])) (aM X (nJ p.st) l):=by simpa [hb] using h
   have H:=ae h
   clear h
   refine eN Tryz.func261 rfl Tryz.ntmps261 fun hO=>?_
   have HO:=ae hO
   clear hO
   unfold aM cJ cL
   simp only [aM,cJ,cL,hb] at hsp ⊢
   repeat' first | refine st ?_ | (refine ca ?_;first | apply hst | apply hsp) | (refine br ?_ ?_<;>intro hb) | fail
   (apply lP HO.out H.out;(· simp);(· (simp only [go_sem, *];try rfl));(· (simp only [go_sem, *];try rfl));(· (simp only [go_sem, *,Tryz.results261];try rfl)))
 ·have h:R (.ret (.tup [])) (aM X (nJ p.st) l):=by simpa [hq] using h
  have hq2:(q2==0)=false:=by rw [beq_eq_false_iff_ne];exact hq
  have hq3:(q2 != 0)=true:=by simpa using hq
  have hq4:decide (q2=0)=false:=by simpa using hq
  have H:=ae h
  clear h hq
  refine eN Tryz.func261 rfl Tryz.ntmps261 fun hO=>?_
  have HO:=ae hO
  clear hO
  unfold aM cJ cL
  simp only [aM,cJ,cL] at hsp
  repeat' first | refine st ?_ | (refine ca ?_;first | apply hst | apply hsp) | (refine br ?_ ?_<;>intro hb) | fail
  (apply lP HO.out H.out;(· simp);(· (simp only [go_sem, *];try rfl));(· (simp only [go_sem, *];try rfl));(· (simp only [go_sem, *,Tryz.results261];try rfl)))
theorem AW (w0:World) (X:List ax) (p:Ps) (l:List Ev) (b:Nat) (hl:l.length≤1000000) (hb:b<256) (R:Rt) (h:R (.ret (.tup [])) (aM X p (l++[jL b]))):ao Tryz.prog w0 216 [.own X.length 0,.int .u8 b] (aM X p l) R:=by
 have k0:=vY w0 X p l (jL b) hl
 rw [show (jL b).av=.agg [.int .i64 1,.int .i64 b,.int .u8 0,.int .u8 0,.sval false [],.str [],.str []] from rfl] at k0
 simp only [aM,cJ,cL] at k0
 have hw:af.wrap (b:Int)=(b:Int):=au _ (by omega)
 have H:=ae h
 clear h hl hb
 refine eN Tryz.func216 rfl Tryz.ntmps216 fun hO=>?_
 have HO:=ae hO
 clear hO
 unfold aM cJ cL
 repeat' first | refine st ?_ | (refine ca ?_;apply k0) | (refine br ?_ ?_<;>intro hb) | fail
 (apply bD HO.out H.out;(· simp);(· (simp only [go_sem, *];try rfl));(· (simp only [go_sem, *];try rfl));(· (simp only [go_sem, *,Tryz.results216];try rfl)))
theorem AY (w0:World) (X:List ax) (p:Ps) (l:List Ev) (b:Nat) (hl:l.length≤1000000) (hp:ep p) (hb:b<256) (R:Rt) (h:R (.ret (.tup [])) (aM X (xB p b).1 (l++(xB p b).2))):ao Tryz.prog w0 217 [.own X.length 0,.int .u8 b] (aM X p l) R:=by
 unfold xB at h
 by_cases c91:b=91
 ·rw [if_pos c91] at h
  try simp only [aE] at h
  have e91:((b:Int)==91)=true:=by simp;omega
  have k0:=eW w0 X p l 3
  simp only [aM,cJ,cL] at k0
  have H:=ae h
  clear h hl hp hb
  refine eN Tryz.func217 rfl Tryz.ntmps217 fun hO=>?_
  have HO:=ae hO
  clear hO
  unfold aM cJ cL
  repeat' first | refine st ?_ | (refine ca ?_;apply k0) | (refine br ?_ ?_<;>intro hb) | fail
  (apply bD HO.out H.out;(· simp);(· (simp only [go_sem, *];try rfl));(· (simp only [go_sem, *];try rfl));(· (simp only [go_sem, *,Tryz.results217];try rfl)))
 rw [if_neg c91] at h
 by_cases c93:b=93
 ·rw [if_pos c93] at h
  try simp only [aE] at h
  have e91:((b:Int)==91)=false:=by rw [beq_eq_false_iff_ne];omega
  have e93:((b:Int)==93)=true:=by simp;omega
  have k0:=eW w0 X p l 6
  simp only [aM,cJ,cL] at k0
  have H:=ae h
  clear h hl hp hb
  refine eN Tryz.func217 rfl Tryz.ntmps217 fun hO=>?_
  have HO:=ae hO
  clear hO
  unfold aM cJ cL
  repeat' first | refine st ?_ | (refine ca ?_;apply k0) | (refine br ?_ ?_<;>intro hb) | fail
  (apply bD HO.out H.out;(· simp);(· (simp only [go_sem, *];try rfl));(· (simp only [go_sem, *];try rfl));(· (simp only [go_sem, *,Tryz.results217];try rfl)))
 rw [if_neg c93] at h
 by_cases c80:b=80
 ·rw [if_pos c80] at h
  try simp only [aE] at h
  have e91:((b:Int)==91)=false:=by rw [beq_eq_false_iff_ne];omega
  have e93:((b:Int)==93)=false:=by rw [beq_eq_false_iff_ne];omega
  have e80:((b:Int)==80)=true:=by simp;omega
  have k0:=eW w0 X p l 8
  simp only [aM,cJ,cL] at k0
  have H:=ae h
  clear h hl hp hb
  refine eN Tryz.func217 rfl Tryz.ntmps217 fun hO=>?_
  have HO:=ae hO
  clear hO
  unfold aM cJ cL
  repeat' first | refine st ?_ | (refine ca ?_;apply k0) | (refine br ?_ ?_<;>intro hb) | fail
  (apply bD HO.out H.out;(· simp);(· (simp only [go_sem, *];try rfl));(· (simp only [go_sem, *];try rfl));(· (simp only [go_sem, *,Tryz.results217];try rfl)))
 rw [if_neg c80] at h
 by_cases c88:b=88∨b=94∨b=95
 ·rw [if_pos c88] at h
  rcases c88 with rfl | rfl | rfl
  ·
   try simp only [aE] at h
   have k0:=eW w0 X p l 13
   simp only [aM,cJ,cL] at k0
   have H:=ae h
   clear h hl hp hb
   refine eN Tryz.func217 rfl Tryz.ntmps217 fun hO=>?_
   have HO:=ae hO
   clear hO
   unfold aM cJ cL
   repeat' first | refine st ?_ | (refine ca ?_;apply k0) | (refine br ?_ ?_<;>intro hb) | fail
   (apply bD HO.out H.out;(· simp);(· (simp only [go_sem, *];try rfl));(· (simp only [go_sem, *];try rfl));(· (simp only [go_sem, *,Tryz.results217];try rfl)))
  ·
   try simp only [aE] at h
   have k0:=eW w0 X p l 13
   simp only [aM,cJ,cL] at k0
   have H:=ae h
   clear h hl hp hb
   refine eN Tryz.func217 rfl Tryz.ntmps217 fun hO=>?_
   have HO:=ae hO
   clear hO
   unfold aM cJ cL
   repeat' first | refine st ?_ | (refine ca ?_;apply k0) | (refine br ?_ ?_<;>intro hb) | fail
   (apply bD HO.out H.out;(· simp);(· (simp only [go_sem, *];try rfl));(· (simp only [go_sem, *];try rfl));(· (simp only [go_sem, *,Tryz.results217];try rfl)))
  ·
   try simp only [aE] at h
   have k0:=eW w0 X p l 13
   simp only [aM,cJ,cL] at k0
   have H:=ae h
   clear h hl hp hb
   refine eN Tryz.func217 rfl Tryz.ntmps217 fun hO=>?_
   have HO:=ae hO
   clear hO
   unfold aM cJ cL
   repeat' first | refine st ?_ | (refine ca ?_;apply k0) | (refine br ?_ ?_<;>intro hb) | fail
   (apply bD HO.out H.out;(· simp);(· (simp only [go_sem, *];try rfl));(· (simp only [go_sem, *];try rfl));(· (simp only [go_sem, *,Tryz.results217];try rfl)))
 rw [if_neg c88] at h
 rw [not_or,not_or] at c88
 by_cases c48:b<48
 ·rw [if_pos c48] at h
  try simp only [aE] at h
  have e91:((b:Int)==91)=false:=by rw [beq_eq_false_iff_ne];omega
  have e93:((b:Int)==93)=false:=by rw [beq_eq_false_iff_ne];omega
  have e80:((b:Int)==80)=false:=by rw [beq_eq_false_iff_ne];omega
  have e88:((b:Int)==88)=false:=by rw [beq_eq_false_iff_ne];omega
  have e94:((b:Int)==94)=false:=by rw [beq_eq_false_iff_ne];omega
  have e95:((b:Int)==95)=false:=by rw [beq_eq_false_iff_ne];omega
  have d48:decide ((b:Int)<48)=true:=by simp;omega
  have k0:=eW w0 X p l 2
  have k1:=sS w0 X (cB 2) l b (bx _)
  simp only [aM,cJ,cL] at k0 k1
  have H:=ae h
  clear h hl hp hb
  refine eN Tryz.func217 rfl Tryz.ntmps217 fun hO=>?_
  have HO:=ae hO
  clear hO
  unfold aM cJ cL
  repeat' first | refine st ?_ | (refine ca ?_;first | apply k0 | apply k1) | (refine br ?_ ?_<;>intro hb) | fail
  (apply lP HO.out H.out;(· simp);(· (simp only [go_sem, *];try rfl));(· (simp only [go_sem, *];try rfl));(· (simp only [go_sem, *,Tryz.results217];try rfl)))
 rw [if_neg c48] at h
 have k0:=p_ w0 X p l (qw [] b) hl
 rw [show (qw [] b).av=.agg [.int .i64 3,.int .i64 0,.int .u8 0,.int .u8 b,.sval false [],.str [],.str []] from rfl] at k0
 simp only [aM,cJ,cL] at k0
 try simp only [aE] at h
 have e91:((b:Int)==91)=false:=by rw [beq_eq_false_iff_ne];omega
 have e93:((b:Int)==93)=false:=by rw [beq_eq_false_iff_ne];omega
 have e80:((b:Int)==80)=false:=by rw [beq_eq_false_iff_ne];omega
 have e88:((b:Int)==88)=false:=by rw [beq_eq_false_iff_ne];omega
 have e94:((b:Int)==94)=false:=by rw [beq_eq_false_iff_ne];omega
 have e95:((b:Int)==95)=false:=by rw [beq_eq_false_iff_ne];omega
 have d48:decide ((b:Int)<48)=false:=by simp;omega
 have H:=ae h
 clear h hl hp hb
 refine eN Tryz.func217 rfl Tryz.ntmps217 fun hO=>?_
 have HO:=ae hO
 clear hO
 unfold aM cJ cL
 repeat' first | refine st ?_ | (refine ca ?_;apply k0) | (refine br ?_ ?_<;>intro hb) | fail
 (apply bD HO.out H.out;(· simp);(· (simp only [go_sem, *];try rfl));(· (simp only [go_sem, *];try rfl));(· (simp only [go_sem, *,Tryz.results217];try rfl)))
theorem Dd (w0:World) (X:List ax) (p:Ps) (l:List Ev) (b:Nat) (hl:l.length≤1000000) (hp:ep p) (hb:b<256) (R:Rt) (h:R (.ret (.tup [])) (aM X (mT p b).1 (l++(mT p b).2))):ao Tryz.prog w0 218 [.own X.length 0,.int .u8 b] (aM X p l) R:=by
 unfold mT at h
 have hi:=hp.inter
 by_cases c48:b<48
 ·rw [if_pos c48] at h
  try simp only [aE] at h
  have d48:decide ((b:Int)<48)=true:=by simp;omega
  have k0:=sS w0 X p l b hi
  simp only [aM,cJ,cL] at k0
  have H:=ae h
  clear h hl hp hb
  refine eN Tryz.func218 rfl Tryz.ntmps218 fun hO=>?_
  have HO:=ae hO
  clear hO
  unfold aM cJ cL
  repeat' first | refine st ?_ | (refine ca ?_;apply k0) | (refine br ?_ ?_<;>intro hb) | fail
  (apply lP HO.out H.out;(· simp);(· (simp only [go_sem, *];try rfl));(· (simp only [go_sem, *];try rfl));(· (simp only [go_sem, *,Tryz.results218];try rfl)))
 rw [if_neg c48] at h
 have k0:=p_ w0 X p l (qw p.inter b) hl
 rw [show (qw p.inter b).av=.agg [.int .i64 3,.int .i64 0,.int .u8 0,.int .u8 b,.sval false [],.str p.inter,.str []] from rfl] at k0
 simp only [aM,cJ,cL] at k0
 try simp only [aE] at h
 have d48:decide ((b:Int)<48)=false:=by simp;omega
 have H:=ae h
 clear h hl hp hb
 refine eN Tryz.func218 rfl Tryz.ntmps218 fun hO=>?_
 have HO:=ae hO
 clear hO
 unfold aM cJ cL
 repeat' first | refine st ?_ | (refine ca ?_;apply k0) | (refine br ?_ ?_<;>intro hb) | fail
 (apply bD HO.out H.out;(· simp);(· (simp only [go_sem, *];try rfl));(· (simp only [go_sem, *];try rfl));(· (simp only [go_sem, *,Tryz.results218];try rfl)))
theorem yN (w0:World) (X:List ax) (p:Ps) (l:List Ev) (b:Nat) (hl:l.length≤1000000) (hp:ep p) (hb:b<256) (R:Rt) (h:R (.ret (.tup [])) (aM X (kJ p b).1 (l++(kJ p b).2))):ao Tryz.prog w0 219 [.own X.length 0,.int .u8 b] (aM X p l) R:=by
 unfold kJ at h
 have hs:=hp.st
 by_cases c48:b<48
 ·rw [if_pos c48] at h
  try simp only [aE] at h
  have d48:decide ((b:Int)<48)=true:=by simp;omega
  have hw:af.wrap ((p.st:Int)+2)=((p.st+2:Nat):Int):=by rw [au _ (by omega)];omega
  have k0:=eW w0 X p l (p.st+2)
  have k1:=sS w0 X (cB (p.st+2)) l b (bx _)
  simp only [aM,cJ,cL] at k0 k1
  have H:=ae h
  clear h hl hp hb
  refine eN Tryz.func219 rfl Tryz.ntmps219 fun hO=>?_
  have HO:=ae hO
  clear hO
  unfold aM cJ cL
  repeat' first | refine st ?_ | (refine ca ?_;first | apply k0 | apply k1) | (refine br ?_ ?_<;>intro hb) | fail
  (apply bD HO.out H.out;(· simp);(· (simp only [go_sem, *];try rfl));(· (simp only [go_sem, *];try rfl));(· (simp only [go_sem, *,Tryz.results219];try rfl)))
 rw [if_neg c48] at h
 by_cases c60:b<60
 ·rw [if_pos c60] at h
  try simp only [aE] at h
  have d48:decide ((b:Int)<48)=false:=by simp;omega
  have d60:decide ((b:Int)<60)=true:=by simp;omega
  have hw:af.wrap ((p.st:Int)+1)=((p.st+1:Nat):Int):=by rw [au _ (by omega)];omega
  have k0:=eW w0 X p l (p.st+1)
  have k1:=yO w0 X (cB (p.st+1)) l b hb rfl
  simp only [aM,cJ,cL] at k0 k1
  have H:=ae h
  clear h hl hp hb
  refine eN Tryz.func219 rfl Tryz.ntmps219 fun hO=>?_
  have HO:=ae hO
  clear hO
  unfold aM cJ cL
  repeat' first | refine st ?_ | (refine ca ?_;first | apply k0 | apply k1) | (refine br ?_ ?_<;>intro hb) | fail
  (apply bD HO.out H.out;(· simp);(· (simp only [go_sem, *];try rfl));(· (simp only [go_sem, *];try rfl));(· (simp only [go_sem, *,Tryz.results219];try rfl)))
 rw [if_neg c60] at h
 by_cases c64:b<64
 ·rw [if_pos c64] at h
  try simp only [aE] at h
  have d48:decide ((b:Int)<48)=false:=by simp;omega
  have d60:decide ((b:Int)<60)=false:=by simp;omega
  have d64:decide ((b:Int)<64)=true:=by simp;omega
  have hw:af.wrap ((p.st:Int)+1)=((p.st+1:Nat):Int):=by rw [au _ (by omega)];omega
  have k0:=eW w0 X p l (p.st+1)
  simp only [aM,cJ,cL] at k0
  have H:=ae h
  clear h hl hp hb
  refine eN Tryz.func219 rfl Tryz.ntmps219 fun hO=>?_
  have HO:=ae hO
  clear hO
  unfold aM cJ cL
  repeat' first | refine st ?_ | (refine ca ?_;apply k0) | (refine br ?_ ?_<;>intro hb) | fail
  (apply bD HO.out H.out;(· simp);(· (simp only [go_sem, *];try rfl));(· (simp only [go_sem, *];try rfl));(· (simp only [go_sem, *,Tryz.results219];try rfl)))
 rw [if_neg c64] at h
 try simp only [aE] at h
 have d48:decide ((b:Int)<48)=false:=by simp;omega
 have d60:decide ((b:Int)<60)=false:=by simp;omega
 have d64:decide ((b:Int)<64)=false:=by simp;omega
 have k0:=yK w0 X p l b hl hs
 simp only [aM,cJ,cL] at k0
 have H:=ae h
 clear h hl hp hb
 refine eN Tryz.func219 rfl Tryz.ntmps219 fun hO=>?_
 have HO:=ae hO
 clear hO
 unfold aM cJ cL
 repeat' first | refine st ?_ | (refine ca ?_;apply k0) | (refine br ?_ ?_<;>intro hb) | fail
 (apply bD HO.out H.out;(· simp);(· (simp only [go_sem, *];try rfl));(· (simp only [go_sem, *];try rfl));(· (simp only [go_sem, *,Tryz.results219];try rfl)))
theorem vZ (w0:World) (X:List ax) (p:Ps) (l:List Ev) (b:Nat) (hl:l.length≤1000000) (hp:ep p) (hb:b<256) (R:Rt) (h:R (.ret (.tup [])) (aM X (iU p b).1 (l++(iU p b).2))):ao Tryz.prog w0 220 [.own X.length 0,.int .u8 b] (aM X p l) R:=by
 unfold iU at h
 have hs:=hp.st
 have hi:=hp.inter
 by_cases c48:b<48
 ·rw [if_pos c48] at h
  try simp only [aE] at h
  have d48:decide ((b:Int)<48)=true:=by simp;omega
  have hw:af.wrap ((p.st:Int)+1)=((p.st+1:Nat):Int):=by rw [au _ (by omega)];omega
  have k0:=sS w0 X { p with st:=p.st+1 } l b hi
  simp only [aM,cJ,cL] at k0
  have H:=ae h
  clear h hl hp hb
  refine eN Tryz.func220 rfl Tryz.ntmps220 fun hO=>?_
  have HO:=ae hO
  clear hO
  unfold aM cJ cL
  repeat' first | refine st ?_ | (refine ca ?_;apply k0) | (refine br ?_ ?_<;>intro hb) | fail
  (apply bD HO.out H.out;(· simp);(· (simp only [go_sem, *];try rfl));(· (simp only [go_sem, *];try rfl));(· (simp only [go_sem, *,Tryz.results220];try rfl)))
 rw [if_neg c48] at h
 by_cases c60:b<60
 ·rw [if_pos c60] at h
  try simp only [aE] at h
  have d48:decide ((b:Int)<48)=false:=by simp;omega
  have d60:decide ((b:Int)<60)=true:=by simp;omega
  have k0:=yO w0 X p l b hb hp.pars
  simp only [aM,cJ,cL] at k0
  have H:=ae h
  clear h hl hp hb
  refine eN Tryz.func220 rfl Tryz.ntmps220 fun hO=>?_
  have HO:=ae hO
  clear hO
  unfold aM cJ cL
  repeat' first | refine st ?_ | (refine ca ?_;apply k0) | (refine br ?_ ?_<;>intro hb) | fail
  (apply bD HO.out H.out;(· simp);(· (simp only [go_sem, *];try rfl));(· (simp only [go_sem, *];try rfl));(· (simp only [go_sem, *,Tryz.results220];try rfl)))
 rw [if_neg c60] at h
 by_cases c64:b<64
 ·rw [if_pos c64] at h
  try simp only [aE] at h
  have d48:decide ((b:Int)<48)=false:=by simp;omega
  have d60:decide ((b:Int)<60)=false:=by simp;omega
  have d64:decide ((b:Int)<64)=true:=by simp;omega
  have k0:=oI w0 X p l
  simp only [aM,cJ,cL] at k0
  have H:=ae h
  clear h hl hp hb
  refine eN Tryz.func220 rfl Tryz.ntmps220 fun hO=>?_
  have HO:=ae hO
  clear hO
  unfold aM cJ cL
  repeat' first | refine st ?_ | (refine ca ?_;apply k0) | (refine br ?_ ?_<;>intro hb) | fail
  (apply bD HO.out H.out;(· simp);(· (simp only [go_sem, *];try rfl));(· (simp only [go_sem, *];try rfl));(· (simp only [go_sem, *,Tryz.results220];try rfl)))
 rw [if_neg c64] at h
 try simp only [aE] at h
 have d48:decide ((b:Int)<48)=false:=by simp;omega
 have d60:decide ((b:Int)<60)=false:=by simp;omega
 have d64:decide ((b:Int)<64)=false:=by simp;omega
 have k0:=yK w0 X p l b hl hs
 simp only [aM,cJ,cL] at k0
 have H:=ae h
 clear h hl hp hb
 refine eN Tryz.func220 rfl Tryz.ntmps220 fun hO=>?_
 have HO:=ae hO
 clear hO
 unfold aM cJ cL
 repeat' first | refine st ?_ | (refine ca ?_;apply k0) | (refine br ?_ ?_<;>intro hb) | fail
 (apply bD HO.out H.out;(· simp);(· (simp only [go_sem, *];try rfl));(· (simp only [go_sem, *];try rfl));(· (simp only [go_sem, *,Tryz.results220];try rfl)))
theorem v6 (w0:World) (X:List ax) (p:Ps) (l:List Ev) (b:Nat) (hl:l.length≤1000000) (hp:ep p) (hb:b<256) (R:Rt) (h:R (.ret (.tup [])) (aM X (iW p b).1 (l++(iW p b).2))):ao Tryz.prog w0 221 [.own X.length 0,.int .u8 b] (aM X p l) R:=by
 unfold iW at h
 have hs:=hp.st
 have hi:=hp.inter
 by_cases c48:b<48
 ·rw [if_pos c48] at h
  try simp only [aE] at h
  have d48:decide ((b:Int)<48)=true:=by simp;omega
  have k0:=sS w0 X p l b hi
  simp only [aM,cJ,cL] at k0
  have H:=ae h
  clear h hl hp hb
  refine eN Tryz.func221 rfl Tryz.ntmps221 fun hO=>?_
  have HO:=ae hO
  clear hO
  unfold aM cJ cL
  repeat' first | refine st ?_ | (refine ca ?_;apply k0) | (refine br ?_ ?_<;>intro hb) | fail
  (apply bD HO.out H.out;(· simp);(· (simp only [go_sem, *];try rfl));(· (simp only [go_sem, *];try rfl));(· (simp only [go_sem, *,Tryz.results221];try rfl)))
 rw [if_neg c48] at h
 by_cases c64:b<64
 ·rw [if_pos c64] at h
  try simp only [aE] at h
  have d48:decide ((b:Int)<48)=false:=by simp;omega
  have d64:decide ((b:Int)<64)=true:=by simp;omega
  have k0:=oI w0 X p l
  simp only [aM,cJ,cL] at k0
  have H:=ae h
  clear h hl hp hb
  refine eN Tryz.func221 rfl Tryz.ntmps221 fun hO=>?_
  have HO:=ae hO
  clear hO
  unfold aM cJ cL
  repeat' first | refine st ?_ | (refine ca ?_;apply k0) | (refine br ?_ ?_<;>intro hb) | fail
  (apply bD HO.out H.out;(· simp);(· (simp only [go_sem, *];try rfl));(· (simp only [go_sem, *];try rfl));(· (simp only [go_sem, *,Tryz.results221];try rfl)))
 rw [if_neg c64] at h
 try simp only [aE] at h
 have d48:decide ((b:Int)<48)=false:=by simp;omega
 have d64:decide ((b:Int)<64)=false:=by simp;omega
 have k0:=yK w0 X p l b hl hs
 simp only [aM,cJ,cL] at k0
 have H:=ae h
 clear h hl hp hb
 refine eN Tryz.func221 rfl Tryz.ntmps221 fun hO=>?_
 have HO:=ae hO
 clear hO
 unfold aM cJ cL
 repeat' first | refine st ?_ | (refine ca ?_;apply k0) | (refine br ?_ ?_<;>intro hb) | fail
 (apply bD HO.out H.out;(· simp);(· (simp only [go_sem, *];try rfl));(· (simp only [go_sem, *];try rfl));(· (simp only [go_sem, *,Tryz.results221];try rfl)))
def ow:AV:=.agg [.fn (.func 216) [] [],.fn (.func 217) [] [],.fn (.func 218) [] [],.fn (.func 219) [] [],.fn (.func 220) [] [],.fn (.func 221) [] [],.fnil,.fnil,.fn (.func 219) [] [],.fn (.func 220) [] [],.fn (.func 221) [] [],.fnil,.fnil,.fnil,.fnil]
theorem l_ (w0:World) (S:List ax) (R:Rt) (h:R (.ret ow) S):ao Tryz.prog w0 171 [] S R:=by
 unfold ow at h
 have H:=ae h
 clear h
 refine eN Tryz.func171 rfl Tryz.ntmps171 fun hO=>?_
 repeat' first | refine st ?_ | (refine br ?_ ?_<;>intro hb) | fail
 refine fR Tryz.results171 ?_
 exact H.out
theorem AD (w0:World) (X:List ax) (p:Ps) (l:List Ev) (b:Nat) (hl:l.length≤1000000) (hp:ep p) (hb:b<256) (R:Rt) (h:R (.ret (.tup [])) (aM X (hY p b).1 (l++(hY p b).2))):ao Tryz.prog w0 169 [.own X.length 0,.int .u8 b] (aM X p l) R:=by
 have hs:=hp.st
 have ht:=hp.text
 unfold hY at h
 by_cases c1:b=7∧p.st=6
 ·rw [if_pos c1] at h
  have e7:((b:Int)==7)=true:=by simp;omega
  have e6:((p.st:Int)==6)=true:=by simp;omega
  have k0:=p_ w0 X p l (qv p) hl
  rw [show (qv p).av=.agg [.int .i64 5,.int .i64 0,.int .u8 0,.int .u8 0,.sval false [],.str [],.str p.text] from rfl] at k0
  simp only [aM,cJ,cL] at k0
  have H:=ae h
  clear h hl hp hb c1
  refine eN Tryz.func169 rfl Tryz.ntmps169 fun hO=>?_
  have HO:=ae hO
  clear hO
  unfold aM cJ cL
  repeat' first | refine st ?_ | (refine ca ?_;apply k0) | (refine br ?_ ?_<;>intro hb) | fail
  (apply bD HO.out H.out;(· simp);(· (simp only [go_sem, *];try rfl));(· (simp only [go_sem, *];try rfl));(· (simp only [go_sem, *,Tryz.results169];try rfl)))
 rw [if_neg c1] at h
 have f7:((b:Int)==7)=false∨((b:Int)==7)=true∧((p.st:Int)==6)=false:=by
  simp only [beq_eq_false_iff_ne,beq_iff_eq]
  omega
 have e67:∃ u:Bool,((p.st:Int)==6)=u:=⟨_,rfl⟩
 by_cases c2:b<32∨b=127∨p.st=13∨p.bad=true
 ·rw [if_pos c2] at h
  simp only [aE] at h
  have c3:(decide ((b:Int)<32)=true)∨(decide ((b:Int)<32)=false∧((b:Int)==127)=true)∨(decide ((b:Int)<32)=false∧((b:Int)==127)=false∧((p.st:Int)==13)=true)∨(decide ((b:Int)<32)=false∧((b:Int)==127)=false∧((p.st:Int)==13)=false∧p.bad=true):=by
   simp only [beq_eq_false_iff_ne,beq_iff_eq,decide_eq_true_eq,decide_eq_false_iff_not]
   by_cases g1:b<32
   ·left;omega
   by_cases g2:b=127
   ·right;left;omega
   by_cases g3:p.st=13
   ·right;right;left;omega
   ·right;right;right
    have g4:p.bad=true:=by simpa [g1,g2,g3] using c2
    exact⟨by omega,by omega,by omega,g4⟩
  have H:=ae h
  clear h hl hp hb c1 c2 hs ht
  clear e67
  obtain⟨s0,utf,pv,fn,pars,inter,text,bad⟩:=p
  simp only at c3 f7
  rcases c3 with d1 | ⟨d1,d2⟩ | ⟨d1,d2,d3⟩ | ⟨d1,d2,d3,rfl⟩<;>rcases f7 with f7 | ⟨f7,f6⟩
  all_goals
   refine eN Tryz.func169 rfl Tryz.ntmps169 fun hO=>?_
   have HO:=ae hO
   clear hO
   simp only [aM,cJ,cL]
   repeat' first | refine st ?_ | (refine br ?_ ?_<;>intro hb) | fail
   (apply bD HO.out H.out;(· simp);(· (simp only [go_sem, *];try rfl));(· (simp only [go_sem, *];try rfl));(· (simp only [go_sem, *,Tryz.results169];try rfl)))
 rw [if_neg c2] at h
 rw [not_or,not_or,not_or] at c2
 obtain⟨g1,g2,g3,g4⟩:=c2
 have d1:decide ((b:Int)<32)=false:=by simp;omega
 have d2:((b:Int)==127)=false:=by rw [beq_eq_false_iff_ne];omega
 have d3:((p.st:Int)==13)=false:=by rw [beq_eq_false_iff_ne];omega
 have d4:p.bad=false:=by simpa using g4
 by_cases c5:p.text.length=512
 ·rw [if_pos c5] at h
  simp only [aE] at h
  clear e67
  have d5:((p.text.length:Int)==512)=true:=by simp;omega
  have k0:=oI w0 X p l
  have H:=ae h
  simp only [aM,cJ,cL] at k0
  clear h hl hp hb c1 g1 g2 g3 g4 c5 hs ht
  rcases f7 with f7 | ⟨f7,f6⟩
  all_goals
   refine eN Tryz.func169 rfl Tryz.ntmps169 fun hO=>?_
   have HO:=ae hO
   clear hO
   unfold aM cJ cL
   rw [d4] at k0 ⊢
   repeat' first | refine st ?_ | (refine ca ?_;apply k0) | (refine br ?_ ?_<;>intro hb) | fail
   (apply bD HO.out H.out;(· simp);(· (simp only [go_sem, *];try rfl));(· (simp only [go_sem, *];try rfl));(· (simp only [go_sem, *,Tryz.results169];try rfl)))
 ·rw [if_neg c5] at h
  simp only [aE] at h
  have d5:((p.text.length:Int)==512)=false:=by rw [beq_eq_false_iff_ne];omega
  have d6:p.text.length+1≤9223372036854775807:=by omega
  have H:=ae h
  clear h hl hp hb c1 g1 g2 g3 g4 c5 hs ht
  rcases f7 with f7 | ⟨f7,f6⟩
  all_goals
   refine eN Tryz.func169 rfl Tryz.ntmps169 fun hO=>?_
   have HO:=ae hO
   clear hO
   unfold aM cJ cL
   rw [d4]
   repeat' first | refine st ?_ | (refine br ?_ ?_<;>intro hb) | refine sd ?_ | refine sx ?_ | apply aB | (apply aL;(· decide +kernel)) | refine bd ?_ ?_ | fail
   (apply bD HO.out H.out;(· simp);(· (simp only [go_sem, *];try rfl));(· (simp only [go_sem, *];try rfl));(· (simp only [go_sem, *,Tryz.results169];try rfl)))
def cK (p:Ps) (b:Nat):Prop:=¬ (p.st=0∧(p.utf≠[]∨128≤b))
theorem fW {p:Ps}{b:Nat} (h:cK p b):(((p.st:Int)==0)=true∧decide ((0:Int)<(p.utf.length:Int))=false∧decide ((128:Int)≤(b:Int))=false∧((p.st:Int)==6)=false∧((p.st:Int)==11)=false∧((p.st:Int)==13)=false)∨((p.st:Int)==0)=false:=by
 unfold cK at h
 simp only [beq_iff_eq,beq_eq_false_iff_ne,decide_eq_false_iff_not]
 by_cases h0:p.st=0
 ·left
  have h1:¬ (p.utf≠[]∨128≤b):=fun h'=>h ⟨h0,h'⟩
  rw [not_or] at h1
  have h2:p.utf=[]:=uw.1 h1.1
  have h3:p.utf.length=0:=by rw [h2];rfl
  omega
 ·right;omega
theorem il (n:Nat):(eH n=true∧(((n:Int)==6)=true∨(((n:Int)==6)=false∧((n:Int)==11)=true)∨(((n:Int)==6)=false∧((n:Int)==11)=false∧((n:Int)==13)=true)))∨(eH n=false∧((n:Int)==6)=false∧((n:Int)==11)=false∧((n:Int)==13)=false):=by
 unfold eH
 simp only [beq_iff_eq,beq_eq_false_iff_ne,ef,bj]
 omega
theorem rT {n:Nat} (h:iy n=false):((n:Int)==7)=false∧((n:Int)==12)=false∧((n:Int)==14)=false:=by
 unfold iy at h
 simp only [beq_eq_false_iff_ne,bj] at h ⊢
 omega
theorem AU (w0:World) (X:List ax) (p:Ps) (l:List Ev) (b:Nat) (hl:l.length≤1000000) (hp:ep p) (hb:b<256) (hn:cK p b) (hc:b=24∨b=26) (R:Rt) (h:R (.ret (.tup [])) (aM X (cB 0) l)):ao Tryz.prog w0 82 [.own X.length 0,.int .u8 b] (aM X p l) R:=by
 have c1:=fW hn
 have c2:=il p.st
 have c3:((b:Int)==24)=true∨((b:Int)==24)=false∧((b:Int)==26)=true:=by simp only [beq_iff_eq,beq_eq_false_iff_ne];omega
 have k0:=eW w0 X p l 0
 simp only [aM,cJ,cL] at k0
 have H:=ae h
 clear h hl hp hb hn hc
 rcases c3 with c3 | ⟨c3,c4⟩<;>rcases c2 with⟨_,c2 | ⟨c5,c2⟩ | ⟨c5,c6,c2⟩⟩ | ⟨_,c5,c6,c7⟩<;>rcases c1 with⟨c8,c9,c10,c11,c12,c13⟩ | c8
 all_goals first
  | (rw [c2] at c11;cases c11;done)
  | (rw [c2] at c12;cases c12;done)
  | (rw [c2] at c13;cases c13;done)
  | skip
 all_goals
  refine eN Tryz.func82 rfl Tryz.ntmps82 fun hO=>?_
  have HO:=ae hO
  clear hO
  unfold aM cJ cL
  repeat' first | refine st ?_ | (refine ca ?_;apply k0) | (refine br ?_ ?_<;>intro hb) | fail
  (apply bD HO.out H.out;(· simp);(· (simp only [go_sem, *];try rfl));(· (simp only [go_sem, *];try rfl));(· (simp only [go_sem, *,Tryz.results82];try rfl)))
theorem AR (w0:World) (X:List ax) (p:Ps) (l:List Ev) (b:Nat) (hl:l.length≤1000000) (hp:ep p) (hb:b<256) (hn:cK p b) (hc:b=27) (ht:eH p.st=true) (R:Rt) (h:R (.ret (.tup [])) (aM X { p with st:=p.st+1 } l)):ao Tryz.prog w0 82 [.own X.length 0,.int .u8 b] (aM X p l) R:=by
 have c1:((p.st:Int)==0)=false:=by rw [beq_eq_false_iff_ne];unfold eH at ht;simp only [ef,beq_iff_eq] at ht;omega
 have c2:=il p.st
 have hs:=hp.st
 have hw:af.wrap ((p.st:Int)+1)=((p.st+1:Nat):Int):=by rw [au _ (by omega)];omega
 subst hc
 have H:=ae h
 clear h hl hp hb hn hs
 rcases c2 with⟨_,c2 | ⟨c5,c2⟩ | ⟨c5,c6,c2⟩⟩ | ⟨c2,_⟩
 rotate_right
 ·rw [ht] at c2;cases c2
 all_goals
  refine eN Tryz.func82 rfl Tryz.ntmps82 fun hO=>?_
  have HO:=ae hO
  clear hO
  unfold aM cJ cL
  repeat' first | refine st ?_ | (refine br ?_ ?_<;>intro hb) | fail
  (apply bD HO.out H.out;(· simp);(· (simp only [go_sem, *];try rfl));(· (simp only [go_sem, *];try rfl));(· (simp only [go_sem, *,Tryz.results82];try rfl)))
theorem AQ (w0:World) (X:List ax) (p:Ps) (l:List Ev) (b:Nat) (hl:l.length≤1000000) (hp:ep p) (hb:b<256) (hn:cK p b) (hc:b=27) (ht:eH p.st=false) (R:Rt) (h:R (.ret (.tup [])) (aM X (cB 1) l)):ao Tryz.prog w0 82 [.own X.length 0,.int .u8 b] (aM X p l) R:=by
 have c1:=fW hn
 have c2:=il p.st
 have k0:=eW w0 X p l 1
 simp only [aM,cJ,cL] at k0
 subst hc
 have H:=ae h
 clear h hl hp hb hn
 rcases c2 with⟨c2,_⟩ | ⟨_,c5,c6,c7⟩
 ·rw [ht] at c2;cases c2
 rcases c1 with⟨c8,c9,_⟩ | c8
 all_goals
  refine eN Tryz.func82 rfl Tryz.ntmps82 fun hO=>?_
  have HO:=ae hO
  clear hO
  unfold aM cJ cL
  repeat' first | refine st ?_ | (refine ca ?_;apply k0) | (refine br ?_ ?_<;>intro hb) | fail
  (apply bD HO.out H.out;(· simp);(· (simp only [go_sem, *];try rfl));(· (simp only [go_sem, *];try rfl));(· (simp only [go_sem, *,Tryz.results82];try rfl)))
theorem AP (w0:World) (X:List ax) (p:Ps) (l:List Ev) (b:Nat) (hl:l.length≤1000000) (hp:ep p) (hb:b<256) (hn:cK p b) (hc:b≠24∧b≠26∧b≠27) (ht:eH p.st=true) (R:Rt) (h:R (.ret (.tup [])) (aM X (hY p b).1 (l++(hY p b).2))):ao Tryz.prog w0 82 [.own X.length 0,.int .u8 b] (aM X p l) R:=by
 have c1:((p.st:Int)==0)=false∧((p.st:Int)==7)=false∧((p.st:Int)==12)=false∧((p.st:Int)==14)=false:=by simp only [beq_eq_false_iff_ne];unfold eH at ht;simp only [ef,beq_iff_eq] at ht;omega
 obtain⟨q1,q2,q3,q4⟩:=c1
 have c2:=il p.st
 have e24:((b:Int)==24)=false:=by rw [beq_eq_false_iff_ne];omega
 have e26:((b:Int)==26)=false:=by rw [beq_eq_false_iff_ne];omega
 have e27:((b:Int)==27)=false:=by rw [beq_eq_false_iff_ne];omega
 have k0:=AD w0 X p l b hl hp hb
 simp only [aM,cJ,cL] at k0
 have H:=ae h
 clear h hl hp hb hn hc
 rcases c2 with⟨_,c2 | ⟨c5,c2⟩ | ⟨c5,c6,c2⟩⟩ | ⟨c2,_⟩
 rotate_right
 ·rw [ht] at c2;cases c2
 all_goals
  refine eN Tryz.func82 rfl Tryz.ntmps82 fun hO=>?_
  have HO:=ae hO
  clear hO
  unfold aM cJ cL
  repeat' first | refine st ?_ | (refine ca ?_;apply k0) | (refine br ?_ ?_<;>intro hb) | fail
  (apply bD HO.out H.out;(· simp);(· (simp only [go_sem, *];try rfl));(· (simp only [go_sem, *];try rfl));(· (simp only [go_sem, *,Tryz.results82];try rfl)))
theorem AO (w0:World) (X:List ax) (p:Ps) (l:List Ev) (b:Nat) (hl:l.length≤1000000) (hp:ep p) (hb:b<256) (hn:cK p b) (hc:b≠24∧b≠26∧b≠27) (hc2:b<32) (ht:eH p.st=false) (he:iy p.st=false) (R:Rt) (h:R (.ret (.tup [])) (aM X p (l++if p.st≤5 then [tK b] else []))):ao Tryz.prog w0 82 [.own X.length 0,.int .u8 b] (aM X p l) R:=by
 have c1:=fW hn
 have c2:=il p.st
 obtain⟨q2,q3,q4⟩:=rT he
 rcases c2 with⟨c2,_⟩ | ⟨_,c5,c6,c7⟩
 ·rw [ht] at c2;cases c2
 have e24:((b:Int)==24)=false:=by rw [beq_eq_false_iff_ne];omega
 have e26:((b:Int)==26)=false:=by rw [beq_eq_false_iff_ne];omega
 have e27:((b:Int)==27)=false:=by rw [beq_eq_false_iff_ne];omega
 have d128:decide ((128:Int)≤(b:Int))=false:=by simp;omega
 have d32:decide ((b:Int)<32)=true:=by simp;omega
 have hw:af.wrap (b:Int)=(b:Int):=au _ (by omega)
 have k0:=vY w0 X p l (tK b) hl
 rw [show (tK b).av=.agg [.int .i64 2,.int .i64 b,.int .u8 0,.int .u8 0,.sval false [],.str [],.str []] from rfl] at k0
 simp only [aM,cJ,cL] at k0
 by_cases h5:p.st≤5
 ·rw [if_pos h5] at h
  have d5:decide ((p.st:Int)≤5)=true:=by simp;omega
  have H:=ae h
  clear h hl hp hb hn hc hc2 h5
  rcases c1 with⟨c8,c9,_⟩ | c8
  all_goals
   refine eN Tryz.func82 rfl Tryz.ntmps82 fun hO=>?_
   have HO:=ae hO
   clear hO
   unfold aM cJ cL
   repeat' first | refine st ?_ | (refine ca ?_;apply k0) | (refine br ?_ ?_<;>intro hb) | fail
   (apply bD HO.out H.out;(· simp);(· (simp only [go_sem, *];try rfl));(· (simp only [go_sem, *];try rfl));(· (simp only [go_sem, *,Tryz.results82];try rfl)))
 ·rw [if_neg h5,aE] at h
  have d5:decide ((p.st:Int)≤5)=false:=by simp;omega
  have H:=ae h
  clear h hl hp hb hn hc hc2 h5
  rcases c1 with⟨c8,c9,_⟩ | c8
  all_goals
   refine eN Tryz.func82 rfl Tryz.ntmps82 fun hO=>?_
   have HO:=ae hO
   clear hO
   unfold aM cJ cL
   repeat' first | refine st ?_ | (refine br ?_ ?_<;>intro hb) | fail
   (apply bD HO.out H.out;(· simp);(· (simp only [go_sem, *];try rfl));(· (simp only [go_sem, *];try rfl));(· (simp only [go_sem, *,Tryz.results82];try rfl)))
theorem AN (w0:World) (X:List ax) (p:Ps) (l:List Ev) (b:Nat) (hl:l.length≤1000000) (hp:ep p) (hb:b<256) (hn:cK p b) (hc:b=127) (ht:eH p.st=false) (he:iy p.st=false) (R:Rt) (h:R (.ret (.tup [])) (aM X p l)):ao Tryz.prog w0 82 [.own X.length 0,.int .u8 b] (aM X p l) R:=by
 have c1:=fW hn
 have c2:=il p.st
 obtain⟨q2,q3,q4⟩:=rT he
 rcases c2 with⟨c2,_⟩ | ⟨_,c5,c6,c7⟩
 ·rw [ht] at c2;cases c2
 subst hc
 have H:=ae h
 clear h hl hp hb hn
 rcases c1 with⟨c8,c9,_⟩ | c8
 all_goals
  refine eN Tryz.func82 rfl Tryz.ntmps82 fun hO=>?_
  have HO:=ae hO
  clear hO
  unfold aM cJ cL
  repeat' first | refine st ?_ | (refine br ?_ ?_<;>intro hb) | fail
  (apply bD HO.out H.out;(· simp);(· (simp only [go_sem, *];try rfl));(· (simp only [go_sem, *];try rfl));(· (simp only [go_sem, *,Tryz.results82];try rfl)))
end Go.Proofs.YthdbijpefkapnaaGreatDoor
