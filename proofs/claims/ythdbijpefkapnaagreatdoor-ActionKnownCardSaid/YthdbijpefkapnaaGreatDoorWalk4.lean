/- YthdbijpefkapnaaGreatDoorWalk4. Texts of the proof of a law about texts: a layer of abstract values above the worlds, the types, the walks of the functions that the law reaches, the law and its card. Own work of an AI agent. -/
import Derived.Test.YthdbijpefkapnaaGreatDoorWalk3
import Derived.Test.YthdbijpefkapnaaGreatDoorCore2
import Derived.Test.YthdbijpefkapnaaGreatDoorWalk2
import Derived.Test.YthdbijpefkapnaaGreatDoorCards
import Derived.Test.YthdbijpefkapnaaGreatDoorTie
import Derived.ProofKit
import Derived.OpenShut
import Derived.LaidMore
import Derived.Lay
import Derived.SevenTiedAt
import Derived.Stop.Joined
set_option linter.all false
set_option maxHeartbeats 40000000
open And renaming intro → dw
open Array renaming getElem?_toList → a7
open BitVec renaming ofInt → ai
open Bool renaming and_eq_true → aj, false_eq_true → bJ, not_eq_false' → aG, not_eq_true' → az, or_eq_false_iff → bj, or_eq_true → ef
open Go.IntKind renaming i64 → af, u8 → aW
open Go.IntWalk renaming i64_in → au, u8_in → en
open Go.Lib renaming cells_of_tab → pH, hid → ae, mapM_at → Cl, mapM_length → up
open Go.Value renaming int → dn, okWide → nQ, oneCell' → ul
open Go.World renaming var?_cell → Am
open List renaming all_eq_true → aq, append_assoc → aK, append_nil → aE, cons_append → cz, flatMap_cons → kW, foldl_cons → ee, getElem?_append_right → aw, getElem?_drop → bQ, getElem?_eq_getElem → al, getElem?_eq_none → bz, getElem?_map → aF, getElem?_take → aV, length → dM, length_append → ah, length_cons → aI, length_eq_zero_iff → mM, length_map → aY, length_nil → aU, length_take_le → Ap, map_append → bg, map_cons → aA, map_map → Ag, map_nil → aC, mem_cons → bA, mem_cons_of_mem → fa, mem_map → aH, mem_of_getElem? → ar, mem_of_mem_take → mL, nil_append → cU, take_add_one → eP, take_of_length_le → cA, take_zero → co
open List.cons renaming injEq → iI
open Nat renaming le_trans → dB, zero_add → di, zero_le → bx
open Option renaming bind_some → Cg, map_eq_some_iff → aJ, map_some → cu
open Option.some renaming inj → bi, injEq → a8
open Prod renaming fst → bZ
open UInt8 renaming toNat → aR
namespace Go.Proofs.YthdbijpefkapnaaGreatDoor
open Go Go.Fen
attribute [local irreducible] aX WP ao er nF dt bK fD
set_option maxRecDepth 8000
theorem fg {b:Nat} (h:32≤b∧b<127):((b:Int)==24)=false∧((b:Int)==26)=false∧((b:Int)==27)=false∧decide ((128:Int)≤(b:Int))=false∧decide ((b:Int)<32)=false∧((b:Int) != 127)=true:=by
 simp only [beq_eq_false_iff_ne,decide_eq_false_iff_not,bne_iff_ne]
 omega
theorem AM (w0:World) (X:List ax) (p:Ps) (l:List Ev) (b:Nat) (hl:l.length≤1000000) (hp:ep p) (hb:b<256) (hn:cK p b) (hs:p.st=0) (hc:32≤b∧b<127) (R:Rt) (h:R (.ret (.tup [])) (aM X (dJ p b).1 (l++(dJ p b).2))):ao Tryz.prog w0 82 [.own X.length 0,.int .u8 b] (aM X p l) R:=by
 have c1:=fW hn
 obtain⟨f1,f2,f3,f4,f5,f6⟩:=fg hc
 have k0:=AW w0 X p l b hl hb
 have hw:=l_ w0
 unfold ow at hw
 unfold dJ at h
 have z:((0:Nat):Int)=0:=rfl
 clear hl hp hb hn hc
 obtain⟨s0,utf,pv,fn,pars,inter,text,bad⟩:=p
 simp only at hs c1
 subst hs
 simp only at h
 have H:=ae h
 clear h
 simp only [aM,cJ,cL,z] at k0
 simp only [z] at c1
 rcases c1 with⟨_,c9,_⟩ | c8
 rotate_left
 ·cases c8
 refine eN Tryz.func82 rfl Tryz.ntmps82 fun hO=>?_
 have HO:=ae hO
 clear hO
 simp only [aM,cJ,cL,z]
 repeat' ((fail_if_success (apply bW 20));first | refine st ?_ | (refine br ?_ ?_<;>intro hb) | fail)
 refine eY (n:=10) mixed rfl ?_
 refine jN [(135,.agg [.fn (.func 216) [] [],.fn (.func 217) [] [],.fn (.func 218) [] [],.fn (.func 219) [] [],.fn (.func 220) [] [],.fn (.func 221) [] [],.fnil,.fnil,.fn (.func 219) [] [],.fn (.func 220) [] [],.fn (.func 221) [] [],.fnil,.fnil,.fnil,.fnil]),(136,(.own X.length 0)),(137,(.own X.length 0)),(138,(.own X.length 0)),(139,(.own X.length 0)),(140,.int .i64 0),(141,.fn (.func 216) [] []),(142,(.own X.length 0)),(143,.int .u8 b)] rfl rfl rfl (by decide +kernel) (by decide +kernel) ⟨?s0, ?s1, ?s2, ?s3, ?s4, ?s5, ?s6, ?s7, ?s8,trivial⟩ ?z
 case s0 | s1 | s7 | s8 =>
  intro env hd
  have q0:=hd.2 0 rfl
  have q1:=hd.2 1 rfl
  simp only [go_sem, *] at q0 q1
  clear hd
  repeat' first | refine st ?_ | (refine ca ?_;apply hw) | (refine br ?_ ?_<;>intro hb) | refine sd ?_ | apply aB | (apply aL;(· decide +kernel)) | refine bd ?_ ?_ | (refine cd ?_;apply hw) | fail
  first | exact⟨trivial,trivial⟩ | exact⟨rfl,rfl⟩
 case s2 =>
  intro env hd
  have q0:=hd.2 0 rfl
  have q1:=hd.2 1 rfl
  simp only [go_sem, *] at q0 q1
  have r1:=hd.1 1 (by decide +kernel) _ _ rfl
  clear hd
  repeat' first | refine st ?_ | (refine ca ?_;apply hw) | (refine br ?_ ?_<;>intro hb) | refine sd ?_ | apply aB | (apply aL;(· decide +kernel)) | refine bd ?_ ?_ | (refine cd ?_;apply hw) | fail
  first | exact⟨trivial,trivial⟩ | exact⟨rfl,rfl⟩
 case s3 =>
  intro env hd
  have q0:=hd.2 0 rfl
  have q1:=hd.2 1 rfl
  simp only [go_sem, *] at q0 q1
  have r2:=hd.1 2 (by decide +kernel) _ _ rfl
  clear hd
  repeat' first | refine st ?_ | (refine ca ?_;apply hw) | (refine br ?_ ?_<;>intro hb) | refine sd ?_ | apply aB | (apply aL;(· decide +kernel)) | refine bd ?_ ?_ | (refine cd ?_;apply hw) | fail
  first | exact⟨trivial,trivial⟩ | exact⟨rfl,rfl⟩
 case s4 =>
  intro env hd
  have q0:=hd.2 0 rfl
  have q1:=hd.2 1 rfl
  simp only [go_sem, *] at q0 q1
  have r3:=hd.1 3 (by decide +kernel) _ _ rfl
  clear hd
  repeat' first | refine st ?_ | (refine ca ?_;apply hw) | (refine br ?_ ?_<;>intro hb) | refine sd ?_ | apply aB | (apply aL;(· decide +kernel)) | refine bd ?_ ?_ | (refine cd ?_;apply hw) | fail
  first | exact⟨trivial,trivial⟩ | exact⟨rfl,rfl⟩
 case s5 =>
  intro env hd
  have q0:=hd.2 0 rfl
  have q1:=hd.2 1 rfl
  simp only [go_sem, *] at q0 q1
  have r4:=hd.1 4 (by decide +kernel) _ _ rfl
  clear hd
  repeat' first | refine st ?_ | (refine ca ?_;apply hw) | (refine br ?_ ?_<;>intro hb) | refine sd ?_ | apply aB | (apply aL;(· decide +kernel)) | refine bd ?_ ?_ | (refine cd ?_;apply hw) | fail
  first | exact⟨trivial,trivial⟩ | exact⟨rfl,rfl⟩
 case s6 =>
  intro env hd
  have q0:=hd.2 0 rfl
  have q1:=hd.2 1 rfl
  simp only [go_sem, *] at q0 q1
  have r0:=hd.1 0 (by decide +kernel) _ _ rfl
  have r5:=hd.1 5 (by decide +kernel) _ _ rfl
  clear hd
  repeat' first | refine st ?_ | (refine ca ?_;apply hw) | (refine br ?_ ?_<;>intro hb) | refine sd ?_ | apply aB | (apply aL;(· decide +kernel)) | refine bd ?_ ?_ | (refine cd ?_;apply hw) | fail
  first | exact⟨trivial,trivial⟩ | exact⟨rfl,rfl⟩
 case z =>
  intro env hs hk
  have r6:=hs 6 _ _ rfl
  have r7:=hs 7 _ _ rfl
  have r8:=hs 8 _ _ rfl
  have q5:=hk 1000000 rfl
  clear hs hk
  simp only [go_sem] at q5
  repeat' first | refine st ?_ | (refine ca ?_;apply k0) | (refine br ?_ ?_<;>intro hb) | refine sd ?_ | apply aB | (apply aL;(· decide +kernel)) | refine bd ?_ ?_ | (refine cd ?_;apply k0) | fail
  (apply bD HO.out H.out;(· simp);(· (simp only [go_sem, *];try rfl));(· (simp only [go_sem, *];try rfl));(· (simp only [go_sem, *,Tryz.results82];try rfl)))
theorem AL (w0:World) (X:List ax) (p:Ps) (l:List Ev) (b:Nat) (hl:l.length≤1000000) (hp:ep p) (hb:b<256) (hn:cK p b) (hs:p.st=1) (hc:32≤b∧b<127) (R:Rt) (h:R (.ret (.tup [])) (aM X (dJ p b).1 (l++(dJ p b).2))):ao Tryz.prog w0 82 [.own X.length 0,.int .u8 b] (aM X p l) R:=by
 have c1:=fW hn
 obtain⟨f1,f2,f3,f4,f5,f6⟩:=fg hc
 have k0:=AY w0 X p l b hl hp hb
 have hw:=l_ w0
 unfold ow at hw
 unfold dJ at h
 have z:((1:Nat):Int)=1:=rfl
 clear hl hp hb hn hc
 obtain⟨s0,utf,pv,fn,pars,inter,text,bad⟩:=p
 simp only at hs c1
 subst hs
 simp only at h
 have H:=ae h
 clear h
 simp only [aM,cJ,cL,z] at k0
 simp only [z] at c1
 clear c1
 refine eN Tryz.func82 rfl Tryz.ntmps82 fun hO=>?_
 have HO:=ae hO
 clear hO
 simp only [aM,cJ,cL,z]
 repeat' ((fail_if_success (apply bW 20));first | refine st ?_ | (refine br ?_ ?_<;>intro hb) | fail)
 refine eY (n:=10) mixed rfl ?_
 refine jN [(135,.agg [.fn (.func 216) [] [],.fn (.func 217) [] [],.fn (.func 218) [] [],.fn (.func 219) [] [],.fn (.func 220) [] [],.fn (.func 221) [] [],.fnil,.fnil,.fn (.func 219) [] [],.fn (.func 220) [] [],.fn (.func 221) [] [],.fnil,.fnil,.fnil,.fnil]),(136,(.own X.length 0)),(137,(.own X.length 0)),(138,(.own X.length 0)),(139,(.own X.length 0)),(140,.int .i64 1),(141,.fn (.func 217) [] []),(142,(.own X.length 0)),(143,.int .u8 b)] rfl rfl rfl (by decide +kernel) (by decide +kernel) ⟨?s0, ?s1, ?s2, ?s3, ?s4, ?s5, ?s6, ?s7, ?s8,trivial⟩ ?z
 case s0 | s1 | s7 | s8 =>
  intro env hd
  have q0:=hd.2 0 rfl
  have q1:=hd.2 1 rfl
  simp only [go_sem, *] at q0 q1
  clear hd
  repeat' first | refine st ?_ | (refine ca ?_;apply hw) | (refine br ?_ ?_<;>intro hb) | refine sd ?_ | apply aB | (apply aL;(· decide +kernel)) | refine bd ?_ ?_ | (refine cd ?_;apply hw) | fail
  first | exact⟨trivial,trivial⟩ | exact⟨rfl,rfl⟩
 case s2 =>
  intro env hd
  have q0:=hd.2 0 rfl
  have q1:=hd.2 1 rfl
  simp only [go_sem, *] at q0 q1
  have r1:=hd.1 1 (by decide +kernel) _ _ rfl
  clear hd
  repeat' first | refine st ?_ | (refine ca ?_;apply hw) | (refine br ?_ ?_<;>intro hb) | refine sd ?_ | apply aB | (apply aL;(· decide +kernel)) | refine bd ?_ ?_ | (refine cd ?_;apply hw) | fail
  first | exact⟨trivial,trivial⟩ | exact⟨rfl,rfl⟩
 case s3 =>
  intro env hd
  have q0:=hd.2 0 rfl
  have q1:=hd.2 1 rfl
  simp only [go_sem, *] at q0 q1
  have r2:=hd.1 2 (by decide +kernel) _ _ rfl
  clear hd
  repeat' first | refine st ?_ | (refine ca ?_;apply hw) | (refine br ?_ ?_<;>intro hb) | refine sd ?_ | apply aB | (apply aL;(· decide +kernel)) | refine bd ?_ ?_ | (refine cd ?_;apply hw) | fail
  first | exact⟨trivial,trivial⟩ | exact⟨rfl,rfl⟩
 case s4 =>
  intro env hd
  have q0:=hd.2 0 rfl
  have q1:=hd.2 1 rfl
  simp only [go_sem, *] at q0 q1
  have r3:=hd.1 3 (by decide +kernel) _ _ rfl
  clear hd
  repeat' first | refine st ?_ | (refine ca ?_;apply hw) | (refine br ?_ ?_<;>intro hb) | refine sd ?_ | apply aB | (apply aL;(· decide +kernel)) | refine bd ?_ ?_ | (refine cd ?_;apply hw) | fail
  first | exact⟨trivial,trivial⟩ | exact⟨rfl,rfl⟩
 case s5 =>
  intro env hd
  have q0:=hd.2 0 rfl
  have q1:=hd.2 1 rfl
  simp only [go_sem, *] at q0 q1
  have r4:=hd.1 4 (by decide +kernel) _ _ rfl
  clear hd
  repeat' first | refine st ?_ | (refine ca ?_;apply hw) | (refine br ?_ ?_<;>intro hb) | refine sd ?_ | apply aB | (apply aL;(· decide +kernel)) | refine bd ?_ ?_ | (refine cd ?_;apply hw) | fail
  first | exact⟨trivial,trivial⟩ | exact⟨rfl,rfl⟩
 case s6 =>
  intro env hd
  have q0:=hd.2 0 rfl
  have q1:=hd.2 1 rfl
  simp only [go_sem, *] at q0 q1
  have r0:=hd.1 0 (by decide +kernel) _ _ rfl
  have r5:=hd.1 5 (by decide +kernel) _ _ rfl
  clear hd
  repeat' first | refine st ?_ | (refine ca ?_;apply hw) | (refine br ?_ ?_<;>intro hb) | refine sd ?_ | apply aB | (apply aL;(· decide +kernel)) | refine bd ?_ ?_ | (refine cd ?_;apply hw) | fail
  first | exact⟨trivial,trivial⟩ | exact⟨rfl,rfl⟩
 case z =>
  intro env hs hk
  have r6:=hs 6 _ _ rfl
  have r7:=hs 7 _ _ rfl
  have r8:=hs 8 _ _ rfl
  have q5:=hk 1000000 rfl
  clear hs hk
  simp only [go_sem] at q5
  repeat' first | refine st ?_ | (refine ca ?_;apply k0) | (refine br ?_ ?_<;>intro hb) | refine sd ?_ | apply aB | (apply aL;(· decide +kernel)) | refine bd ?_ ?_ | (refine cd ?_;apply k0) | fail
  (apply bD HO.out H.out;(· simp);(· (simp only [go_sem, *];try rfl));(· (simp only [go_sem, *];try rfl));(· (simp only [go_sem, *,Tryz.results82];try rfl)))
theorem AK (w0:World) (X:List ax) (p:Ps) (l:List Ev) (b:Nat) (hl:l.length≤1000000) (hp:ep p) (hb:b<256) (hn:cK p b) (hs:p.st=2) (hc:32≤b∧b<127) (R:Rt) (h:R (.ret (.tup [])) (aM X (dJ p b).1 (l++(dJ p b).2))):ao Tryz.prog w0 82 [.own X.length 0,.int .u8 b] (aM X p l) R:=by
 have c1:=fW hn
 obtain⟨f1,f2,f3,f4,f5,f6⟩:=fg hc
 have k0:=Dd w0 X p l b hl hp hb
 have hw:=l_ w0
 unfold ow at hw
 unfold dJ at h
 have z:((2:Nat):Int)=2:=rfl
 clear hl hp hb hn hc
 obtain⟨s0,utf,pv,fn,pars,inter,text,bad⟩:=p
 simp only at hs c1
 subst hs
 simp only at h
 have H:=ae h
 clear h
 simp only [aM,cJ,cL,z] at k0
 simp only [z] at c1
 clear c1
 refine eN Tryz.func82 rfl Tryz.ntmps82 fun hO=>?_
 have HO:=ae hO
 clear hO
 simp only [aM,cJ,cL,z]
 repeat' ((fail_if_success (apply bW 20));first | refine st ?_ | (refine br ?_ ?_<;>intro hb) | fail)
 refine eY (n:=10) mixed rfl ?_
 refine jN [(135,.agg [.fn (.func 216) [] [],.fn (.func 217) [] [],.fn (.func 218) [] [],.fn (.func 219) [] [],.fn (.func 220) [] [],.fn (.func 221) [] [],.fnil,.fnil,.fn (.func 219) [] [],.fn (.func 220) [] [],.fn (.func 221) [] [],.fnil,.fnil,.fnil,.fnil]),(136,(.own X.length 0)),(137,(.own X.length 0)),(138,(.own X.length 0)),(139,(.own X.length 0)),(140,.int .i64 2),(141,.fn (.func 218) [] []),(142,(.own X.length 0)),(143,.int .u8 b)] rfl rfl rfl (by decide +kernel) (by decide +kernel) ⟨?s0, ?s1, ?s2, ?s3, ?s4, ?s5, ?s6, ?s7, ?s8,trivial⟩ ?z
 case s0 | s1 | s7 | s8 =>
  intro env hd
  have q0:=hd.2 0 rfl
  have q1:=hd.2 1 rfl
  simp only [go_sem, *] at q0 q1
  clear hd
  repeat' first | refine st ?_ | (refine ca ?_;apply hw) | (refine br ?_ ?_<;>intro hb) | refine sd ?_ | apply aB | (apply aL;(· decide +kernel)) | refine bd ?_ ?_ | (refine cd ?_;apply hw) | fail
  first | exact⟨trivial,trivial⟩ | exact⟨rfl,rfl⟩
 case s2 =>
  intro env hd
  have q0:=hd.2 0 rfl
  have q1:=hd.2 1 rfl
  simp only [go_sem, *] at q0 q1
  have r1:=hd.1 1 (by decide +kernel) _ _ rfl
  clear hd
  repeat' first | refine st ?_ | (refine ca ?_;apply hw) | (refine br ?_ ?_<;>intro hb) | refine sd ?_ | apply aB | (apply aL;(· decide +kernel)) | refine bd ?_ ?_ | (refine cd ?_;apply hw) | fail
  first | exact⟨trivial,trivial⟩ | exact⟨rfl,rfl⟩
 case s3 =>
  intro env hd
  have q0:=hd.2 0 rfl
  have q1:=hd.2 1 rfl
  simp only [go_sem, *] at q0 q1
  have r2:=hd.1 2 (by decide +kernel) _ _ rfl
  clear hd
  repeat' first | refine st ?_ | (refine ca ?_;apply hw) | (refine br ?_ ?_<;>intro hb) | refine sd ?_ | apply aB | (apply aL;(· decide +kernel)) | refine bd ?_ ?_ | (refine cd ?_;apply hw) | fail
  first | exact⟨trivial,trivial⟩ | exact⟨rfl,rfl⟩
 case s4 =>
  intro env hd
  have q0:=hd.2 0 rfl
  have q1:=hd.2 1 rfl
  simp only [go_sem, *] at q0 q1
  have r3:=hd.1 3 (by decide +kernel) _ _ rfl
  clear hd
  repeat' first | refine st ?_ | (refine ca ?_;apply hw) | (refine br ?_ ?_<;>intro hb) | refine sd ?_ | apply aB | (apply aL;(· decide +kernel)) | refine bd ?_ ?_ | (refine cd ?_;apply hw) | fail
  first | exact⟨trivial,trivial⟩ | exact⟨rfl,rfl⟩
 case s5 =>
  intro env hd
  have q0:=hd.2 0 rfl
  have q1:=hd.2 1 rfl
  simp only [go_sem, *] at q0 q1
  have r4:=hd.1 4 (by decide +kernel) _ _ rfl
  clear hd
  repeat' first | refine st ?_ | (refine ca ?_;apply hw) | (refine br ?_ ?_<;>intro hb) | refine sd ?_ | apply aB | (apply aL;(· decide +kernel)) | refine bd ?_ ?_ | (refine cd ?_;apply hw) | fail
  first | exact⟨trivial,trivial⟩ | exact⟨rfl,rfl⟩
 case s6 =>
  intro env hd
  have q0:=hd.2 0 rfl
  have q1:=hd.2 1 rfl
  simp only [go_sem, *] at q0 q1
  have r0:=hd.1 0 (by decide +kernel) _ _ rfl
  have r5:=hd.1 5 (by decide +kernel) _ _ rfl
  clear hd
  repeat' first | refine st ?_ | (refine ca ?_;apply hw) | (refine br ?_ ?_<;>intro hb) | refine sd ?_ | apply aB | (apply aL;(· decide +kernel)) | refine bd ?_ ?_ | (refine cd ?_;apply hw) | fail
  first | exact⟨trivial,trivial⟩ | exact⟨rfl,rfl⟩
 case z =>
  intro env hs hk
  have r6:=hs 6 _ _ rfl
  have r7:=hs 7 _ _ rfl
  have r8:=hs 8 _ _ rfl
  have q5:=hk 1000000 rfl
  clear hs hk
  simp only [go_sem] at q5
  repeat' first | refine st ?_ | (refine ca ?_;apply k0) | (refine br ?_ ?_<;>intro hb) | refine sd ?_ | apply aB | (apply aL;(· decide +kernel)) | refine bd ?_ ?_ | (refine cd ?_;apply k0) | fail
  (apply bD HO.out H.out;(· simp);(· (simp only [go_sem, *];try rfl));(· (simp only [go_sem, *];try rfl));(· (simp only [go_sem, *,Tryz.results82];try rfl)))
theorem AJ (w0:World) (X:List ax) (p:Ps) (l:List Ev) (b:Nat) (hl:l.length≤1000000) (hp:ep p) (hb:b<256) (hn:cK p b) (hs:p.st=3) (hc:32≤b∧b<127) (R:Rt) (h:R (.ret (.tup [])) (aM X (dJ p b).1 (l++(dJ p b).2))):ao Tryz.prog w0 82 [.own X.length 0,.int .u8 b] (aM X p l) R:=by
 have c1:=fW hn
 obtain⟨f1,f2,f3,f4,f5,f6⟩:=fg hc
 have k0:=yN w0 X p l b hl hp hb
 have hw:=l_ w0
 unfold ow at hw
 unfold dJ at h
 have z:((3:Nat):Int)=3:=rfl
 clear hl hp hb hn hc
 obtain⟨s0,utf,pv,fn,pars,inter,text,bad⟩:=p
 simp only at hs c1
 subst hs
 simp only at h
 have H:=ae h
 clear h
 simp only [aM,cJ,cL,z] at k0
 simp only [z] at c1
 clear c1
 refine eN Tryz.func82 rfl Tryz.ntmps82 fun hO=>?_
 have HO:=ae hO
 clear hO
 simp only [aM,cJ,cL,z]
 repeat' ((fail_if_success (apply bW 20));first | refine st ?_ | (refine br ?_ ?_<;>intro hb) | fail)
 refine eY (n:=10) mixed rfl ?_
 refine jN [(135,.agg [.fn (.func 216) [] [],.fn (.func 217) [] [],.fn (.func 218) [] [],.fn (.func 219) [] [],.fn (.func 220) [] [],.fn (.func 221) [] [],.fnil,.fnil,.fn (.func 219) [] [],.fn (.func 220) [] [],.fn (.func 221) [] [],.fnil,.fnil,.fnil,.fnil]),(136,(.own X.length 0)),(137,(.own X.length 0)),(138,(.own X.length 0)),(139,(.own X.length 0)),(140,.int .i64 3),(141,.fn (.func 219) [] []),(142,(.own X.length 0)),(143,.int .u8 b)] rfl rfl rfl (by decide +kernel) (by decide +kernel) ⟨?s0, ?s1, ?s2, ?s3, ?s4, ?s5, ?s6, ?s7, ?s8,trivial⟩ ?z
 case s0 | s1 | s7 | s8 =>
  intro env hd
  have q0:=hd.2 0 rfl
  have q1:=hd.2 1 rfl
  simp only [go_sem, *] at q0 q1
  clear hd
  repeat' first | refine st ?_ | (refine ca ?_;apply hw) | (refine br ?_ ?_<;>intro hb) | refine sd ?_ | apply aB | (apply aL;(· decide +kernel)) | refine bd ?_ ?_ | (refine cd ?_;apply hw) | fail
  first | exact⟨trivial,trivial⟩ | exact⟨rfl,rfl⟩
 case s2 =>
  intro env hd
  have q0:=hd.2 0 rfl
  have q1:=hd.2 1 rfl
  simp only [go_sem, *] at q0 q1
  have r1:=hd.1 1 (by decide +kernel) _ _ rfl
  clear hd
  repeat' first | refine st ?_ | (refine ca ?_;apply hw) | (refine br ?_ ?_<;>intro hb) | refine sd ?_ | apply aB | (apply aL;(· decide +kernel)) | refine bd ?_ ?_ | (refine cd ?_;apply hw) | fail
  first | exact⟨trivial,trivial⟩ | exact⟨rfl,rfl⟩
 case s3 =>
  intro env hd
  have q0:=hd.2 0 rfl
  have q1:=hd.2 1 rfl
  simp only [go_sem, *] at q0 q1
  have r2:=hd.1 2 (by decide +kernel) _ _ rfl
  clear hd
  repeat' first | refine st ?_ | (refine ca ?_;apply hw) | (refine br ?_ ?_<;>intro hb) | refine sd ?_ | apply aB | (apply aL;(· decide +kernel)) | refine bd ?_ ?_ | (refine cd ?_;apply hw) | fail
  first | exact⟨trivial,trivial⟩ | exact⟨rfl,rfl⟩
 case s4 =>
  intro env hd
  have q0:=hd.2 0 rfl
  have q1:=hd.2 1 rfl
  simp only [go_sem, *] at q0 q1
  have r3:=hd.1 3 (by decide +kernel) _ _ rfl
  clear hd
  repeat' first | refine st ?_ | (refine ca ?_;apply hw) | (refine br ?_ ?_<;>intro hb) | refine sd ?_ | apply aB | (apply aL;(· decide +kernel)) | refine bd ?_ ?_ | (refine cd ?_;apply hw) | fail
  first | exact⟨trivial,trivial⟩ | exact⟨rfl,rfl⟩
 case s5 =>
  intro env hd
  have q0:=hd.2 0 rfl
  have q1:=hd.2 1 rfl
  simp only [go_sem, *] at q0 q1
  have r4:=hd.1 4 (by decide +kernel) _ _ rfl
  clear hd
  repeat' first | refine st ?_ | (refine ca ?_;apply hw) | (refine br ?_ ?_<;>intro hb) | refine sd ?_ | apply aB | (apply aL;(· decide +kernel)) | refine bd ?_ ?_ | (refine cd ?_;apply hw) | fail
  first | exact⟨trivial,trivial⟩ | exact⟨rfl,rfl⟩
 case s6 =>
  intro env hd
  have q0:=hd.2 0 rfl
  have q1:=hd.2 1 rfl
  simp only [go_sem, *] at q0 q1
  have r0:=hd.1 0 (by decide +kernel) _ _ rfl
  have r5:=hd.1 5 (by decide +kernel) _ _ rfl
  clear hd
  repeat' first | refine st ?_ | (refine ca ?_;apply hw) | (refine br ?_ ?_<;>intro hb) | refine sd ?_ | apply aB | (apply aL;(· decide +kernel)) | refine bd ?_ ?_ | (refine cd ?_;apply hw) | fail
  first | exact⟨trivial,trivial⟩ | exact⟨rfl,rfl⟩
 case z =>
  intro env hs hk
  have r6:=hs 6 _ _ rfl
  have r7:=hs 7 _ _ rfl
  have r8:=hs 8 _ _ rfl
  have q5:=hk 1000000 rfl
  clear hs hk
  simp only [go_sem] at q5
  repeat' first | refine st ?_ | (refine ca ?_;apply k0) | (refine br ?_ ?_<;>intro hb) | refine sd ?_ | apply aB | (apply aL;(· decide +kernel)) | refine bd ?_ ?_ | (refine cd ?_;apply k0) | fail
  (apply bD HO.out H.out;(· simp);(· (simp only [go_sem, *];try rfl));(· (simp only [go_sem, *];try rfl));(· (simp only [go_sem, *,Tryz.results82];try rfl)))
theorem AH (w0:World) (X:List ax) (p:Ps) (l:List Ev) (b:Nat) (hl:l.length≤1000000) (hp:ep p) (hb:b<256) (hn:cK p b) (hs:p.st=4) (hc:32≤b∧b<127) (R:Rt) (h:R (.ret (.tup [])) (aM X (dJ p b).1 (l++(dJ p b).2))):ao Tryz.prog w0 82 [.own X.length 0,.int .u8 b] (aM X p l) R:=by
 have c1:=fW hn
 obtain⟨f1,f2,f3,f4,f5,f6⟩:=fg hc
 have k0:=vZ w0 X p l b hl hp hb
 have hw:=l_ w0
 unfold ow at hw
 unfold dJ at h
 have z:((4:Nat):Int)=4:=rfl
 clear hl hp hb hn hc
 obtain⟨s0,utf,pv,fn,pars,inter,text,bad⟩:=p
 simp only at hs c1
 subst hs
 simp only at h
 have H:=ae h
 clear h
 simp only [aM,cJ,cL,z] at k0
 simp only [z] at c1
 clear c1
 refine eN Tryz.func82 rfl Tryz.ntmps82 fun hO=>?_
 have HO:=ae hO
 clear hO
 simp only [aM,cJ,cL,z]
 repeat' ((fail_if_success (apply bW 20));first | refine st ?_ | (refine br ?_ ?_<;>intro hb) | fail)
 refine eY (n:=10) mixed rfl ?_
 refine jN [(135,.agg [.fn (.func 216) [] [],.fn (.func 217) [] [],.fn (.func 218) [] [],.fn (.func 219) [] [],.fn (.func 220) [] [],.fn (.func 221) [] [],.fnil,.fnil,.fn (.func 219) [] [],.fn (.func 220) [] [],.fn (.func 221) [] [],.fnil,.fnil,.fnil,.fnil]),(136,(.own X.length 0)),(137,(.own X.length 0)),(138,(.own X.length 0)),(139,(.own X.length 0)),(140,.int .i64 4),(141,.fn (.func 220) [] []),(142,(.own X.length 0)),(143,.int .u8 b)] rfl rfl rfl (by decide +kernel) (by decide +kernel) ⟨?s0, ?s1, ?s2, ?s3, ?s4, ?s5, ?s6, ?s7, ?s8,trivial⟩ ?z
 case s0 | s1 | s7 | s8 =>
  intro env hd
  have q0:=hd.2 0 rfl
  have q1:=hd.2 1 rfl
  simp only [go_sem, *] at q0 q1
  clear hd
  repeat' first | refine st ?_ | (refine ca ?_;apply hw) | (refine br ?_ ?_<;>intro hb) | refine sd ?_ | apply aB | (apply aL;(· decide +kernel)) | refine bd ?_ ?_ | (refine cd ?_;apply hw) | fail
  first | exact⟨trivial,trivial⟩ | exact⟨rfl,rfl⟩
 case s2 =>
  intro env hd
  have q0:=hd.2 0 rfl
  have q1:=hd.2 1 rfl
  simp only [go_sem, *] at q0 q1
  have r1:=hd.1 1 (by decide +kernel) _ _ rfl
  clear hd
  repeat' first | refine st ?_ | (refine ca ?_;apply hw) | (refine br ?_ ?_<;>intro hb) | refine sd ?_ | apply aB | (apply aL;(· decide +kernel)) | refine bd ?_ ?_ | (refine cd ?_;apply hw) | fail
  first | exact⟨trivial,trivial⟩ | exact⟨rfl,rfl⟩
 case s3 =>
  intro env hd
  have q0:=hd.2 0 rfl
  have q1:=hd.2 1 rfl
  simp only [go_sem, *] at q0 q1
  have r2:=hd.1 2 (by decide +kernel) _ _ rfl
  clear hd
  repeat' first | refine st ?_ | (refine ca ?_;apply hw) | (refine br ?_ ?_<;>intro hb) | refine sd ?_ | apply aB | (apply aL;(· decide +kernel)) | refine bd ?_ ?_ | (refine cd ?_;apply hw) | fail
  first | exact⟨trivial,trivial⟩ | exact⟨rfl,rfl⟩
 case s4 =>
  intro env hd
  have q0:=hd.2 0 rfl
  have q1:=hd.2 1 rfl
  simp only [go_sem, *] at q0 q1
  have r3:=hd.1 3 (by decide +kernel) _ _ rfl
  clear hd
  repeat' first | refine st ?_ | (refine ca ?_;apply hw) | (refine br ?_ ?_<;>intro hb) | refine sd ?_ | apply aB | (apply aL;(· decide +kernel)) | refine bd ?_ ?_ | (refine cd ?_;apply hw) | fail
  first | exact⟨trivial,trivial⟩ | exact⟨rfl,rfl⟩
 case s5 =>
  intro env hd
  have q0:=hd.2 0 rfl
  have q1:=hd.2 1 rfl
  simp only [go_sem, *] at q0 q1
  have r4:=hd.1 4 (by decide +kernel) _ _ rfl
  clear hd
  repeat' first | refine st ?_ | (refine ca ?_;apply hw) | (refine br ?_ ?_<;>intro hb) | refine sd ?_ | apply aB | (apply aL;(· decide +kernel)) | refine bd ?_ ?_ | (refine cd ?_;apply hw) | fail
  first | exact⟨trivial,trivial⟩ | exact⟨rfl,rfl⟩
 case s6 =>
  intro env hd
  have q0:=hd.2 0 rfl
  have q1:=hd.2 1 rfl
  simp only [go_sem, *] at q0 q1
  have r0:=hd.1 0 (by decide +kernel) _ _ rfl
  have r5:=hd.1 5 (by decide +kernel) _ _ rfl
  clear hd
  repeat' first | refine st ?_ | (refine ca ?_;apply hw) | (refine br ?_ ?_<;>intro hb) | refine sd ?_ | apply aB | (apply aL;(· decide +kernel)) | refine bd ?_ ?_ | (refine cd ?_;apply hw) | fail
  first | exact⟨trivial,trivial⟩ | exact⟨rfl,rfl⟩
 case z =>
  intro env hs hk
  have r6:=hs 6 _ _ rfl
  have r7:=hs 7 _ _ rfl
  have r8:=hs 8 _ _ rfl
  have q5:=hk 1000000 rfl
  clear hs hk
  simp only [go_sem] at q5
  repeat' first | refine st ?_ | (refine ca ?_;apply k0) | (refine br ?_ ?_<;>intro hb) | refine sd ?_ | apply aB | (apply aL;(· decide +kernel)) | refine bd ?_ ?_ | (refine cd ?_;apply k0) | fail
  (apply bD HO.out H.out;(· simp);(· (simp only [go_sem, *];try rfl));(· (simp only [go_sem, *];try rfl));(· (simp only [go_sem, *,Tryz.results82];try rfl)))
theorem AG (w0:World) (X:List ax) (p:Ps) (l:List Ev) (b:Nat) (hl:l.length≤1000000) (hp:ep p) (hb:b<256) (hn:cK p b) (hs:p.st=5) (hc:32≤b∧b<127) (R:Rt) (h:R (.ret (.tup [])) (aM X (dJ p b).1 (l++(dJ p b).2))):ao Tryz.prog w0 82 [.own X.length 0,.int .u8 b] (aM X p l) R:=by
 have c1:=fW hn
 obtain⟨f1,f2,f3,f4,f5,f6⟩:=fg hc
 have k0:=v6 w0 X p l b hl hp hb
 have hw:=l_ w0
 unfold ow at hw
 unfold dJ at h
 have z:((5:Nat):Int)=5:=rfl
 clear hl hp hb hn hc
 obtain⟨s0,utf,pv,fn,pars,inter,text,bad⟩:=p
 simp only at hs c1
 subst hs
 simp only at h
 have H:=ae h
 clear h
 simp only [aM,cJ,cL,z] at k0
 simp only [z] at c1
 clear c1
 refine eN Tryz.func82 rfl Tryz.ntmps82 fun hO=>?_
 have HO:=ae hO
 clear hO
 simp only [aM,cJ,cL,z]
 repeat' ((fail_if_success (apply bW 20));first | refine st ?_ | (refine br ?_ ?_<;>intro hb) | fail)
 refine eY (n:=10) mixed rfl ?_
 refine jN [(135,.agg [.fn (.func 216) [] [],.fn (.func 217) [] [],.fn (.func 218) [] [],.fn (.func 219) [] [],.fn (.func 220) [] [],.fn (.func 221) [] [],.fnil,.fnil,.fn (.func 219) [] [],.fn (.func 220) [] [],.fn (.func 221) [] [],.fnil,.fnil,.fnil,.fnil]),(136,(.own X.length 0)),(137,(.own X.length 0)),(138,(.own X.length 0)),(139,(.own X.length 0)),(140,.int .i64 5),(141,.fn (.func 221) [] []),(142,(.own X.length 0)),(143,.int .u8 b)] rfl rfl rfl (by decide +kernel) (by decide +kernel) ⟨?s0, ?s1, ?s2, ?s3, ?s4, ?s5, ?s6, ?s7, ?s8,trivial⟩ ?z
 case s0 | s1 | s7 | s8 =>
  intro env hd
  have q0:=hd.2 0 rfl
  have q1:=hd.2 1 rfl
  simp only [go_sem, *] at q0 q1
  clear hd
  repeat' first | refine st ?_ | (refine ca ?_;apply hw) | (refine br ?_ ?_<;>intro hb) | refine sd ?_ | apply aB | (apply aL;(· decide +kernel)) | refine bd ?_ ?_ | (refine cd ?_;apply hw) | fail
  first | exact⟨trivial,trivial⟩ | exact⟨rfl,rfl⟩
 case s2 =>
  intro env hd
  have q0:=hd.2 0 rfl
  have q1:=hd.2 1 rfl
  simp only [go_sem, *] at q0 q1
  have r1:=hd.1 1 (by decide +kernel) _ _ rfl
  clear hd
  repeat' first | refine st ?_ | (refine ca ?_;apply hw) | (refine br ?_ ?_<;>intro hb) | refine sd ?_ | apply aB | (apply aL;(· decide +kernel)) | refine bd ?_ ?_ | (refine cd ?_;apply hw) | fail
  first | exact⟨trivial,trivial⟩ | exact⟨rfl,rfl⟩
 case s3 =>
  intro env hd
  have q0:=hd.2 0 rfl
  have q1:=hd.2 1 rfl
  simp only [go_sem, *] at q0 q1
  have r2:=hd.1 2 (by decide +kernel) _ _ rfl
  clear hd
  repeat' first | refine st ?_ | (refine ca ?_;apply hw) | (refine br ?_ ?_<;>intro hb) | refine sd ?_ | apply aB | (apply aL;(· decide +kernel)) | refine bd ?_ ?_ | (refine cd ?_;apply hw) | fail
  first | exact⟨trivial,trivial⟩ | exact⟨rfl,rfl⟩
 case s4 =>
  intro env hd
  have q0:=hd.2 0 rfl
  have q1:=hd.2 1 rfl
  simp only [go_sem, *] at q0 q1
  have r3:=hd.1 3 (by decide +kernel) _ _ rfl
  clear hd
  repeat' first | refine st ?_ | (refine ca ?_;apply hw) | (refine br ?_ ?_<;>intro hb) | refine sd ?_ | apply aB | (apply aL;(· decide +kernel)) | refine bd ?_ ?_ | (refine cd ?_;apply hw) | fail
  first | exact⟨trivial,trivial⟩ | exact⟨rfl,rfl⟩
 case s5 =>
  intro env hd
  have q0:=hd.2 0 rfl
  have q1:=hd.2 1 rfl
  simp only [go_sem, *] at q0 q1
  have r4:=hd.1 4 (by decide +kernel) _ _ rfl
  clear hd
  repeat' first | refine st ?_ | (refine ca ?_;apply hw) | (refine br ?_ ?_<;>intro hb) | refine sd ?_ | apply aB | (apply aL;(· decide +kernel)) | refine bd ?_ ?_ | (refine cd ?_;apply hw) | fail
  first | exact⟨trivial,trivial⟩ | exact⟨rfl,rfl⟩
 case s6 =>
  intro env hd
  have q0:=hd.2 0 rfl
  have q1:=hd.2 1 rfl
  simp only [go_sem, *] at q0 q1
  have r0:=hd.1 0 (by decide +kernel) _ _ rfl
  have r5:=hd.1 5 (by decide +kernel) _ _ rfl
  clear hd
  repeat' first | refine st ?_ | (refine ca ?_;apply hw) | (refine br ?_ ?_<;>intro hb) | refine sd ?_ | apply aB | (apply aL;(· decide +kernel)) | refine bd ?_ ?_ | (refine cd ?_;apply hw) | fail
  first | exact⟨trivial,trivial⟩ | exact⟨rfl,rfl⟩
 case z =>
  intro env hs hk
  have r6:=hs 6 _ _ rfl
  have r7:=hs 7 _ _ rfl
  have r8:=hs 8 _ _ rfl
  have q5:=hk 1000000 rfl
  clear hs hk
  simp only [go_sem] at q5
  repeat' first | refine st ?_ | (refine ca ?_;apply k0) | (refine br ?_ ?_<;>intro hb) | refine sd ?_ | apply aB | (apply aL;(· decide +kernel)) | refine bd ?_ ?_ | (refine cd ?_;apply k0) | fail
  (apply bD HO.out H.out;(· simp);(· (simp only [go_sem, *];try rfl));(· (simp only [go_sem, *];try rfl));(· (simp only [go_sem, *,Tryz.results82];try rfl)))
theorem AF (w0:World) (X:List ax) (p:Ps) (l:List Ev) (b:Nat) (hl:l.length≤1000000) (hp:ep p) (hb:b<256) (hn:cK p b) (hs:p.st=8) (hc:32≤b∧b<127) (R:Rt) (h:R (.ret (.tup [])) (aM X (dJ p b).1 (l++(dJ p b).2))):ao Tryz.prog w0 82 [.own X.length 0,.int .u8 b] (aM X p l) R:=by
 have c1:=fW hn
 obtain⟨f1,f2,f3,f4,f5,f6⟩:=fg hc
 have k0:=yN w0 X p l b hl hp hb
 have hw:=l_ w0
 unfold ow at hw
 unfold dJ at h
 have z:((8:Nat):Int)=8:=rfl
 clear hl hp hb hn hc
 obtain⟨s0,utf,pv,fn,pars,inter,text,bad⟩:=p
 simp only at hs c1
 subst hs
 simp only at h
 have H:=ae h
 clear h
 simp only [aM,cJ,cL,z] at k0
 simp only [z] at c1
 clear c1
 refine eN Tryz.func82 rfl Tryz.ntmps82 fun hO=>?_
 have HO:=ae hO
 clear hO
 simp only [aM,cJ,cL,z]
 repeat' ((fail_if_success (apply bW 20));first | refine st ?_ | (refine br ?_ ?_<;>intro hb) | fail)
 refine eY (n:=10) mixed rfl ?_
 refine jN [(135,.agg [.fn (.func 216) [] [],.fn (.func 217) [] [],.fn (.func 218) [] [],.fn (.func 219) [] [],.fn (.func 220) [] [],.fn (.func 221) [] [],.fnil,.fnil,.fn (.func 219) [] [],.fn (.func 220) [] [],.fn (.func 221) [] [],.fnil,.fnil,.fnil,.fnil]),(136,(.own X.length 0)),(137,(.own X.length 0)),(138,(.own X.length 0)),(139,(.own X.length 0)),(140,.int .i64 8),(141,.fn (.func 219) [] []),(142,(.own X.length 0)),(143,.int .u8 b)] rfl rfl rfl (by decide +kernel) (by decide +kernel) ⟨?s0, ?s1, ?s2, ?s3, ?s4, ?s5, ?s6, ?s7, ?s8,trivial⟩ ?z
 case s0 | s1 | s7 | s8 =>
  intro env hd
  have q0:=hd.2 0 rfl
  have q1:=hd.2 1 rfl
  simp only [go_sem, *] at q0 q1
  clear hd
  repeat' first | refine st ?_ | (refine ca ?_;apply hw) | (refine br ?_ ?_<;>intro hb) | refine sd ?_ | apply aB | (apply aL;(· decide +kernel)) | refine bd ?_ ?_ | (refine cd ?_;apply hw) | fail
  first | exact⟨trivial,trivial⟩ | exact⟨rfl,rfl⟩
 case s2 =>
  intro env hd
  have q0:=hd.2 0 rfl
  have q1:=hd.2 1 rfl
  simp only [go_sem, *] at q0 q1
  have r1:=hd.1 1 (by decide +kernel) _ _ rfl
  clear hd
  repeat' first | refine st ?_ | (refine ca ?_;apply hw) | (refine br ?_ ?_<;>intro hb) | refine sd ?_ | apply aB | (apply aL;(· decide +kernel)) | refine bd ?_ ?_ | (refine cd ?_;apply hw) | fail
  first | exact⟨trivial,trivial⟩ | exact⟨rfl,rfl⟩
 case s3 =>
  intro env hd
  have q0:=hd.2 0 rfl
  have q1:=hd.2 1 rfl
  simp only [go_sem, *] at q0 q1
  have r2:=hd.1 2 (by decide +kernel) _ _ rfl
  clear hd
  repeat' first | refine st ?_ | (refine ca ?_;apply hw) | (refine br ?_ ?_<;>intro hb) | refine sd ?_ | apply aB | (apply aL;(· decide +kernel)) | refine bd ?_ ?_ | (refine cd ?_;apply hw) | fail
  first | exact⟨trivial,trivial⟩ | exact⟨rfl,rfl⟩
 case s4 =>
  intro env hd
  have q0:=hd.2 0 rfl
  have q1:=hd.2 1 rfl
  simp only [go_sem, *] at q0 q1
  have r3:=hd.1 3 (by decide +kernel) _ _ rfl
  clear hd
  repeat' first | refine st ?_ | (refine ca ?_;apply hw) | (refine br ?_ ?_<;>intro hb) | refine sd ?_ | apply aB | (apply aL;(· decide +kernel)) | refine bd ?_ ?_ | (refine cd ?_;apply hw) | fail
  first | exact⟨trivial,trivial⟩ | exact⟨rfl,rfl⟩
 case s5 =>
  intro env hd
  have q0:=hd.2 0 rfl
  have q1:=hd.2 1 rfl
  simp only [go_sem, *] at q0 q1
  have r4:=hd.1 4 (by decide +kernel) _ _ rfl
  clear hd
  repeat' first | refine st ?_ | (refine ca ?_;apply hw) | (refine br ?_ ?_<;>intro hb) | refine sd ?_ | apply aB | (apply aL;(· decide +kernel)) | refine bd ?_ ?_ | (refine cd ?_;apply hw) | fail
  first | exact⟨trivial,trivial⟩ | exact⟨rfl,rfl⟩
 case s6 =>
  intro env hd
  have q0:=hd.2 0 rfl
  have q1:=hd.2 1 rfl
  simp only [go_sem, *] at q0 q1
  have r0:=hd.1 0 (by decide +kernel) _ _ rfl
  have r5:=hd.1 5 (by decide +kernel) _ _ rfl
  clear hd
  repeat' first | refine st ?_ | (refine ca ?_;apply hw) | (refine br ?_ ?_<;>intro hb) | refine sd ?_ | apply aB | (apply aL;(· decide +kernel)) | refine bd ?_ ?_ | (refine cd ?_;apply hw) | fail
  first | exact⟨trivial,trivial⟩ | exact⟨rfl,rfl⟩
 case z =>
  intro env hs hk
  have r6:=hs 6 _ _ rfl
  have r7:=hs 7 _ _ rfl
  have r8:=hs 8 _ _ rfl
  have q5:=hk 1000000 rfl
  clear hs hk
  simp only [go_sem] at q5
  repeat' first | refine st ?_ | (refine ca ?_;apply k0) | (refine br ?_ ?_<;>intro hb) | refine sd ?_ | apply aB | (apply aL;(· decide +kernel)) | refine bd ?_ ?_ | (refine cd ?_;apply k0) | fail
  (apply bD HO.out H.out;(· simp);(· (simp only [go_sem, *];try rfl));(· (simp only [go_sem, *];try rfl));(· (simp only [go_sem, *,Tryz.results82];try rfl)))
theorem AE (w0:World) (X:List ax) (p:Ps) (l:List Ev) (b:Nat) (hl:l.length≤1000000) (hp:ep p) (hb:b<256) (hn:cK p b) (hs:p.st=9) (hc:32≤b∧b<127) (R:Rt) (h:R (.ret (.tup [])) (aM X (dJ p b).1 (l++(dJ p b).2))):ao Tryz.prog w0 82 [.own X.length 0,.int .u8 b] (aM X p l) R:=by
 have c1:=fW hn
 obtain⟨f1,f2,f3,f4,f5,f6⟩:=fg hc
 have k0:=vZ w0 X p l b hl hp hb
 have hw:=l_ w0
 unfold ow at hw
 unfold dJ at h
 have z:((9:Nat):Int)=9:=rfl
 clear hl hp hb hn hc
 obtain⟨s0,utf,pv,fn,pars,inter,text,bad⟩:=p
 simp only at hs c1
 subst hs
 simp only at h
 have H:=ae h
 clear h
 simp only [aM,cJ,cL,z] at k0
 simp only [z] at c1
 clear c1
 refine eN Tryz.func82 rfl Tryz.ntmps82 fun hO=>?_
 have HO:=ae hO
 clear hO
 simp only [aM,cJ,cL,z]
 repeat' ((fail_if_success (apply bW 20));first | refine st ?_ | (refine br ?_ ?_<;>intro hb) | fail)
 refine eY (n:=10) mixed rfl ?_
 refine jN [(135,.agg [.fn (.func 216) [] [],.fn (.func 217) [] [],.fn (.func 218) [] [],.fn (.func 219) [] [],.fn (.func 220) [] [],.fn (.func 221) [] [],.fnil,.fnil,.fn (.func 219) [] [],.fn (.func 220) [] [],.fn (.func 221) [] [],.fnil,.fnil,.fnil,.fnil]),(136,(.own X.length 0)),(137,(.own X.length 0)),(138,(.own X.length 0)),(139,(.own X.length 0)),(140,.int .i64 9),(141,.fn (.func 220) [] []),(142,(.own X.length 0)),(143,.int .u8 b)] rfl rfl rfl (by decide +kernel) (by decide +kernel) ⟨?s0, ?s1, ?s2, ?s3, ?s4, ?s5, ?s6, ?s7, ?s8,trivial⟩ ?z
 case s0 | s1 | s7 | s8 =>
  intro env hd
  have q0:=hd.2 0 rfl
  have q1:=hd.2 1 rfl
  simp only [go_sem, *] at q0 q1
  clear hd
  repeat' first | refine st ?_ | (refine ca ?_;apply hw) | (refine br ?_ ?_<;>intro hb) | refine sd ?_ | apply aB | (apply aL;(· decide +kernel)) | refine bd ?_ ?_ | (refine cd ?_;apply hw) | fail
  first | exact⟨trivial,trivial⟩ | exact⟨rfl,rfl⟩
 case s2 =>
  intro env hd
  have q0:=hd.2 0 rfl
  have q1:=hd.2 1 rfl
  simp only [go_sem, *] at q0 q1
  have r1:=hd.1 1 (by decide +kernel) _ _ rfl
  clear hd
  repeat' first | refine st ?_ | (refine ca ?_;apply hw) | (refine br ?_ ?_<;>intro hb) | refine sd ?_ | apply aB | (apply aL;(· decide +kernel)) | refine bd ?_ ?_ | (refine cd ?_;apply hw) | fail
  first | exact⟨trivial,trivial⟩ | exact⟨rfl,rfl⟩
 case s3 =>
  intro env hd
  have q0:=hd.2 0 rfl
  have q1:=hd.2 1 rfl
  simp only [go_sem, *] at q0 q1
  have r2:=hd.1 2 (by decide +kernel) _ _ rfl
  clear hd
  repeat' first | refine st ?_ | (refine ca ?_;apply hw) | (refine br ?_ ?_<;>intro hb) | refine sd ?_ | apply aB | (apply aL;(· decide +kernel)) | refine bd ?_ ?_ | (refine cd ?_;apply hw) | fail
  first | exact⟨trivial,trivial⟩ | exact⟨rfl,rfl⟩
 case s4 =>
  intro env hd
  have q0:=hd.2 0 rfl
  have q1:=hd.2 1 rfl
  simp only [go_sem, *] at q0 q1
  have r3:=hd.1 3 (by decide +kernel) _ _ rfl
  clear hd
  repeat' first | refine st ?_ | (refine ca ?_;apply hw) | (refine br ?_ ?_<;>intro hb) | refine sd ?_ | apply aB | (apply aL;(· decide +kernel)) | refine bd ?_ ?_ | (refine cd ?_;apply hw) | fail
  first | exact⟨trivial,trivial⟩ | exact⟨rfl,rfl⟩
 case s5 =>
  intro env hd
  have q0:=hd.2 0 rfl
  have q1:=hd.2 1 rfl
  simp only [go_sem, *] at q0 q1
  have r4:=hd.1 4 (by decide +kernel) _ _ rfl
  clear hd
  repeat' first | refine st ?_ | (refine ca ?_;apply hw) | (refine br ?_ ?_<;>intro hb) | refine sd ?_ | apply aB | (apply aL;(· decide +kernel)) | refine bd ?_ ?_ | (refine cd ?_;apply hw) | fail
  first | exact⟨trivial,trivial⟩ | exact⟨rfl,rfl⟩
 case s6 =>
  intro env hd
  have q0:=hd.2 0 rfl
  have q1:=hd.2 1 rfl
  simp only [go_sem, *] at q0 q1
  have r0:=hd.1 0 (by decide +kernel) _ _ rfl
  have r5:=hd.1 5 (by decide +kernel) _ _ rfl
  clear hd
  repeat' first | refine st ?_ | (refine ca ?_;apply hw) | (refine br ?_ ?_<;>intro hb) | refine sd ?_ | apply aB | (apply aL;(· decide +kernel)) | refine bd ?_ ?_ | (refine cd ?_;apply hw) | fail
  first | exact⟨trivial,trivial⟩ | exact⟨rfl,rfl⟩
 case z =>
  intro env hs hk
  have r6:=hs 6 _ _ rfl
  have r7:=hs 7 _ _ rfl
  have r8:=hs 8 _ _ rfl
  have q5:=hk 1000000 rfl
  clear hs hk
  simp only [go_sem] at q5
  repeat' first | refine st ?_ | (refine ca ?_;apply k0) | (refine br ?_ ?_<;>intro hb) | refine sd ?_ | apply aB | (apply aL;(· decide +kernel)) | refine bd ?_ ?_ | (refine cd ?_;apply k0) | fail
  (apply bD HO.out H.out;(· simp);(· (simp only [go_sem, *];try rfl));(· (simp only [go_sem, *];try rfl));(· (simp only [go_sem, *,Tryz.results82];try rfl)))
theorem yF (w0:World) (X:List ax) (p:Ps) (l:List Ev) (b:Nat) (hl:l.length≤1000000) (hp:ep p) (hb:b<256) (hn:cK p b) (hs:p.st=10) (hc:32≤b∧b<127) (R:Rt) (h:R (.ret (.tup [])) (aM X (dJ p b).1 (l++(dJ p b).2))):ao Tryz.prog w0 82 [.own X.length 0,.int .u8 b] (aM X p l) R:=by
 have c1:=fW hn
 obtain⟨f1,f2,f3,f4,f5,f6⟩:=fg hc
 have k0:=v6 w0 X p l b hl hp hb
 have hw:=l_ w0
 unfold ow at hw
 unfold dJ at h
 have z:((10:Nat):Int)=10:=rfl
 clear hl hp hb hn hc
 obtain⟨s0,utf,pv,fn,pars,inter,text,bad⟩:=p
 simp only at hs c1
 subst hs
 simp only at h
 have H:=ae h
 clear h
 simp only [aM,cJ,cL,z] at k0
 simp only [z] at c1
 clear c1
 refine eN Tryz.func82 rfl Tryz.ntmps82 fun hO=>?_
 have HO:=ae hO
 clear hO
 simp only [aM,cJ,cL,z]
 repeat' ((fail_if_success (apply bW 20));first | refine st ?_ | (refine br ?_ ?_<;>intro hb) | fail)
 refine eY (n:=10) mixed rfl ?_
 refine jN [(135,.agg [.fn (.func 216) [] [],.fn (.func 217) [] [],.fn (.func 218) [] [],.fn (.func 219) [] [],.fn (.func 220) [] [],.fn (.func 221) [] [],.fnil,.fnil,.fn (.func 219) [] [],.fn (.func 220) [] [],.fn (.func 221) [] [],.fnil,.fnil,.fnil,.fnil]),(136,(.own X.length 0)),(137,(.own X.length 0)),(138,(.own X.length 0)),(139,(.own X.length 0)),(140,.int .i64 10),(141,.fn (.func 221) [] []),(142,(.own X.length 0)),(143,.int .u8 b)] rfl rfl rfl (by decide +kernel) (by decide +kernel) ⟨?s0, ?s1, ?s2, ?s3, ?s4, ?s5, ?s6, ?s7, ?s8,trivial⟩ ?z
 case s0 | s1 | s7 | s8 =>
  intro env hd
  have q0:=hd.2 0 rfl
  have q1:=hd.2 1 rfl
  simp only [go_sem, *] at q0 q1
  clear hd
  repeat' first | refine st ?_ | (refine ca ?_;apply hw) | (refine br ?_ ?_<;>intro hb) | refine sd ?_ | apply aB | (apply aL;(· decide +kernel)) | refine bd ?_ ?_ | (refine cd ?_;apply hw) | fail
  first | exact⟨trivial,trivial⟩ | exact⟨rfl,rfl⟩
 case s2 =>
  intro env hd
  have q0:=hd.2 0 rfl
  have q1:=hd.2 1 rfl
  simp only [go_sem, *] at q0 q1
  have r1:=hd.1 1 (by decide +kernel) _ _ rfl
  clear hd
  repeat' first | refine st ?_ | (refine ca ?_;apply hw) | (refine br ?_ ?_<;>intro hb) | refine sd ?_ | apply aB | (apply aL;(· decide +kernel)) | refine bd ?_ ?_ | (refine cd ?_;apply hw) | fail
  first | exact⟨trivial,trivial⟩ | exact⟨rfl,rfl⟩
 case s3 =>
  intro env hd
  have q0:=hd.2 0 rfl
  have q1:=hd.2 1 rfl
  simp only [go_sem, *] at q0 q1
  have r2:=hd.1 2 (by decide +kernel) _ _ rfl
  clear hd
  repeat' first | refine st ?_ | (refine ca ?_;apply hw) | (refine br ?_ ?_<;>intro hb) | refine sd ?_ | apply aB | (apply aL;(· decide +kernel)) | refine bd ?_ ?_ | (refine cd ?_;apply hw) | fail
  first | exact⟨trivial,trivial⟩ | exact⟨rfl,rfl⟩
 case s4 =>
  intro env hd
  have q0:=hd.2 0 rfl
  have q1:=hd.2 1 rfl
  simp only [go_sem, *] at q0 q1
  have r3:=hd.1 3 (by decide +kernel) _ _ rfl
  clear hd
  repeat' first | refine st ?_ | (refine ca ?_;apply hw) | (refine br ?_ ?_<;>intro hb) | refine sd ?_ | apply aB | (apply aL;(· decide +kernel)) | refine bd ?_ ?_ | (refine cd ?_;apply hw) | fail
  first | exact⟨trivial,trivial⟩ | exact⟨rfl,rfl⟩
 case s5 =>
  intro env hd
  have q0:=hd.2 0 rfl
  have q1:=hd.2 1 rfl
  simp only [go_sem, *] at q0 q1
  have r4:=hd.1 4 (by decide +kernel) _ _ rfl
  clear hd
  repeat' first | refine st ?_ | (refine ca ?_;apply hw) | (refine br ?_ ?_<;>intro hb) | refine sd ?_ | apply aB | (apply aL;(· decide +kernel)) | refine bd ?_ ?_ | (refine cd ?_;apply hw) | fail
  first | exact⟨trivial,trivial⟩ | exact⟨rfl,rfl⟩
 case s6 =>
  intro env hd
  have q0:=hd.2 0 rfl
  have q1:=hd.2 1 rfl
  simp only [go_sem, *] at q0 q1
  have r0:=hd.1 0 (by decide +kernel) _ _ rfl
  have r5:=hd.1 5 (by decide +kernel) _ _ rfl
  clear hd
  repeat' first | refine st ?_ | (refine ca ?_;apply hw) | (refine br ?_ ?_<;>intro hb) | refine sd ?_ | apply aB | (apply aL;(· decide +kernel)) | refine bd ?_ ?_ | (refine cd ?_;apply hw) | fail
  first | exact⟨trivial,trivial⟩ | exact⟨rfl,rfl⟩
 case z =>
  intro env hs hk
  have r6:=hs 6 _ _ rfl
  have r7:=hs 7 _ _ rfl
  have r8:=hs 8 _ _ rfl
  have q5:=hk 1000000 rfl
  clear hs hk
  simp only [go_sem] at q5
  repeat' first | refine st ?_ | (refine ca ?_;apply k0) | (refine br ?_ ?_<;>intro hb) | refine sd ?_ | apply aB | (apply aL;(· decide +kernel)) | refine bd ?_ ?_ | (refine cd ?_;apply k0) | fail
  (apply bD HO.out H.out;(· simp);(· (simp only [go_sem, *];try rfl));(· (simp only [go_sem, *];try rfl));(· (simp only [go_sem, *,Tryz.results82];try rfl)))
theorem yG (w0:World) (X:List ax) (p:Ps) (l:List Ev) (b:Nat) (hl:l.length≤1000000) (hp:ep p) (hb:b<256) (hn:cK p b) (he:iy p.st=true→b=24∨b=26∨b=27) (ht:eH p.st=true∨b<128∨b=24∨b=26∨b=27) (R:Rt) (h:R (.ret (.tup [])) (aM X (take1 p b).1 (l++(take1 p b).2))):ao Tryz.prog w0 82 [.own X.length 0,.int .u8 b] (aM X p l) R:=by
 have hnn:=hn
 unfold cK at hnn
 unfold take1 at h
 rw [if_neg hnn] at h
 by_cases c1:b=24∨b=26
 ·rw [if_pos c1] at h
  simp only [aE] at h
  exact AU w0 X p l b hl hp hb hn c1 R h
 rw [if_neg c1] at h
 by_cases c2:b=27
 ·rw [if_pos c2] at h
  cases hx:eH p.st with
  | true =>
   rw [hx] at h
   simp only [if_true,aE] at h
   exact AR w0 X p l b hl hp hb hn c2 hx R h
  | false =>
   rw [hx] at h
   simp only [bJ,if_false,aE] at h
   exact AQ w0 X p l b hl hp hb hn c2 hx R h
 rw [if_neg c2] at h
 have c3:b≠24∧b≠26∧b≠27:=by omega
 have he':iy p.st=false:=by
  cases hx:iy p.st with
  | false=>rfl
  | true=>have:=he hx;omega
 cases hx:eH p.st with
 | true =>
  rw [hx] at h
  simp only [if_true] at h
  exact AP w0 X p l b hl hp hb hn c3 hx R h
 | false =>
  have hb1:b<128:=by
   rcases ht with ht | ht
   ·rw [hx] at ht;cases ht
   ·omega
  rw [hx,if_neg (by decide),if_neg (by omega)] at h
  by_cases c4:b<32
  ·rw [if_pos c4] at h
   exact AO w0 X p l b hl hp hb hn c3 c4 hx he' R h
  rw [if_neg c4] at h
  by_cases c5:b=127
  ·rw [if_pos c5] at h
   simp only [aE] at h
   exact AN w0 X p l b hl hp hb hn c5 hx he' R h
  rw [if_neg c5] at h
  have hs:=hp.st
  have hc:32≤b∧b<127:=by omega
  have hst:p.st=0∨p.st=1∨p.st=2∨p.st=3∨p.st=4∨p.st=5∨p.st=8∨p.st=9∨p.st=10:=by
   unfold eH at hx
   unfold iy at he'
   simp only [bj,beq_eq_false_iff_ne] at hx he'
   omega
  rcases hst with hst | hst | hst | hst | hst | hst | hst | hst | hst
  ·exact AM w0 X p l b hl hp hb hn hst hc R h
  ·exact AL w0 X p l b hl hp hb hn hst hc R h
  ·exact AK w0 X p l b hl hp hb hn hst hc R h
  ·exact AJ w0 X p l b hl hp hb hn hst hc R h
  ·exact AH w0 X p l b hl hp hb hn hst hc R h
  ·exact AG w0 X p l b hl hp hb hn hst hc R h
  ·exact AF w0 X p l b hl hp hb hn hst hc R h
  ·exact AE w0 X p l b hl hp hb hn hst hc R h
  ·exact yF w0 X p l b hl hp hb hn hst hc R h
theorem zM {c:Nat} (h:c<32∨c=127):take1 (cB 0) c=rZ c:=by
 have e:(cB 0).st=0:=rfl
 have e2:(cB 0).utf=[]:=rfl
 unfold take1 rZ
 rw [e,e2,if_neg (by simp;omega)]
 split
 ·rfl
 ·next h1 =>
  split
  ·rfl
  ·next h2 =>
   rw [if_neg (by decide),if_neg (by omega)]
   split
   ·rfl
   ·next h3=>rw [if_pos (by omega)]
theorem F0 (w0:World) (X:List ax) (l:List Ev) (c:Nat) (hl:l.length≤1000000) (hc:c<32∨c=127) (R:Rt) (h:R (.ret (.tup [])) (aM X (rZ c).1 (l++(rZ c).2))):ao Tryz.prog w0 82 [.own X.length 0,.int .u8 c] (aM X (cB 0) l) R:=by
 rw [← zM hc] at h
 refine yG w0 X (cB 0) l c hl (ep.beg (by decide)) (by omega) ?_ (fun h=>by cases h) (by omega) R h
 unfold cK
 have e2:(cB 0).utf=[]:=rfl
 rw [e2]
 simp
 omega
theorem D7 {p:List Nat}{b i c:Nat} (h:(dj p b).2[i]? = some c) (hc:c<32∨c=127):(((dj p b).2.take i).foldl gh ({ cB 0 with utf:=(dj p b).1 },[])).1=cB 0:=by
 have key:∀ (q:List Nat × List Nat),q.2[i]? = some c→(q.1=[]∧(q.2=[c]∨q.2=[65533,c]))→((q.2.take i).foldl gh ({ cB 0 with utf:=q.1 },[])).1=cB 0:=by
  rintro q hq ⟨h1,h2 | h2⟩
  ·rw [h2] at hq ⊢
   match i,hq with
   | 0,_=>rw [h1];rfl
   | n+1,hq=>simp at hq
  ·rw [h2] at hq ⊢
   match i,hq with
   | 0,hq=>simp at hq;omega
   | 1,_=>rw [h1];rfl
   | n+2,hq=>simp at hq
 refine key _ h ?_
 have one:∀ {x:Nat},[x][i]? = some c→x=c:=by
  intro x hx
  match i,hx with
  | 0,hx=>simpa using hx
  | n+1,hx=>simp at hx
 revert h
 unfold dj
 split
 ·intro h;exact⟨rfl,.inl (by rw [one h])⟩
 ·split
  ·intro h;simp at h
  ·split
   ·intro h;have:=one h;omega
   ·unfold hU
    split
    ·intro h
     refine⟨rfl,.inr ?_⟩
     simp only at h
     match i,h with
     | 0,h=>simp at h;omega
     | 1,h=>simp at h;rw [h]
     | n+2,h=>simp at h
    ·split
     ·intro h;have:=one h;omega
     ·intro h
      simp only at h
      match i,h with
      | 0,h=>simp at h;omega
      | 1,h=>simp at h;omega
      | n+2,h=>simp at h
theorem yJ (w0:World) (S:List ax) (a b c:Int) (R:Rt) (h:R (.ret (.bool (decide (a<b)||decide (c<a)))) S):ao Tryz.prog w0 165 [.int .u8 a,.int .u8 b,.int .u8 c] S R:=by
 cases d:decide (a<b)<;>rw [d] at h
 all_goals
  refine eN Tryz.func165 rfl Tryz.ntmps165 fun hO=>?_
  repeat' first | refine st ?_ | (refine br ?_ ?_<;>intro hb) | fail
  refine fR Tryz.results165 ?_
  first | exact h | (simpa using h)
theorem xK (q:Ps × List Ev) (c:Nat):(gh q c).2.length≤q.2.length+1:=by
 unfold gh rZ
 repeat' split
 all_goals simp
theorem m_:∀ (l:List Nat) (q:Ps × List Ev),(l.foldl gh q).2.length≤q.2.length+l.length
 | [],_=>by simp
 | c::l,q=>by
  have:=m_ l (gh q c)
  have:=xK q c
  simp only [ee,aI];omega
theorem xp {l:List Nat}{i c:Nat} (q:Ps × List Ev) (h:l[i]? = some c):(l.take (i+1)).foldl gh q=gh ((l.take i).foldl gh q) c:=by
 rw [eP,h]
 simp
theorem yI (w0:World) (X:List ax) (p:Ps) (l:List Ev) (b:Nat) (hl:l.length≤900000) (hp:ep p) (hb:b<256) (R:Rt) (h:R (.ret (.tup [])) (aM X (gy p b).1 (l++(gy p b).2))):ao Tryz.prog w0 166 [.own X.length 0,.int .u8 b] (aM X p l) R:=by
 have hst:=fun S'=>Cu w0 S' p.utf b hb hp.utf hp.byt
 have k0:=eW w0 X p l 0
 have hq2:=jC p.utf b
 have hctl:=fun i c=>D7 (p:=p.utf) (b:=b) (i:=i) (c:=c)
 unfold gy at h
 generalize dj p.utf b=q at h hst hq2 hctl
 obtain⟨q1,q2⟩:=q
 unfold ls at hst
 simp only at h hst hq2 hctl
 simp only [aM,cJ,cL] at k0
 have H:=ae h
 have Hq:=ae hq2
 have Hc:=ae hctl
 have Hl:=ae hl
 clear h hp hb hq2 hctl hl
 refine eN Tryz.func166 rfl Tryz.ntmps166 fun hO=>?_
 have HO:=ae hO
 clear hO
 unfold aM cJ cL
 repeat' first | refine st ?_ | (refine ca ?_;first | apply hst | apply k0) | (refine br ?_ ?_<;>intro hb) | fail
 refine eJ (fun (i:Nat) env S'=>i≤q2.length∧env 1000000=.dfr []∧env 0=.own X.length 0∧env 25=.sval false (q2.map Co)∧env 26=.int .i64 q2.length∧env 27=.int .i64 (i:Int)∧S'=aM X ((q2.take i).foldl gh ({ cB 0 with utf:=q1 },[])).1 (l++((q2.take i).foldl gh ({ cB 0 with utf:=q1 },[])).2)) (fun i=>q2.length - i) 0 ?_ ?_
 ·exact⟨bx _,ss,ss,ss,ss,ss,by simp only [co,List.foldl_nil,aE];rfl⟩
 ·rintro i env S' ⟨hi,e0,f0,f25,f26,f27,rfl⟩ IH
  have HI:=ae IH
  clear IH hst k0
  by_cases hlt:i<q2.length
  ·obtain⟨c,hx⟩:∃ c,q2[i]? = some c:=⟨_,al hlt⟩
   have h1:decide ((i:Int)<(q2.length:Int))=true:=by simpa using hlt
   have hco:Co c=.int .i64 c:=rfl
   have hq:=Hq.out
   have hc21:=hq.1 c (ar hx)
   have hw:af.wrap ((i:Int)+1)=((i+1:Nat):Int):=by rw [au _ (by omega)];omega
   have hsu:=xp ({ cB 0 with utf:=q1 },[]) hx
   have hct:=Hc.out i c hx
   have hcl:=m_ (q2.take i) ({ cB 0 with utf:=q1 },[])
   have htk:(q2.take i).length≤i:=Ap _ _
   simp only [aU,di] at hcl
   generalize (q2.take i).foldl gh ({ cB 0 with utf:=q1 },[])=y at hsu hct hcl
   obtain⟨y1,y2⟩:=y
   simp only at hct hcl
   have hl2:(l++y2).length≤1000000:=by have:=Hl.out;rw [ah];omega
   have Hsu:=ae hsu
   by_cases hcc:c<32∨c=127
   ·have hy:y1=cB 0:=hct hcc
    subst hy
    have k1:=F0 w0 X (l++y2) c hl2 hcc
    simp only [aM,cJ,cL] at k1 ⊢
    have hw8:aW.wrap (c:Int)=(c:Int):=en _ (by omega)
    have hd:decide ((c:Int)<32)=true∨decide ((c:Int)<32)=false∧((c:Int)==127)=true:=by simp only [decide_eq_true_eq,decide_eq_false_iff_not,beq_iff_eq];omega
    have Hlt:=ae (dw hlt hcc)
    clear hlt hq hc21 hsu hct hcl hl2 hcc hi htk
    rcases hd with d1 | ⟨d1,d2⟩
    all_goals
     repeat' first | refine st ?_ | (refine ca ?_;apply k1) | (refine br ?_ ?_<;>intro hb) | fail
     refine HI.out (i+1) _ _ (by have:=Hlt.out.1;omega) ⟨by have:=Hlt.out.1;omega, ?_, ?_, ?_, ?_, ?_, ?_⟩
     ·(simp only [go_sem, *];try rfl)
     ·(simp only [go_sem, *];try rfl)
     ·(simp only [go_sem, *];try rfl)
     ·(simp only [go_sem, *];try rfl)
     ·(simp only [go_sem, *];try rfl)
     ·rw [Hsu.out]
      unfold gh
      rw [if_pos Hlt.out.2]
      simp only [aM,cJ,cL,aK]
   ·have d1:decide ((c:Int)<32)=false:=by simp;omega
    have d2:((c:Int)==127)=false:=by rw [beq_eq_false_iff_ne];omega
    obtain⟨m,hm⟩:∃ m:Int,(if (255:Int)<(c:Int) then 255 else (c:Int))=m:=⟨_,rfl⟩
    have hm2:0≤m∧m≤255∧((m<127∨159<m)↔(c<127∨159<c)):=by subst hm;split<;>omega
    have hw8:aW.wrap m=m:=en _ (by omega)
    have ho:=fun S'=>yJ w0 S' m 127 159
    have k1:=vY w0 X y1 (l++y2) (jL c) hl2
    rw [show (jL c).av=.agg [.int .i64 1,.int .i64 c,.int .u8 0,.int .u8 0,.sval false [],.str [],.str []] from rfl] at k1
    simp only [aM,cJ,cL] at k1 ⊢
    have Hlt:=ae (dw hlt hcc)
    by_cases hcd:c<127∨159<c
    ·have ho2:(decide (m<127)||decide (159<m))=true:=by simp only [ef,decide_eq_true_eq];exact hm2.2.2.2 hcd
     rw [ho2] at ho
     have Hcd:=ae hcd
     clear hlt hq hc21 hsu hct hcl hl2 hcc hi htk hm2 ho2 hcd
     repeat' first | refine st ?_ | (refine ca ?_;first | apply k1 | apply ho) | (refine br ?_ ?_<;>intro hb) | fail
     refine HI.out (i+1) _ _ (by have:=Hlt.out.1;omega) ⟨by have:=Hlt.out.1;omega, ?_, ?_, ?_, ?_, ?_, ?_⟩
     ·(simp only [go_sem, *];try rfl)
     ·(simp only [go_sem, *];try rfl)
     ·(simp only [go_sem, *];try rfl)
     ·(simp only [go_sem, *];try rfl)
     ·(simp only [go_sem, *];try rfl)
     ·rw [Hsu.out]
      unfold gh
      rw [if_neg Hlt.out.2,if_pos Hcd.out]
      simp only [aM,cJ,cL,aK]
    ·have ho2:(decide (m<127)||decide (159<m))=false:=by
      have:¬ (m<127∨159<m):=fun hh=>hcd (hm2.2.2.1 hh)
      rw [not_or] at this
      simp only [bj,decide_eq_false_iff_not]
      exact this
     rw [ho2] at ho
     have Hcd:=ae hcd
     clear hlt hq hc21 hsu hct hcl hl2 hcc hi htk hm2 ho2 hcd
     repeat' first | refine st ?_ | (refine ca ?_;apply ho) | (refine br ?_ ?_<;>intro hb) | fail
     refine HI.out (i+1) _ _ (by have:=Hlt.out.1;omega) ⟨by have:=Hlt.out.1;omega, ?_, ?_, ?_, ?_, ?_, ?_⟩
     ·(simp only [go_sem, *];try rfl)
     ·(simp only [go_sem, *];try rfl)
     ·(simp only [go_sem, *];try rfl)
     ·(simp only [go_sem, *];try rfl)
     ·(simp only [go_sem, *];try rfl)
     ·rw [Hsu.out]
      unfold gh
      rw [if_neg Hlt.out.2,if_neg Hcd.out]
      simp only [aM,cJ,cL]
  ·have h1:decide ((i:Int)<(q2.length:Int))=false:=by simpa using hlt
   have hie:i=q2.length:=by omega
   have htk:q2.take i=q2:=cA (by omega)
   rw [htk]
   clear hlt hi hie htk HI
   repeat' first | refine st ?_ | (refine br ?_ ?_<;>intro hb) | fail
   (apply bD HO.out H.out;(· simp);(· (simp only [go_sem, *];try rfl));(· (simp only [go_sem, *];try rfl));(· (simp only [go_sem, *,Tryz.results166];try rfl)))
theorem Da (w0:World) (X:List ax) (p:Ps) (l:List Ev) (b:Nat) (hl:l.length≤900000) (hp:ep p) (hb:b<256) (hn:p.st=0∧(p.utf≠[]∨128≤b)) (R:Rt) (h:R (.ret (.tup [])) (aM X (gy p b).1 (l++(gy p b).2))):ao Tryz.prog w0 82 [.own X.length 0,.int .u8 b] (aM X p l) R:=by
 have k0:=yI w0 X p l b hl hp hb
 simp only [aM,cJ,cL] at k0
 have z:((0:Nat):Int)=0:=rfl
 have c0:decide ((0:Int)<(p.utf.length:Int))=true∨decide ((0:Int)<(p.utf.length:Int))=false∧decide ((128:Int)≤(b:Int))=true:=by
  simp only [decide_eq_true_eq,decide_eq_false_iff_not]
  by_cases hu:p.utf=[]
  ·right
   have h3:p.utf.length=0:=by rw [hu];rfl
   have h4:=hn.2.resolve_left (fun hh=>hh hu)
   omega
  ·left
   have:p.utf.length≠0:=fun hh=>hu (mM.1 hh)
   omega
 have hst:=hn.1
 have H:=ae h
 clear h hl hp hb hn
 have e0:((p.st:Int)==0)=true:=by rw [hst];rfl
 have e6:((p.st:Int)==6)=false:=by rw [hst];rfl
 have e11:((p.st:Int)==11)=false:=by rw [hst];rfl
 have e13:((p.st:Int)==13)=false:=by rw [hst];rfl
 clear hst z
 rcases c0 with c0 | ⟨c0,c1⟩
 all_goals
  refine eN Tryz.func82 rfl Tryz.ntmps82 fun hO=>?_
  have HO:=ae hO
  clear hO
  unfold aM cJ cL
  repeat' first | refine st ?_ | (refine ca ?_;apply k0) | (refine br ?_ ?_<;>intro hb) | fail
  (apply bD HO.out H.out;(· simp);(· (simp only [go_sem, *];try rfl));(· (simp only [go_sem, *];try rfl));(· (simp only [go_sem, *,Tryz.results82];try rfl)))
theorem Db (w0:World) (X:List ax) (p:Ps) (l:List Ev) (b:Nat) (hl:l.length≤900000) (hb:b<256) (hn:cK p b) (ht:eH p.st=false) (he:iy p.st=false) (hh:128≤b) (R:Rt) (h:R (.ret (.tup [])) (aM X (gy (cB 0) b).1 (l++(gy (cB 0) b).2))):ao Tryz.prog w0 82 [.own X.length 0,.int .u8 b] (aM X p l) R:=by
 have k0:=eW w0 X p l 0
 have k1:=yI w0 X (cB 0) l b hl (ep.beg (by decide)) hb
 simp only [aM,cJ,cL] at k0 k1
 have c1:((p.st:Int)==0)=false:=by
  rcases fW hn with⟨_,_,c,_⟩ | c
  ·simp at c;omega
  ·exact c
 have c2:=il p.st
 obtain⟨q2,q3,q4⟩:=rT he
 rcases c2 with⟨c2,_⟩ | ⟨_,c5,c6,c7⟩
 ·rw [ht] at c2;cases c2
 have e24:((b:Int)==24)=false:=by rw [beq_eq_false_iff_ne];omega
 have e26:((b:Int)==26)=false:=by rw [beq_eq_false_iff_ne];omega
 have e27:((b:Int)==27)=false:=by rw [beq_eq_false_iff_ne];omega
 have d128:decide ((128:Int)≤(b:Int))=true:=by simp;omega
 have H:=ae h
 clear h hl hb hn hh
 refine eN Tryz.func82 rfl Tryz.ntmps82 fun hO=>?_
 have HO:=ae hO
 clear hO
 unfold aM cJ cL
 repeat' first | refine st ?_ | (refine ca ?_;first | apply k0 | apply k1) | (refine br ?_ ?_<;>intro hb) | fail
 (apply bD HO.out H.out;(· simp);(· (simp only [go_sem, *];try rfl));(· (simp only [go_sem, *];try rfl));(· (simp only [go_sem, *,Tryz.results82];try rfl)))
theorem yH (w0:World) (X:List ax) (p:Ps) (l:List Ev) (b:Nat) (hl:l.length≤900000) (hp:ep p) (hb:b<256) (he:iy p.st=true→b=24∨b=26∨b=27) (R:Rt) (h:R (.ret (.tup [])) (aM X (take1 p b).1 (l++(take1 p b).2))):ao Tryz.prog w0 82 [.own X.length 0,.int .u8 b] (aM X p l) R:=by
 by_cases hn:p.st=0∧(p.utf≠[]∨128≤b)
 ·unfold take1 at h
  rw [if_pos hn] at h
  exact Da w0 X p l b hl hp hb hn R h
 by_cases ht:eH p.st=true∨b<128∨b=24∨b=26∨b=27
 ·exact yG w0 X p l b (by omega) hp hb hn he ht R h
 ·rw [not_or,not_or] at ht
  obtain⟨h1,h2,h3⟩:=ht
  have h1:eH p.st=false:=by simpa using h1
  have he':iy p.st=false:=by
   cases hx:iy p.st with
   | false=>rfl
   | true=>have:=he hx;omega
  unfold take1 at h
  rw [if_neg hn,if_neg (by omega),if_neg (by omega),h1,if_neg (by decide),if_pos (by omega)] at h
  exact Db w0 X p l b hl hb hn h1 he' (by omega) R h
theorem FZ (w0:World) (X:List ax) (p:Ps) (l:List Ev) (b:Nat) (hl:l.length≤900000) (hp:ep p) (hb:b<256) (R:Rt) (h:R (.ret (.tup [])) (aM X (tM p b).1 (l++(tM p b).2))):ao Tryz.prog w0 168 [.own X.length 0,.int .u8 b] (aM X p l) R:=by
 unfold tM at h
 by_cases c:b≠92
 ·rw [if_pos c] at h
  have k0:=eW w0 X p l 1
  have k1:=yH w0 X (cB 1) l b hl (ep.beg (by decide)) hb (fun hh=>by cases hh)
  simp only [aM,cJ,cL] at k0 k1
  have e92:((b:Int) != 92)=true:=by rw [bne_iff_ne];omega
  have H:=ae h
  clear h hl hp hb c
  refine eN Tryz.func168 rfl Tryz.ntmps168 fun hO=>?_
  have HO:=ae hO
  clear hO
  unfold aM cJ cL
  repeat' first | refine st ?_ | (refine ca ?_;first | apply k0 | apply k1) | (refine br ?_ ?_<;>intro hb) | fail
  (apply lP HO.out H.out;(· simp);(· (simp only [go_sem, *];try rfl));(· (simp only [go_sem, *];try rfl));(· (simp only [go_sem, *,Tryz.results168];try rfl)))
 rw [if_neg c] at h
 have e92:((b:Int) != 92)=false:=by
  have:b=92:=by omega
  rw [this];rfl
 by_cases c7:p.st=7
 ·rw [if_pos c7] at h
  have e7:((p.st:Int)==7)=true:=by rw [c7];rfl
  have k0:=p_ w0 X p l (qv p) (by omega)
  rw [show (qv p).av=.agg [.int .i64 5,.int .i64 0,.int .u8 0,.int .u8 0,.sval false [],.str [],.str p.text] from rfl] at k0
  simp only [aM,cJ,cL] at k0
  have H:=ae h
  clear h hl hp hb c c7
  refine eN Tryz.func168 rfl Tryz.ntmps168 fun hO=>?_
  have HO:=ae hO
  clear hO
  unfold aM cJ cL
  repeat' ((fail_if_success (apply bX 16 rfl));first | refine st ?_ | (refine br ?_ ?_<;>intro hb) | fail)
  refine ou 4 [0,1,4] rfl HO.out (by simp) ss ss ss ?_
  repeat' first | refine st ?_ | (refine ca ?_;apply k0) | (refine br ?_ ?_<;>intro hb) | fail
  (apply bD HO.out H.out;(· simp);(· (simp only [go_sem, *];try rfl));(· (simp only [go_sem, *];try rfl));(· (simp only [go_sem, *,Tryz.results168];try rfl)))
 rw [if_neg c7] at h
 have e7:((p.st:Int)==7)=false:=by rw [beq_eq_false_iff_ne];omega
 by_cases c12:p.st=12
 ·rw [if_pos c12] at h
  have e12:((p.st:Int)==12)=true:=by rw [c12];rfl
  have k0:=p_ w0 X p l (zy p) (by omega)
  rw [show (zy p).av=.agg [.int .i64 6,.int .i64 0,.int .u8 p.pv,.int .u8 p.fn,.sval false (p.pars.map dE),.str p.inter,.str p.text] from rfl] at k0
  simp only [aM,cJ,cL] at k0
  have H:=ae h
  clear h hl hp hb c c7 c12
  refine eN Tryz.func168 rfl Tryz.ntmps168 fun hO=>?_
  have HO:=ae hO
  clear hO
  unfold aM cJ cL
  repeat' ((fail_if_success (apply bX 16 rfl));first | refine st ?_ | (refine br ?_ ?_<;>intro hb) | fail)
  refine ou 4 [0,1,4] rfl HO.out (by simp) ss ss ss ?_
  repeat' first | refine st ?_ | (refine ca ?_;apply k0) | (refine br ?_ ?_<;>intro hb) | fail
  (apply bD HO.out H.out;(· simp);(· (simp only [go_sem, *];try rfl));(· (simp only [go_sem, *];try rfl));(· (simp only [go_sem, *,Tryz.results168];try rfl)))
 rw [if_neg c12] at h
 simp only [aE] at h
 have e12:((p.st:Int)==12)=false:=by rw [beq_eq_false_iff_ne];omega
 have k0:=eW w0 X p l 0
 simp only [aM,cJ,cL] at k0
 have H:=ae h
 clear h hl hp hb c c7 c12
 refine eN Tryz.func168 rfl Tryz.ntmps168 fun hO=>?_
 have HO:=ae hO
 clear hO
 unfold aM cJ cL
 repeat' ((fail_if_success (apply bX 16 rfl));first | refine st ?_ | (refine br ?_ ?_<;>intro hb) | fail)
 refine ou 4 [0,1,4] rfl HO.out (by simp) ss ss ss ?_
 repeat' first | refine st ?_ | (refine ca ?_;apply k0) | (refine br ?_ ?_<;>intro hb) | fail
 (apply bD HO.out H.out;(· simp);(· (simp only [go_sem, *];try rfl));(· (simp only [go_sem, *];try rfl));(· (simp only [go_sem, *,Tryz.results168];try rfl)))
theorem Dc (w0:World) (X:List ax) (p:Ps) (l:List Ev) (b:Nat) (hl:l.length≤900000) (hp:ep p) (hb:b<256) (he:iy p.st=true) (hc:¬ (b=24∨b=26∨b=27)) (R:Rt) (h:R (.ret (.tup [])) (aM X (tM p b).1 (l++(tM p b).2))):ao Tryz.prog w0 82 [.own X.length 0,.int .u8 b] (aM X p l) R:=by
 have k0:=FZ w0 X p l b hl hp hb
 simp only [aM,cJ,cL] at k0
 have e24:((b:Int)==24)=false:=by rw [beq_eq_false_iff_ne];omega
 have e26:((b:Int)==26)=false:=by rw [beq_eq_false_iff_ne];omega
 have e27:((b:Int)==27)=false:=by rw [beq_eq_false_iff_ne];omega
 unfold iy at he
 simp only [ef,beq_iff_eq] at he
 have e0:((p.st:Int)==0)=false:=by rw [beq_eq_false_iff_ne];omega
 have e6:((p.st:Int)==6)=false:=by rw [beq_eq_false_iff_ne];omega
 have e11:((p.st:Int)==11)=false:=by rw [beq_eq_false_iff_ne];omega
 have e13:((p.st:Int)==13)=false:=by rw [beq_eq_false_iff_ne];omega
 have c0:((p.st:Int)==7)=true∨(((p.st:Int)==7)=false∧((p.st:Int)==12)=true)∨(((p.st:Int)==7)=false∧((p.st:Int)==12)=false∧((p.st:Int)==14)=true):=by simp only [beq_iff_eq,beq_eq_false_iff_ne];omega
 have H:=ae h
 clear h hl hp hb he hc
 rcases c0 with c0 | ⟨c0,c1⟩ | ⟨c0,c1,c2⟩
 all_goals
  refine eN Tryz.func82 rfl Tryz.ntmps82 fun hO=>?_
  have HO:=ae hO
  clear hO
  unfold aM cJ cL
  repeat' first | refine st ?_ | (refine ca ?_;apply k0) | (refine br ?_ ?_<;>intro hb) | fail
  (apply bD HO.out H.out;(· simp);(· (simp only [go_sem, *];try rfl));(· (simp only [go_sem, *];try rfl));(· (simp only [go_sem, *,Tryz.results82];try rfl)))
theorem Ey (w0:World) (X:List ax) (p:Ps) (l:List Ev) (b:Nat) (hl:l.length≤900000) (hp:ep p) (hb:b<256) (R:Rt) (h:R (.ret (.tup [])) (aM X (fk p b).1 (l++(fk p b).2))):ao Tryz.prog w0 82 [.own X.length 0,.int .u8 b] (aM X p l) R:=by
 unfold fk at h
 split at h
 ·next hc=>exact Dc w0 X p l b hl hp hb hc.1 hc.2 R h
 ·next hc =>
  refine yH w0 X p l b hl hp hb (fun he=>?_) R h
  by_cases h2:b=24∨b=26∨b=27
  ·exact h2
  ·exact absurd ⟨he,h2⟩ hc
theorem o7:∀ (s:List Nat) (q:Ps × List Ev),s.foldl (fun q b=>((fk q.1 b).1,q.2++(fk q.1 b).2)) q=((dk q.1 s).1,q.2++(dk q.1 s).2)
 | [],q=>by simp [dk]
 | b::s,q=>by
  unfold dk
  rw [ee,ee,o7 s,o7 s]
  simp [dk]
theorem o5 (p:Ps):dk p []=(p,[]):=rfl
theorem jm (p:Ps) (b:Nat) (s:List Nat):dk p (b::s)=((dk (fk p b).1 s).1,(fk p b).2++(dk (fk p b).1 s).2):=by
 have:=o7 s ((fk p b).1,[]++(fk p b).2)
 simp only [cU] at this
 exact this
theorem tJ:∀ (s t:List Nat) (p:Ps),dk p (s++t)=((dk (dk p s).1 t).1,(dk p s).2++(dk (dk p s).1 t).2)
 | [],t,p=>by simp [o5]
 | b::s,t,p=>by
  rw [cz,jm,tJ s t,jm]
  simp
theorem wl:∀ (s:List Nat) (p:Ps),ep p→(∀ b∈s,b<256)→ep (dk p s).1
 | [],p,h,_=>h
 | b::s,p,h,hb=>by
  rw [jm]
  exact wl s _ (h.take (hb b (by simp))) fun x hx=>hb x (fa _ hx)
theorem yx (p:Ps) (b:Nat):(fk p b).2.length≤2:=by
 have hd:∀ p e,(jq p e).2.length≤2:=fun p e=>dB (qy p e) (by decide)
 have hp:∀ q b,(gy q b).2.length≤2:=fun q b=>by
  unfold gy
  have h1:=m_ (dj q.utf b).2 ({ cB 0 with utf:=(dj q.utf b).1 },[])
  have h2:=(jC q.utf b).2
  exact dB h1 (by simpa using h2)
 have hla:∀ p b,(kD p b).2.length≤2:=fun p b=>dB (zj p b) (by decide)
 have h1:∀ p b,(take1 p b).2.length≤2:=fun p b=>by
  unfold take1
  split
  ·exact hp _ _
  ·split
   ·simp
   ·split
    ·split<;>simp
    ·split
     ·unfold hY
      repeat' split
      all_goals first | exact hd _ _ | simp
     ·split
      ·exact hp _ _
      ·split
       ·split<;>simp
       ·split
        ·simp
        ·unfold dJ
         split
         ·simp
         ·unfold xB
          repeat' split
          all_goals first | exact hd _ _ | simp
         ·unfold mT
          split
          ·simp
          ·exact hd _ _
         ·unfold kJ
          repeat' split
          all_goals first | exact hla _ _ | simp
         ·unfold kJ
          repeat' split
          all_goals first | exact hla _ _ | simp
         ·unfold iU
          repeat' split
          all_goals first | exact hla _ _ | simp
         ·unfold iU
          repeat' split
          all_goals first | exact hla _ _ | simp
         ·unfold iW
          repeat' split
          all_goals first | exact hla _ _ | simp
         ·unfold iW
          repeat' split
          all_goals first | exact hla _ _ | simp
         ·simp
 unfold fk
 split
 ·unfold tM
  repeat' split
  ·exact h1 _ _
  ·exact hd _ _
  ·exact hd _ _
  ·simp
 ·exact h1 _ _
theorem o6:∀ (s:List Nat) (p:Ps),(dk p s).2.length≤2 * s.length
 | [],p=>by simp [o5]
 | b::s,p=>by
  rw [jm]
  have h1:=o6 s (fk p b).1
  have h2:=yx p b
  simp only [ah,aI];omega
theorem xx {s:List Nat}{i b:Nat} (p:Ps) (h:s[i]? = some b):dk p (s.take (i+1))=((fk (dk p (s.take i)).1 b).1,(dk p (s.take i)).2++(fk (dk p (s.take i)).1 b).2):=by
 rw [eP,h]
 show dk p (s.take i++[b])=_
 rw [tJ,jm,o5]
 simp
theorem Ab (e:Ev):(Ev.av e).plain=true:=by simp only [Ev.av,go_sem,dE.plainL]
@[go_sem] theorem Ev.plainL (l:List Ev):plainL (l.map Ev.av)=true:=ej Ab l
theorem C_ (w0:World) (S:List ax) (B C:ax) (p:Ps) (l:List Ev) (b:Nat) (hl:l.length≤900000) (hp:ep p) (hb:b<256) (R:Rt) (h:R (.ret (.tup [])) (S++[B,C,cJ (fk p b).1 (S.length+3) (l++(fk p b).2).length,cL (l++(fk p b).2)])) :
  ao Tryz.prog w0 82 [.own (S.length+2) 0,.int .u8 b] (S++[B,C,cJ p (S.length+3) l.length,cL l]) R:=by
 have k:=Ey w0 (S++[B,C]) p l b hl hp hb R
 have e:(S++[B,C]).length=S.length+2:=by simp
 unfold aM at k
 rw [e] at k
 simp only [aK,cz,cU] at k
 exact k h
theorem EB (w0:World) (S:List ax) (p:Ps) (s:List Nat) (hp:ep p) (hs:s.length≤4096) (hb:∀ b∈s,b<256) (hck:∀ (S':List ax) (R:Rt),R (.ret (.int .i64 0)) S'→ao Tryz.prog w0 81 [p.av] S' R) (R:Rt)
  (h:R (.ret (.tup [(dk p s).1.av,.sval false ((dk p s).2.map Ev.av),.int .i64 0])) S):ao Tryz.prog w0 37 [p.av,.sval false (s.map By)] S R:=by
 have hgt:decide ((4096:Int)<(s.length:Int))=false:=by simp;omega
 have Hp:=ae hp
 have Hb:=ae hb
 have H:=ae h
 clear hp hb h
 unfold Ps.av at hck ⊢
 refine eN Tryz.func37 rfl Tryz.ntmps37 fun hO=>?_
 repeat' first | refine st ?_ | (refine ca ?_;apply hck) | (refine br ?_ ?_<;>intro hb) | fail
 refine l5 (a:=S.length+2) (j:=8) 40 7 ss ss (by decide) ?_
 simp only [go_sem, *]
 refine eJ (fun (i:Nat) env S'=>i≤s.length∧env 1000000=.dfr []∧env 4=.own (S.length+1) 0∧env 8=.own (S.length+2) 0∧env 24=.sval false (s.map By)∧env 25=.int .i64 s.length∧env 26=.int .i64 (i:Int) ∧
  S'=S++[ax.cells [.int .i64 p.st,.sval false (p.utf.map By),.int .u8 p.pv,.int .u8 p.fn,.sval false (p.pars.map dE),.str p.inter,.str p.text,.bool p.bad],ax.cells [.int .i64 0,.snil,.int .u8 0,.int .u8 0,.snil,.str [],.str [],.bool false],cJ (dk p (s.take i)).1 (S.length+3) (dk p (s.take i)).2.length,cL (dk p (s.take i)).2]) (fun i=>s.length - i) 0 ?_ ?_
 ·exact⟨bx _,ss,ss,ss,ss,ss,ss,rfl⟩
 ·rintro i env S' ⟨hi,e0,f4,f8,f24,f25,f26,rfl⟩ IH
  have HI:=ae IH
  clear IH hck
  by_cases hlt:i<s.length
  ·obtain⟨b,hx⟩:∃ b,s[i]? = some b:=⟨_,al hlt⟩
   have h1:decide ((i:Int)<(s.length:Int))=true:=by simpa using hlt
   have hw:af.wrap ((i:Int)+1)=((i+1:Nat):Int):=by rw [au _ (by omega)];omega
   have hco:By b=.int .u8 b:=rfl
   have hpi:ep (dk p (s.take i)).1:=wl _ _ Hp.out fun x hx=>Hb.out x (mL hx)
   have hsu:=xx p hx
   have hle:=o6 (s.take i) p
   have htk:(s.take i).length≤i:=Ap _ _
   generalize dk p (s.take i)=y at hsu hpi hle
   obtain⟨y1,y2⟩:=y
   simp only at hpi hle hsu
   have k1:=C_ w0 S (ax.cells [.int .i64 p.st,.sval false (p.utf.map By),.int .u8 p.pv,.int .u8 p.fn,.sval false (p.pars.map dE),.str p.inter,.str p.text,.bool p.bad]) (ax.cells [.int .i64 0,.snil,.int .u8 0,.int .u8 0,.snil,.str [],.str [],.bool false]) y1 y2 b (by omega) hpi (Hb.out b (ar hx))
   have Hsu:=ae hsu
   have Hlt:=ae hlt
   clear hsu hlt hpi hle htk hi
   simp only [cJ,cL] at k1 ⊢
   repeat' first | refine st ?_ | (refine ca ?_;apply k1) | (refine br ?_ ?_<;>intro hb) | fail
   refine HI.out (i+1) _ _ (by have:=Hlt.out;omega) ⟨Hlt.out, ?_, ?_, ?_, ?_, ?_, ?_, ?_⟩
   ·(simp only [go_sem, *];try rfl)
   ·(simp only [go_sem, *];try rfl)
   ·(simp only [go_sem, *];try rfl)
   ·(simp only [go_sem, *];try rfl)
   ·(simp only [go_sem, *];try rfl)
   ·(simp only [go_sem, *];try rfl)
   ·rw [Hsu.out]
    rfl
  ·have h1:decide ((i:Int)<(s.length:Int))=false:=by simpa using hlt
   have hie:i=s.length:=by omega
   have htk:s.take i=s:=cA (by omega)
   rw [htk]
   have hh:=H.out
   generalize dk p s=y at hh
   obtain⟨y1,y2⟩:=y
   unfold Ps.av at hh
   simp only at hh
   have H2:=ae hh
   clear hlt hi hie htk HI hh H
   simp only [cJ,cL]
   repeat' first | refine st ?_ | (refine br ?_ ?_<;>intro hb) | refine sd ?_ | refine sx ?_ | apply aB | (apply aL;(· decide +kernel)) | refine bd ?_ ?_ | fail
   all_goals refine fR Tryz.results37 ?_
   all_goals exact H2.out
theorem yM (w0:World) (S:List ax) (R:Rt) (h:R (.ret (.agg [.int .i64 1,.int .i64 0,.int .i64 130,.int .i64 0,.int .i64 136,.int .i64 146,.int .i64 192,.int .i64 192,.int .i64 0,.int .i64 136,.int .i64 146,.int .i64 244,.int .i64 244,.int .i64 0,.int .i64 0])) S):ao Tryz.prog w0 161 [] S R:=by
 have H:=ae h
 clear h
 refine eN Tryz.func161 rfl Tryz.ntmps161 fun hO=>?_
 repeat' first | refine st ?_ | (refine br ?_ ?_<;>intro hb) | fail
 refine fR Tryz.results161 ?_
 exact H.out
theorem yL (w0:World) (S:List ax) (a:Nat) (what:Int) (R:Rt) (hw:(af.wrap ((ai 64 1 &&& ai 64 what).toNat:Int) != 0)=false) (ha:S[a]? = some (.cells [.int .i64 1] none)) (h:R (.ret (.bool false)) S):ao Tryz.prog w0 162 [.int .i64 what,.own a 0] S R:=by
 refine eN Tryz.func162 rfl Tryz.ntmps162 fun hO=>?_
 repeat' first | refine st ?_ | (refine br ?_ ?_<;>intro hb) | fail
 refine fR Tryz.results162 ?_
 exact(congrArg (fun z=>R (.ret (.bool z)) S) hw).mpr h
theorem A0 (w0:World) (S:List ax) (R:Rt) (h:R (.ret (.int .i64 0)) S):ao Tryz.prog w0 81 [(cB 0).av] S R:=by
 have hg:=yM w0
 have hu:=fun S'=>uC w0 S' [] (by decide)
 have hpc:=fun S'=>rp w0 S' [] ⟨by decide,by simp⟩
 have e1:fm []=true:=rfl
 have e2:w_ []=0:=by decide
 rw [e1] at hu
 rw [e2] at hpc
 simp only [aC] at hu hpc
 have H:=ae h
 clear h e1 e2
 rw [show (cB 0).av=.agg [.int .i64 0,.sval false [],.int .u8 0,.int .u8 0,.sval false [],.str [],.str [],.bool false] from rfl]
 refine eN Tryz.func81 rfl Tryz.ntmps81 fun hO=>?_
 refine share ?K1 ?hK1 fun key1=>?main1
 case main1 =>
  repeat' ((fail_if_success (apply bW 3));first | refine st ?_ | (refine br ?_ ?_<;>intro hb) | fail)
  repeat' ((fail_if_success (apply bW 9));first | refine st ?_ | (refine ca ?_;apply hg) | (refine br ?_ ?_<;>intro hb) | refine sd ?_ | apply aB | (apply aL;(· decide +kernel)) | refine bd ?_ ?_ | (refine cd ?_;apply hg) | fail)
  all_goals
   refine jV [1000000,1,4] ?_
   simp only [fH,go_sem]
   exact key1
 case hK1 =>
  rintro env ⟨e0,e1,e4⟩
  have h8:=fun R=>yL w0 (S++[ax.cells [.int .i64 0,.sval false [],.int .u8 0,.int .u8 0,.sval false [],.str [],.str [],.bool false],ax.cells [.int .i64 1]]) (S.length+1) 8 R (by decide) (by rw [aw (by omega)];simp)
  have h32:=fun R=>yL w0 (S++[ax.cells [.int .i64 0,.sval false [],.int .u8 0,.int .u8 0,.sval false [],.str [],.str [],.bool false],ax.cells [.int .i64 1]]) (S.length+1) 32 R (by decide) (by rw [aw (by omega)];simp)
  have h2:=fun R=>yL w0 (S++[ax.cells [.int .i64 0,.sval false [],.int .u8 0,.int .u8 0,.sval false [],.str [],.str [],.bool false],ax.cells [.int .i64 1]]) (S.length+1) 2 R (by decide) (by rw [aw (by omega)];simp)
  simp only [List.append_eq,cz,cU]
  refine eY (n:=120) mixed rfl ?_;refine tS 120 0 rfl (by decide +kernel) (by decide +kernel) (by decide +kernel) ?_
  repeat' first | refine st ?_ | (refine ca ?_;first | apply h8 | apply h32 | apply h2 | apply hu | apply hpc) | (refine br ?_ ?_<;>intro hb) | refine sq ?_ | (apply oK;(iterate 2 (· simp only [go_sem, *];try rfl));(· rfl);(· simp only [go_sem, *];try rfl);(· rfl);(· rfl);(· simp only [go_sem, *];try rfl);(· intro R hR;(first | apply h8 | apply h32 | apply h2 | apply hu | apply hpc);exact hR)) | (refine bq ?_ ?_;all_goals (intro hb;try simp only [az,aG] at hb)) | fail
  clear h8 h32 h2 hu hpc
  apply l8
  ·(simp only [go_sem, *];try rfl)
  ·rfl
  ·(simp only [go_sem, *];try rfl)
  ·(simp only [go_sem, *];try rfl)
  ·(simp only [go_sem, *];try rfl)
  ·(simp only [go_sem, *];try rfl)
  ·rfl
  simp only [putA,aC]
  repeat' first | refine st ?_ | (refine br ?_ ?_<;>intro hb) | apply cR | apply fO | fail
  apply l8
  ·(simp only [go_sem, *];try rfl)
  ·rfl
  ·(simp only [go_sem, *];try rfl)
  ·(simp only [go_sem, *];try rfl)
  ·(simp only [go_sem, *];try rfl)
  ·(simp only [go_sem, *];try rfl)
  ·rfl
  simp only [putA,aC]
  repeat' first | refine st ?_ | (refine br ?_ ?_<;>intro hb) | apply cR | apply fO | fail
  refine fR Tryz.results81 ?_
  exact H.out
theorem EM (w0:World) (S:List ax) (R:Rt) (h:R (.ret (.bool true)) S):ao Tryz.prog w0 172 [.sval false [],.sval false [],.fn (.func 173) [] []] S R:=by
 refine eN Tryz.func172 rfl Tryz.ntmps172 fun hO=>?_
 repeat' first | refine st ?_ | (refine br ?_ ?_<;>intro hb) | apply cR | apply fO | fail
 refine fR Tryz.results172 ?_
 exact h
theorem Dl (w0:World) (S:List ax) (R:Rt) (h:R (.ret (.bool true)) S):ao Tryz.prog w0 84 [.sval false [],.sval false []] S R:=by
 have hf:=EM w0
 refine eN Tryz.func84 rfl Tryz.ntmps84 fun hO=>?_
 repeat' first | refine st ?_ | (refine ca ?_;apply hf) | (refine br ?_ ?_<;>intro hb) | fail
 refine fR Tryz.results84 ?_
 exact h
theorem B5 (w0:World) (S:List ax) (R:Rt) (h:R (.ret (.bool true)) S):ao Tryz.prog w0 83 [.sval false [],.sval false []] S R:=by
 refine eN Tryz.func83 rfl Tryz.ntmps83 fun hO=>?_
 repeat' first | refine st ?_ | (refine br ?_ ?_<;>intro hb) | fail
 refine fR Tryz.results83 ?_
 exact h
theorem De (w0:World) (S:List ax) (R:Rt) (h:R (.ret (.bool true)) S):ao Tryz.prog w0 38 [(cB 0).av,(cB 0).av] S R:=by
 have hp:=Dl w0
 have hb:=B5 w0
 rw [show (cB 0).av=.agg [.int .i64 0,.sval false [],.int .u8 0,.int .u8 0,.sval false [],.str [],.str [],.bool false] from rfl]
 refine eN Tryz.func38 rfl Tryz.ntmps38 fun hO=>?_
 repeat' first | refine st ?_ | (refine ca ?_;first | apply hp | apply hb) | (refine br ?_ ?_<;>intro hb) | fail
 refine fR Tryz.results38 ?_
 exact h
theorem v_ (w0:World) (S:List ax) (L:List Ac) (hl:L.length≤1000000) (R:Rt) (h:R (.ret (.bool true)) S):ao Tryz.prog w0 21 [.sval false (L.map Ac.av),.sval false (L.map Ac.av)] S R:=by
 have hb0:∀ l:List UInt8,(l==l)=true:=by simp
 have hb1:∀ i:Int,(i==i)=true:=by simp
 have hne:((L.length:Int) != (L.length:Int))=false:=by simp
 have H:=ae h
 have Hl:=ae hl
 clear h hl
 refine eN Tryz.func21 rfl Tryz.ntmps21 fun hO=>?_
 repeat' first | refine st ?_ | (refine br ?_ ?_<;>intro hb) | fail
 refine eJ (fun (i:Nat) env S'=>i≤L.length∧env 1000000=.dfr []∧env 0=.sval false (L.map Ac.av)∧env 1=.sval false (L.map Ac.av)∧env 5=.int .i64 (i:Int)∧S'=S) (fun i=>L.length - i) 0 ?_ ?_
 ·exact⟨bx _,ss,ss,ss,ss,rfl⟩
 ·rintro i env S' ⟨hi,e0,f0,f1,f5,rfl⟩ IH
  have HI:=ae IH
  clear IH
  by_cases hlt:i<L.length
  ·obtain⟨a,hx⟩:∃ a,L[i]? = some a:=⟨_,al hlt⟩
   have h1:decide ((i:Int)<(L.length:Int))=true:=by simpa using hlt
   have hw:af.wrap ((i:Int)+1)=((i+1:Nat):Int):=by have:=Hl.out;rw [au _ (by omega)];omega
   obtain⟨k1,k2,k3,k4,k5,k6⟩:=a
   have hav:Ac.av ⟨k1,k2,k3,k4,k5,k6⟩=.agg [.int .i64 k1,.int .i64 k2,.int .i64 k3,.int .i64 k4,.int .i64 k5,.str k6]:=rfl
   have Hlt:=ae hlt
   clear hlt hi
   repeat' first | refine st ?_ | (refine br ?_ ?_<;>intro hb) | refine sd ?_ | refine sx ?_ | apply aB | (apply aL;(· decide +kernel)) | refine bd ?_ ?_ | fail
   all_goals
    refine HI.out (i+1) _ _ (by have:=Hlt.out;omega) ⟨Hlt.out, ?_, ?_, ?_, ?_,rfl⟩
    all_goals (simp only [go_sem, *];try rfl)
  ·have h1:decide ((i:Int)<(L.length:Int))=false:=by simpa using hlt
   clear hlt hi HI
   repeat' first | refine st ?_ | (refine br ?_ ?_<;>intro hb) | fail
   refine fR Tryz.results21 ?_
   exact H.out
theorem IY (w0:World) (S:List ax) (k n m:Int) (R:Rt) (h:R (.ret (.agg [.int .i64 k,.int .i64 n,.int .i64 m,.int .i64 0,.int .i64 0,.str []])) S):ao Tryz.prog w0 20 [.int .i64 k,.int .i64 n,.int .i64 m] S R:=by
 refine eN Tryz.func20 rfl Tryz.ntmps20 fun hO=>?_
 repeat' first | refine st ?_ | (refine br ?_ ?_<;>intro hb) | fail
 refine fR Tryz.results20 ?_
 exact h
theorem xq {α β:Type}{f:α→List β}{l:List α}{i:Nat}{x:α} (h:l[i]? = some x):(l.take (i+1)).flatMap f=(l.take i).flatMap f++f x:=by
 rw [eP,h];simp
theorem BN {α β:Type} (f:α→List β) (l:List α) (i:Nat):((l.take i).flatMap f).length≤(l.flatMap f).length:=by
 have:l.flatMap f=(l.take i).flatMap f++(l.drop i).flatMap f:=by rw [← List.flatMap_append,List.take_append_drop]
 rw [this,ah];omega
def DX (e:Ev):Bool:=li e&&(decide (e.text.length≤8192)&&(match nK ⟨e.priv,e.inter,e.fin⟩ with | some .pens=>false | _=>true))
theorem Kd (w0:World) (hM:jQ w0) (hW:jO w0) (hQ:ld w0) (hQ2:jP w0) (S:List ax) (s:List UInt8) (hs:s.length≤4096) (evs:List Ev) (hf:dk (cB 0) (s.map aR)=(cB 0,evs)) (he:evs.all DX=true) (L:List Ac) (hL:evs.flatMap xV=L) (hLl:L.length≤100000)
  (R:Rt) (h:R (.ret (.bool true)) S):ao Tryz.prog w0 19 [.str s,.sval false (L.map Ac.av)] S R:=by
 have hel:evs.length≤10000:=by
  have:=o6 (s.map aR) (cB 0)
  rw [hf,aY] at this
  simp only at this;omega
 have hfd:=fun S'=>EB w0 S' (cB 0) (s.map aR) (ep.beg (by decide)) (by rw [aY];exact hs) (by intro b hb;obtain⟨x,_,rfl⟩:=aH.1 hb;exact x.toNat_lt) (A0 w0)
 rw [hf,Ag] at hfd
 have hbv:s.map gG=s.map (By∘aR):=rfl
 rw [← hbv,show (cB 0).av=.agg [.int .i64 0,.sval false [],.int .u8 0,.int .u8 0,.sval false [],.str [],.str [],.bool false] from rfl] at hfd
 simp only at hfd
 have hof:=fun S' (e:Ev) (h:e∈evs)=>by
  have h1:=aq.1 he e h
  unfold DX at h1
  simp only [aj,decide_eq_true_eq] at h1
  have hsh:pC e.pars:=by
   have h2:=h1.1
   unfold li eo at h2
   simp only [aj,decide_eq_true_eq,az,List.any_eq_false] at h2
   refine⟨by omega,fun x hx=>?_⟩
   have:=h2.2.2.2 x hx
   unfold jd at this
   simp only [ef,not_or,decide_eq_true_eq] at this
   omega
  have:=Gv w0 hM hW hQ hQ2 S' e hsh h1.2.1 (fun _ _ hp=>by rw [hp] at h1;cases h1.2.2)
  rw [h1.1] at this
  simp only [if_true] at this
  exact this
 have hsm:=De w0
 rw [show (cB 0).av=.agg [.int .i64 0,.sval false [],.int .u8 0,.int .u8 0,.sval false [],.str [],.str [],.bool false] from rfl] at hsm
 have hr9:=fun S'=>v_ w0 S' L (by omega)
 have H:=ae h
 have HOf:=ae hof
 have HSm:=ae hsm
 have HR9:=ae hr9
 have HLL:=ae (dw hL (dw hLl hel))
 clear h hof hsm hr9 hf hbv hL hLl he hel
 refine eN Tryz.func19 rfl Tryz.ntmps19 fun hO=>?_
 repeat' first | refine st ?_ | (refine br ?_ ?_<;>intro hb) | fail
 apply l8
 ·(simp only [go_sem, *];try rfl)
 ·rfl
 ·(simp only [go_sem, *];try rfl)
 ·(simp only [go_sem, *];try rfl)
 ·(simp only [go_sem, *];try rfl)
 ·(simp only [go_sem, *];try rfl)
 ·rfl
 simp only [putA]
 have hpl:plainL (s.map gG)=true:=ej (fun _=>rfl) s
 repeat' first | refine st ?_ | (refine ca ?_;apply hfd) | (refine br ?_ ?_<;>intro hb) | fail
 refine uy (t:=8) (e:=25) (sz:=6) ss (by decide) ?_
 clear hfd hpl
 refine eJ (fun (i:Nat) env S'=>i≤evs.length∧env 1000000=.dfr []∧env 1=.sval false (L.map Ac.av)∧env 5=.own S.length 0∧env 6=.sval false (evs.map Ev.av)∧env 7=.int .i64 0∧env 8=.sown (S.length+1) i ((evs.take i).flatMap xV).length∧env 9=.int .i64 (i:Int) ∧
  S'=S++[.cells [.int .i64 0,.sval false [],.int .u8 0,.int .u8 0,.sval false [],.str [],.str [],.bool false] none,.arr 25 6 0 i (((evs.take i).flatMap xV).map Ac.av)]) (fun i=>evs.length - i) 0 ?_ ?_
 ·exact⟨bx _,ss,ss,ss,ss,ss,by simp only [co,List.flatMap_nil,aU];(simp only [go_sem, *];try rfl),ss,by simp⟩
 ·rintro i env S' ⟨hi,e0,f1,f5,f6,f7,f8,f9,rfl⟩ IH
  have HI:=ae IH
  clear IH
  by_cases hlt:i<evs.length
  ·obtain⟨e,hx⟩:∃ e,evs[i]? = some e:=⟨_,al hlt⟩
   have h1:decide ((i:Int)<(evs.length:Int))=true:=by simpa using hlt
   have hw:af.wrap ((i:Int)+1)=((i+1:Nat):Int):=by have:=HLL.out.2.2;rw [au _ (by omega)];omega
   have Hsu:=ae (xq (f:=xV) hx)
   have hc:=fun S'=>HOf.out S' e (ar hx)
   have hfl:=BN xV evs (i+1)
   rw [HLL.out.1,Hsu.out,ah] at hfl
   have hfl2:=HLL.out.2.1
   generalize (evs.take i).flatMap xV=F at hfl Hsu f8 ⊢
   generalize hG:xV e=G at hfl Hsu hc
   have hb:(F.length+G.length) * 56≤140737488355328:=by omega
   have okG:=Ac.ok G
   simp only [cC,AV.cells] at okG
   have Hlt:=ae hlt
   obtain⟨k1,k2,k3,k4,k5,k6,k7⟩:=e
   have hev:Ev.av ⟨k1,k2,k3,k4,k5,k6,k7⟩=.agg [.int .i64 k1,.int .i64 k2,.int .u8 k3,.int .u8 k4,.sval false (k5.map dE),.str k6,.str k7]:=rfl
   rw [hev] at hc
   clear hlt hi hfl hfl2 hG
   repeat' first | refine st ?_ | (refine ca ?_;apply hc) | (refine br ?_ ?_<;>intro hb) | fail
   refine HI.out (i+1) _ _ (by have:=Hlt.out;omega) ⟨Hlt.out, ?_, ?_, ?_, ?_, ?_, ?_, ?_, ?_⟩
   ·(simp only [go_sem, *];try rfl)
   ·(simp only [go_sem, *];try rfl)
   ·(simp only [go_sem, *];try rfl)
   ·(simp only [go_sem, *];try rfl)
   ·(simp only [go_sem, *];try rfl)
   ·rw [Hsu.out,ah];(simp only [go_sem, *];try rfl)
   ·(simp only [go_sem, *];try rfl)
   ·rw [Hsu.out,bg]
  ·have h1:decide ((i:Int)<(evs.length:Int))=false:=by simpa using hlt
   have htk:evs.take i=evs:=cA (by omega)
   rw [htk,HLL.out.1] at f8
   rw [htk,HLL.out.1]
   have hsm:=HSm.out
   have hr9:=HR9.out
   have hle:(L.map Ac.av).length=L.length:=by simp
   clear hlt hi htk HI
   repeat' ((fail_if_success (apply bW 10));first | refine st ?_ | (refine br ?_ ?_<;>intro hb) | fail)
   refine ew (S.length+1) ss ?_
   repeat' first | refine st ?_ | (refine ca ?_;first | apply hsm | apply hr9) | (refine br ?_ ?_<;>intro hb) | fail
   refine fR Tryz.results19 ?_
   exact H.out
structure fS (w0:World):Prop where
 hM:jQ w0
 hW:jO w0
 hQ:ld w0
 hP:jP w0
def IZ (s:List UInt8) (L:List Ac):Bool :=
 decide (dk (cB 0) (s.map aR)=(cB 0,(dk (cB 0) (s.map aR)).2))&&((dk (cB 0) (s.map aR)).2.all DX&&(decide ((dk (cB 0) (s.map aR)).2.flatMap xV=L)&&(decide (L.length≤1000))))
theorem xW (w0:World) (hB:fS w0) (s:List UInt8) (L:List Ac) (hs:s.length≤4096) (h:IZ s L=true) (S:List ax) (R:Rt) (hR:R (.ret (.bool true)) S):ao Tryz.prog w0 19 [.str s,.sval false (L.map Ac.av)] S R:=by
 unfold IZ at h
 simp only [aj,decide_eq_true_eq] at h
 exact Kd w0 hB.hM hB.hW hB.hQ hB.hP S s hs _ h.1 h.2.1 L h.2.2.1 (by omega) R hR
theorem Kj (w0:World) (hB:fS w0):∀ (S:List ax) (R:Rt),R (.ret (.bool true)) S→ao Tryz.prog w0 19 [.str [27,91,53,59,48,72,27,91,72],.sval false [.agg [.int .i64 19,.int .i64 5,.int .i64 1,.int .i64 0,.int .i64 0,.str []],.agg [.int .i64 19,.int .i64 1,.int .i64 1,.int .i64 0,.int .i64 0,.str []]]] S R :=
 fun S R h=>xW w0 hB [27,91,53,59,48,72,27,91,72] [dr 19 5 1,dr 19 1 1] (by decide +kernel) (by decide +kernel) S R h
theorem Ki (w0:World) (hB:fS w0):∀ (S:List ax) (R:Rt),R (.ret (.bool true)) S→ao Tryz.prog w0 19 [.str [27,91,63,50,53,59,55,108],.sval false [.agg [.int .i64 37,.int .i64 25,.int .i64 0,.int .i64 0,.int .i64 0,.str []],.agg [.int .i64 37,.int .i64 7,.int .i64 0,.int .i64 0,.int .i64 0,.str []]]] S R :=
 fun S R h=>xW w0 hB [27,91,63,50,53,59,55,108] [dr 37 25 0,dr 37 7 0] (by decide +kernel) (by decide +kernel) S R h
theorem Kh (w0:World) (hB:fS w0):∀ (S:List ax) (R:Rt),R (.ret (.bool true)) S→ao Tryz.prog w0 19 [.str [27,91,51,75,27,91,50,75],.sval false [.agg [.int .i64 27,.int .i64 2,.int .i64 0,.int .i64 0,.int .i64 0,.str []]]] S R :=
 fun S R h=>xW w0 hB [27,91,51,75,27,91,50,75] [dr 27 2 0] (by decide +kernel) (by decide +kernel) S R h
theorem Kg (w0:World) (hB:fS w0):∀ (S:List ax) (R:Rt),R (.ret (.bool true)) S→ao Tryz.prog w0 19 [.str [27,41,48,27,40,65],.sval false [.agg [.int .i64 17,.int .i64 1,.int .i64 1,.int .i64 0,.int .i64 0,.str []]]] S R :=
 fun S R h=>xW w0 hB [27,41,48,27,40,65] [dr 17 1 1] (by decide +kernel) (by decide +kernel) S R h
theorem Kf (w0:World) (hB:fS w0):∀ (S:List ax) (R:Rt),R (.ret (.bool true)) S→ao Tryz.prog w0 19 [.str [27,91,63,54,36,112,27,91,52,32,113],.sval false [.agg [.int .i64 43,.int .i64 6,.int .i64 1,.int .i64 0,.int .i64 0,.str []],.agg [.int .i64 40,.int .i64 4,.int .i64 0,.int .i64 0,.int .i64 0,.str []]]] S R :=
 fun S R h=>xW w0 hB [27,91,63,54,36,112,27,91,52,32,113] [dr 43 6 1,dr 40 4 0] (by decide +kernel) (by decide +kernel) S R h
theorem Ke (w0:World) (hB:fS w0):∀ (S:List ax) (R:Rt),R (.ret (.bool true)) S→ao Tryz.prog w0 19 [.str [27,93,50,59,116,7,5],.sval false [.agg [.int .i64 44,.int .i64 0,.int .i64 0,.int .i64 0,.int .i64 0,.str [116]]]] S R :=
 fun S R h=>xW w0 hB [27,93,50,59,116,7,5] [⟨44,0,0,0,0,[116]⟩] (by decide +kernel) (by decide +kernel) S R h
theorem Gg (w0:World) (hB:fS w0):∀ (S:List ax) (R:Rt),R (.ret (.tup [.sval false [],.int .i64 0])) S→ao Tryz.prog w0 17 [.agg [.int .i64 1,.int .i64 159,.int .u8 0,.int .u8 0,.sval false [],.str [],.str []]] S R:=by
 intro S R h
 have e1:li ⟨1,159,0,0,[],[],[]⟩=true:=by decide +kernel
 have e2:xV ⟨1,159,0,0,[],[],[]⟩=[]:=by decide +kernel
 have k:=Gv w0 hB.hM hB.hW hB.hQ hB.hP S ⟨1,159,0,0,[],[],[]⟩ ⟨by decide,by simp⟩ (by decide) (fun _ hk=>by cases hk) R
 rw [e1,e2] at k
 exact k h
theorem DM (w0:World) (hB:fS w0) (S:List ax) (R:Rt) (h:R (.ret (.bool true)) S):ao Tryz.prog w0 13 [] S R:=by
 have hac:=IY w0
 have h9:=Gg w0 hB
 have k0:=Kj w0 hB
 have k1:=Ki w0 hB
 have k2:=Kh w0 hB
 have k3:=Kg w0 hB
 have k4:=Kf w0 hB
 have k5:=Ke w0 hB
 have e0:(((0:Nat):Int)==0)=true:=rfl
 have H:=ae h
 clear h hB
 refine eN Tryz.func13 rfl Tryz.ntmps13 fun hO=>?_
 repeat' ((fail_if_success (apply bX 8 rfl));first | refine st ?_ | (refine ca ?_;first | apply hac | apply h9) | (refine br ?_ ?_<;>intro hb) | fail)
 refine ew (S.length) ss ?_
 repeat' ((fail_if_success (apply bX 13 rfl));first | refine st ?_ | (refine ca ?_;first | apply hac | apply h9 | apply k0) | (refine br ?_ ?_<;>intro hb) | fail)
 refine ew (S.length+1) ss ?_
 repeat' ((fail_if_success (apply bX 18 rfl));first | refine st ?_ | (refine ca ?_;first | apply hac | apply h9 | apply k0 | apply k1) | (refine br ?_ ?_<;>intro hb) | fail)
 refine ew (S.length+2) ss ?_
 repeat' ((fail_if_success (apply bX 22 rfl));first | refine st ?_ | (refine ca ?_;first | apply hac | apply h9 | apply k0 | apply k1 | apply k2) | (refine br ?_ ?_<;>intro hb) | fail)
 refine ew (S.length+3) ss ?_
 repeat' ((fail_if_success (apply bX 27 rfl));first | refine st ?_ | (refine ca ?_;first | apply hac | apply h9 | apply k0 | apply k1 | apply k2 | apply k3) | (refine br ?_ ?_<;>intro hb) | fail)
 refine ew (S.length+4) ss ?_
 repeat' ((fail_if_success (apply bX 41 rfl));first | refine st ?_ | (refine ca ?_;first | apply hac | apply h9 | apply k0 | apply k1 | apply k2 | apply k3 | apply k4) | (refine br ?_ ?_<;>intro hb) | fail)
 refine ew (S.length+5) ss ?_
 repeat' first | refine st ?_ | (refine ca ?_;first | apply hac | apply h9 | apply k0 | apply k1 | apply k2 | apply k3 | apply k4 | apply k5) | (refine br ?_ ?_<;>intro hb) | fail
 refine fR Tryz.results13 ?_
 exact H.out
theorem vt (w0:World) (hB:fS w0) (a:Ac) (v:Int) (hv:(if gv a then 0 else 200)=v) (hm:Em a.m) (ht:a.text.length≤10000):∀ (S:List ax) (R:Rt),R (.ret (.int .i64 v)) S→ao Tryz.prog w0 11 [a.av] S R:=by
 intro S R h
 subst hv
 exact z8 w0 hB.hM hB.hW hB.hQ S a hm ht R h
theorem FH (w0:World) (hB:fS w0) (e:Ev) (L:List Ac) (v:Int) (hl:pC e.pars) (ht:e.text.length≤8192) (hp:li e=true→e.kind=4→nK ⟨e.priv,e.inter,e.fin⟩=some .pens→False) (h1:xV e=L) (h2:(if li e then 0 else 201)=v):∀ (S:List ax) (R:Rt),R (.ret (.tup [.sval false (L.map Ac.av),.int .i64 v])) S→ao Tryz.prog w0 17 [e.av] S R:=by
 intro S R h
 subst h1 h2
 exact Gv w0 hB.hM hB.hW hB.hQ hB.hP S e hl ht (fun a b c=>(hp a b c).elim) R h
theorem Kp (w0:World) (hB:fS w0):∀ (S:List ax) (R:Rt),R (.ret (.bool true)) S→ao Tryz.prog w0 19 [.str [7,8,9,10,11,12,13,14,15,0,1,16,31],.sval false [.agg [.int .i64 2,.int .i64 0,.int .i64 0,.int .i64 0,.int .i64 0,.str []],.agg [.int .i64 3,.int .i64 0,.int .i64 0,.int .i64 0,.int .i64 0,.str []],.agg [.int .i64 4,.int .i64 0,.int .i64 0,.int .i64 0,.int .i64 0,.str []],.agg [.int .i64 5,.int .i64 0,.int .i64 0,.int .i64 0,.int .i64 0,.str []],.agg [.int .i64 5,.int .i64 0,.int .i64 0,.int .i64 0,.int .i64 0,.str []],.agg [.int .i64 5,.int .i64 0,.int .i64 0,.int .i64 0,.int .i64 0,.str []],.agg [.int .i64 6,.int .i64 0,.int .i64 0,.int .i64 0,.int .i64 0,.str []],.agg [.int .i64 7,.int .i64 1,.int .i64 0,.int .i64 0,.int .i64 0,.str []],.agg [.int .i64 7,.int .i64 0,.int .i64 0,.int .i64 0,.int .i64 0,.str []]]] S R :=
 fun S R h=>xW w0 hB [7,8,9,10,11,12,13,14,15,0,1,16,31] [dr 2 0 0,dr 3 0 0,dr 4 0 0,dr 5 0 0,dr 5 0 0,dr 5 0 0,dr 6 0 0,dr 7 1 0,dr 7 0 0] (by decide +kernel) (by decide +kernel) S R h
theorem Ko (w0:World) (hB:fS w0):∀ (S:List ax) (R:Rt),R (.ret (.bool true)) S→ao Tryz.prog w0 19 [.str [27,68,27,69,27,72,27,77,27,78,27,79,27,55,27,56,27,61,27,62,27,99,27,35,56,27,90],.sval false [.agg [.int .i64 8,.int .i64 0,.int .i64 0,.int .i64 0,.int .i64 0,.str []],.agg [.int .i64 9,.int .i64 0,.int .i64 0,.int .i64 0,.int .i64 0,.str []],.agg [.int .i64 10,.int .i64 0,.int .i64 0,.int .i64 0,.int .i64 0,.str []],.agg [.int .i64 11,.int .i64 0,.int .i64 0,.int .i64 0,.int .i64 0,.str []],.agg [.int .i64 18,.int .i64 2,.int .i64 0,.int .i64 0,.int .i64 0,.str []],.agg [.int .i64 18,.int .i64 3,.int .i64 0,.int .i64 0,.int .i64 0,.str []],.agg [.int .i64 12,.int .i64 0,.int .i64 0,.int .i64 0,.int .i64 0,.str []],.agg [.int .i64 13,.int .i64 0,.int .i64 0,.int .i64 0,.int .i64 0,.str []],.agg [.int .i64 14,.int .i64 1,.int .i64 0,.int .i64 0,.int .i64 0,.str []],.agg [.int .i64 14,.int .i64 0,.int .i64 0,.int .i64 0,.int .i64 0,.str []],.agg [.int .i64 15,.int .i64 0,.int .i64 0,.int .i64 0,.int .i64 0,.str []],.agg [.int .i64 16,.int .i64 0,.int .i64 0,.int .i64 0,.int .i64 0,.str []]]] S R :=
 fun S R h=>xW w0 hB [27,68,27,69,27,72,27,77,27,78,27,79,27,55,27,56,27,61,27,62,27,99,27,35,56,27,90] [dr 8 0 0,dr 9 0 0,dr 10 0 0,dr 11 0 0,dr 18 2 0,dr 18 3 0,dr 12 0 0,dr 13 0 0,dr 14 1 0,dr 14 0 0,dr 15 0 0,dr 16 0 0] (by decide +kernel) (by decide +kernel) S R h
theorem Kn (w0:World) (hB:fS w0):∀ (S:List ax) (R:Rt),R (.ret (.bool true)) S→ao Tryz.prog w0 19 [.str [27,40,66,27,41,66,27,42,48,27,43,48,27,45,66],.sval false [.agg [.int .i64 17,.int .i64 0,.int .i64 0,.int .i64 0,.int .i64 0,.str []],.agg [.int .i64 17,.int .i64 1,.int .i64 0,.int .i64 0,.int .i64 0,.str []],.agg [.int .i64 17,.int .i64 2,.int .i64 1,.int .i64 0,.int .i64 0,.str []],.agg [.int .i64 17,.int .i64 3,.int .i64 1,.int .i64 0,.int .i64 0,.str []]]] S R :=
 fun S R h=>xW w0 hB [27,40,66,27,41,66,27,42,48,27,43,48,27,45,66] [dr 17 0 0,dr 17 1 0,dr 17 2 1,dr 17 3 1] (by decide +kernel) (by decide +kernel) S R h
theorem Km (w0:World) (hB:fS w0):∀ (S:List ax) (R:Rt),R (.ret (.bool true)) S→ao Tryz.prog w0 19 [.str [27,91,99,27,91,48,99,27,91,49,99,27,91,62,99,27,91,54,110,27,91,53,110,27,91,55,110,27,91,50,48,36,112,27,91,33,112,27,91,115,27,91,117],.sval false [.agg [.int .i64 42,.int .i64 0,.int .i64 0,.int .i64 0,.int .i64 0,.str []],.agg [.int .i64 42,.int .i64 0,.int .i64 0,.int .i64 0,.int .i64 0,.str []],.agg [.int .i64 42,.int .i64 1,.int .i64 0,.int .i64 0,.int .i64 0,.str []],.agg [.int .i64 41,.int .i64 6,.int .i64 0,.int .i64 0,.int .i64 0,.str []],.agg [.int .i64 41,.int .i64 5,.int .i64 0,.int .i64 0,.int .i64 0,.str []],.agg [.int .i64 43,.int .i64 20,.int .i64 0,.int .i64 0,.int .i64 0,.str []],.agg [.int .i64 15,.int .i64 0,.int .i64 0,.int .i64 0,.int .i64 0,.str []],.agg [.int .i64 12,.int .i64 0,.int .i64 0,.int .i64 0,.int .i64 0,.str []],.agg [.int .i64 13,.int .i64 0,.int .i64 0,.int .i64 0,.int .i64 0,.str []]]] S R :=
 fun S R h=>xW w0 hB [27,91,99,27,91,48,99,27,91,49,99,27,91,62,99,27,91,54,110,27,91,53,110,27,91,55,110,27,91,50,48,36,112,27,91,33,112,27,91,115,27,91,117] [dr 42 0 0,dr 42 0 0,dr 42 1 0,dr 41 6 0,dr 41 5 0,dr 43 20 0,dr 15 0 0,dr 12 0 0,dr 13 0 0] (by decide +kernel) (by decide +kernel) S R h
theorem Kl (w0:World) (hB:fS w0):∀ (S:List ax) (R:Rt),R (.ret (.bool true)) S→ao Tryz.prog w0 19 [.str [27,91,74,27,91,51,74,27,91,52,74,27,91,75,27,91,49,75,27,91,103,27,91,51,103,27,91,50,103],.sval false [.agg [.int .i64 26,.int .i64 0,.int .i64 0,.int .i64 0,.int .i64 0,.str []],.agg [.int .i64 26,.int .i64 3,.int .i64 0,.int .i64 0,.int .i64 0,.str []],.agg [.int .i64 27,.int .i64 0,.int .i64 0,.int .i64 0,.int .i64 0,.str []],.agg [.int .i64 27,.int .i64 1,.int .i64 0,.int .i64 0,.int .i64 0,.str []],.agg [.int .i64 35,.int .i64 0,.int .i64 0,.int .i64 0,.int .i64 0,.str []],.agg [.int .i64 35,.int .i64 3,.int .i64 0,.int .i64 0,.int .i64 0,.str []]]] S R :=
 fun S R h=>xW w0 hB [27,91,74,27,91,51,74,27,91,52,74,27,91,75,27,91,49,75,27,91,103,27,91,51,103,27,91,50,103] [dr 26 0 0,dr 26 3 0,dr 27 0 0,dr 27 1 0,dr 35 0 0,dr 35 3 0] (by decide +kernel) (by decide +kernel) S R h
theorem Kk (w0:World) (hB:fS w0):∀ (S:List ax) (R:Rt),R (.ret (.bool true)) S→ao Tryz.prog w0 19 [.str [27,91,55,32,113,27,91,63,74,27,91,62,49,99,27,91,63,49,110,27,80,113,27,92,27,93,57,59,120,7,27,91,37,113,27,91,104],.sval false [.agg [.int .i64 36,.int .i64 0,.int .i64 1,.int .i64 0,.int .i64 0,.str []]]] S R :=
 fun S R h=>xW w0 hB [27,91,55,32,113,27,91,63,74,27,91,62,49,99,27,91,63,49,110,27,80,113,27,92,27,93,57,59,120,7,27,91,37,113,27,91,104] [dr 36 0 1] (by decide +kernel) (by decide +kernel) S R h
theorem KB (w0:World) (hB:fS w0):∀ (S:List ax) (R:Rt),R (.ret (.int .i64 0)) S→ao Tryz.prog w0 11 [.agg [.int .i64 1,.int .i64 32,.int .i64 0,.int .i64 0,.int .i64 0,.str []]] S R :=
 vt w0 hB (dr 1 32 0) 0 (by decide +kernel) ⟨by decide,by decide⟩ (by decide)
theorem KA (w0:World) (hB:fS w0):∀ (S:List ax) (R:Rt),R (.ret (.int .i64 200)) S→ao Tryz.prog w0 11 [.agg [.int .i64 1,.int .i64 127,.int .i64 0,.int .i64 0,.int .i64 0,.str []]] S R :=
 vt w0 hB (dr 1 127 0) 200 (by decide +kernel) ⟨by decide,by decide⟩ (by decide)
theorem CF (w0:World) (hB:fS w0):∀ (S:List ax) (R:Rt),R (.ret (.int .i64 200)) S→ao Tryz.prog w0 11 [.agg [.int .i64 19,.int .i64 1,.int .i64 10000,.int .i64 0,.int .i64 0,.str []]] S R :=
 vt w0 hB (dr 19 1 10000) 200 (by decide +kernel) ⟨by decide,by decide⟩ (by decide)
theorem Kz (w0:World) (hB:fS w0):∀ (S:List ax) (R:Rt),R (.ret (.int .i64 200)) S→ao Tryz.prog w0 11 [.agg [.int .i64 20,.int .i64 0,.int .i64 0,.int .i64 0,.int .i64 0,.str []]] S R :=
 vt w0 hB (dr 20 0 0) 200 (by decide +kernel) ⟨by decide,by decide⟩ (by decide)
theorem Ky (w0:World) (hB:fS w0):∀ (S:List ax) (R:Rt),R (.ret (.int .i64 0)) S→ao Tryz.prog w0 11 [.agg [.int .i64 37,.int .i64 9999,.int .i64 1,.int .i64 0,.int .i64 0,.str []]] S R :=
 vt w0 hB (dr 37 9999 1) 0 (by decide +kernel) ⟨by decide,by decide⟩ (by decide)
theorem Kx (w0:World) (hB:fS w0):∀ (S:List ax) (R:Rt),R (.ret (.int .i64 0)) S→ao Tryz.prog w0 11 [.agg [.int .i64 38,.int .i64 0,.int .i64 0,.int .i64 0,.int .i64 0,.str []]] S R :=
 vt w0 hB (dr 38 0 0) 0 (by decide +kernel) ⟨by decide,by decide⟩ (by decide)
theorem Kw (w0:World) (hB:fS w0):∀ (S:List ax) (R:Rt),R (.ret (.int .i64 200)) S→ao Tryz.prog w0 11 [.agg [.int .i64 0,.int .i64 0,.int .i64 0,.int .i64 0,.int .i64 0,.str []]] S R :=
 vt w0 hB (dr 0 0 0) 200 (by decide +kernel) ⟨by decide,by decide⟩ (by decide)
theorem Ka (w0:World) (hB:fS w0):∀ (S:List ax) (R:Rt),R (.ret (.tup [.sval false [],.int .i64 201])) S→ao Tryz.prog w0 17 [.agg [.int .i64 0,.int .i64 0,.int .u8 0,.int .u8 0,.sval false [],.str [],.str []]] S R :=
 FH w0 hB ⟨0,0,0,0,[],[],[]⟩ [] 201 ⟨by decide,by simp⟩ (by decide) (fun _ hk _=>by cases hk) (by decide +kernel) (by decide +kernel)
theorem J_ (w0:World) (hB:fS w0):∀ (S:List ax) (R:Rt),R (.ret (.tup [.sval false [],.int .i64 201])) S→ao Tryz.prog w0 17 [.agg [.int .i64 7,.int .i64 0,.int .u8 0,.int .u8 0,.sval false [],.str [],.str []]] S R :=
 FH w0 hB ⟨7,0,0,0,[],[],[]⟩ [] 201 ⟨by decide,by simp⟩ (by decide) (fun _ hk _=>by cases hk) (by decide +kernel) (by decide +kernel)
theorem J9 (w0:World) (hB:fS w0):∀ (S:List ax) (R:Rt),R (.ret (.tup [.sval false [],.int .i64 201])) S→ao Tryz.prog w0 17 [.agg [.int .i64 1,.int .i64 97,.int .u8 0,.int .u8 0,.sval false [.agg [.sval false []]],.str [],.str []]] S R :=
 FH w0 hB ⟨1,97,0,0,[[]],[],[]⟩ [] 201 ⟨by decide,by simp⟩ (by decide) (fun _ hk _=>by cases hk) (by decide +kernel) (by decide +kernel)
theorem J8 (w0:World) (hB:fS w0):∀ (S:List ax) (R:Rt),R (.ret (.tup [.sval false [.agg [.int .i64 1,.int .i64 769,.int .i64 0,.int .i64 0,.int .i64 0,.str []]],.int .i64 0])) S→ao Tryz.prog w0 17 [.agg [.int .i64 1,.int .i64 769,.int .u8 0,.int .u8 120,.sval false [],.str [],.str [121]]] S R :=
 FH w0 hB ⟨1,769,0,120,[],[],[121]⟩ [dr 1 769 0] 0 ⟨by decide,by simp⟩ (by decide) (fun _ hk _=>by cases hk) (by decide +kernel) (by decide +kernel)
theorem DN (w0:World) (hB:fS w0) (S:List ax) (R:Rt) (h:R (.ret (.bool true)) S):ao Tryz.prog w0 8 [] S R:=by
 have hac:=IY w0
 have hwk:=DM w0 hB
 have h9:=fun S'=>v_ w0 S' [dr 1 769 0] (by decide)
 simp only [aA,aC,gi,bG] at h9
 have k0:=Kp w0 hB
 have k1:=Ko w0 hB
 have k2:=Kn w0 hB
 have k3:=Km w0 hB
 have k4:=Kl w0 hB
 have k5:=Kk w0 hB
 have c0:=KB w0 hB
 have c1:=KA w0 hB
 have c2:=CF w0 hB
 have c3:=Kz w0 hB
 have c4:=Ky w0 hB
 have c5:=Kx w0 hB
 have c6:=Kw w0 hB
 have o0:=Ka w0 hB
 have o1:=J_ w0 hB
 have o2:=J9 w0 hB
 have o3:=J8 w0 hB
 have e0:(((0:Nat):Int)==0)=true:=rfl
 have H:=ae h
 clear h hB
 refine eN Tryz.func8 rfl Tryz.ntmps8 fun hO=>?_
 repeat' ((fail_if_success (apply bX 26 rfl));first | refine st ?_ | (refine ca ?_;apply hac) | (refine br ?_ ?_<;>intro hb) | fail)
 refine ew (S.length) ss ?_
 repeat' ((fail_if_success (apply bX 40 rfl));first | refine st ?_ | (refine ca ?_;first | apply hac | apply k0) | (refine br ?_ ?_<;>intro hb) | fail)
 refine ew (S.length+1) ss ?_
 repeat' ((fail_if_success (apply bX 46 rfl));first | refine st ?_ | (refine ca ?_;first | apply hac | apply k0 | apply k1) | (refine br ?_ ?_<;>intro hb) | fail)
 refine ew (S.length+2) ss ?_
 repeat' ((fail_if_success (apply bX 57 rfl));first | refine st ?_ | (refine ca ?_;first | apply hac | apply k0 | apply k1 | apply k2) | (refine br ?_ ?_<;>intro hb) | fail)
 refine ew (S.length+3) ss ?_
 repeat' ((fail_if_success (apply bX 65 rfl));first | refine st ?_ | (refine ca ?_;first | apply hac | apply k0 | apply k1 | apply k2 | apply k3) | (refine br ?_ ?_<;>intro hb) | fail)
 refine ew (S.length+4) ss ?_
 repeat' ((fail_if_success (apply bX 68 rfl));first | refine st ?_ | (refine ca ?_;first | apply hac | apply k0 | apply k1 | apply k2 | apply k3 | apply k4) | (refine br ?_ ?_<;>intro hb) | fail)
 refine ew (S.length+5) ss ?_
 repeat' ((fail_if_success (apply bX 83 rfl));first | refine st ?_ | (refine ca ?_;first | apply hac | apply hwk | apply k0 | apply k1 | apply k2 | apply k3 | apply k4 | apply k5 | apply o0 | apply o1 | apply o2 | apply o3 | apply c0 | apply c1 | apply c2 | apply c3 | apply c4 | apply c5 | apply c6) | (refine br ?_ ?_<;>intro hb) | fail)
 refine ew (S.length+6) ss ?_
 repeat' ((fail_if_success (apply bX 165 rfl));first | refine st ?_ | (refine ca ?_;first | apply hac | apply hwk | apply k0 | apply k1 | apply k2 | apply k3 | apply k4 | apply k5 | apply o0 | apply o1 | apply o2 | apply o3 | apply c0 | apply c1 | apply c2 | apply c3 | apply c4 | apply c5 | apply c6) | (refine br ?_ ?_<;>intro hb) | fail)
 refine ew (S.length+7) ss ?_
 repeat' first | refine st ?_ | (refine ca ?_;apply h9) | (refine br ?_ ?_<;>intro hb) | fail
 refine fR Tryz.results8 ?_
 exact H.out
open Go.ChangeShapes Go.WideShapes Go.ChangeAt Go.RowKit
theorem own:ownKnob Tryz.prog.godebug=none:=by kernel_rfl
theorem iu {P:Program}{W:World}{nm:String}{d:DataW Unit}:∀ {l:List (String × DataW Unit)}{ps:List MemPlace},DataW.LaidVars P W l ps→(nm,d)∈l →
  ∃ g t cs fuel p,P.globalNamed nm=some g∧(P.globals[g]?).map (·.type)=some t∧W.var? P nm=some cs∧DataW.trod (fun _=>()) P W 0 (fun _=>true) false fuel t cs.toList=some (d,p):=by
 intro l
 induction l with
 | nil=>intro ps _ h;cases h
 | cons x l ih =>
  intro ps h hm
  obtain⟨nm',d'⟩:=x
  obtain⟨g,t,cs,fuel,p,q,h1,h2,h3,h4,h5,_⟩:=h
  rcases bA.1 hm with e | hm
  ·cases e;exact⟨g,t,cs,fuel,p,h1,h2,h3,h4⟩
  ·exact ih h5 hm
def cD:List (String × DataW Unit):=[("math/bits.deBruijn32tab",Rows.laid_math_bits_deBruijn32tab),("math/bits.deBruijn64tab",Rows.laid_math_bits_deBruijn64tab),("internal/strconv.uint64pow10",Rows.laid_internal_strconv_uint64pow10),("unicode/utf8.acceptRanges",Rows.laid_unicode_utf8_acceptRanges),("strconv.ErrRange",Rows.laid_strconv_ErrRange),("strconv.ErrSyntax",Rows.laid_strconv_ErrSyntax),("fenestra/color.named",Rows.laid_fenestra_color_named),("fenestra/sgr.attrs",Rows.laid_fenestra_sgr_attrs),("fenestra/width.marks",Rows.laid_fenestra_width_marks),("fenestra/width.wides",Rows.laid_fenestra_width_wides),("unicode/utf8.first",Rows.laid_unicode_utf8_first)]
theorem Gl:Tryz.prog.globalNamed "internal/strconv.uint64pow10" = some 4:=by kernel_rfl
theorem E8:Tryz.prog.globalNamed "strconv.ErrSyntax" = some 6:=by kernel_rfl
theorem C6 {W:World} (h:laidMetH Tryz.prog cD W):Eg W:=by
 rw [MakeChecks.laidMetH_plain _ _ _ (by kernel_rfl)] at h
 obtain⟨ps,hl,_⟩:=h
 obtain⟨g,t,cs,fuel,p,h1,h2,h3,h4⟩:=iu (nm := "internal/strconv.uint64pow10") (d:=Rows.laid_internal_strconv_uint64pow10) hl (by simp [cD])
 obtain rfl:=bi (Gl.symm.trans h1)
 obtain rfl:=bi ((show (Tryz.prog.globals[4]?).map (·.type)=some 314 by kernel_rfl).symm.trans h2)
 have h5:=pH (k:=.u64) (zs:=Lib.pow10Tab) (CU) (CX) (by kernel_rfl) (by kernel_rfl) h4
 unfold Eg Lib.TabIs
 rw [h3,← h5]
theorem C7 {W:World} (h:laidMetH Tryz.prog cD W):z_ W:=by
 rw [MakeChecks.laidMetH_plain _ _ _ (by kernel_rfl)] at h
 obtain⟨ps,hl,_⟩:=h
 obtain⟨g,t,cs,fuel,p,h1,h2,h3,h4⟩:=iu (nm := "strconv.ErrSyntax") (d:=Rows.laid_strconv_ErrSyntax) hl (by simp [cD])
 obtain rfl:=bi (E8.symm.trans h1)
 obtain rfl:=bi ((show (Tryz.prog.globals[6]?).map (·.type)=some 95 by kernel_rfl).symm.trans h2)
 cases fuel with
 | zero=>simp [DataW.trod] at h4
 | succ fuel =>
 simp only [DataW.trod,Ct] at h4
 have hc:=Am E8 h3 0
 match hcs:cs.toList,h4 with
 | [.nilIface],_=>exact⟨.nilIface,by rw [hc,← a7,hcs];rfl,.inl rfl⟩
 | [.iface u v],_=>exact⟨.iface u v,by rw [hc,← a7,hcs];rfl,.inr ⟨u,v,rfl⟩⟩
theorem E9:Tryz.prog.globalNamed "strconv.ErrRange" = some 7:=by kernel_rfl
theorem Df {W:World} (h:laidMetH Tryz.prog cD W):Eh W:=by
 rw [MakeChecks.laidMetH_plain _ _ _ (by kernel_rfl)] at h
 obtain⟨ps,hl,_⟩:=h
 obtain⟨g,t,cs,fuel,p,h1,h2,h3,h4⟩:=iu (nm := "strconv.ErrRange") (d:=Rows.laid_strconv_ErrRange) hl (by simp [cD])
 obtain rfl:=bi (E9.symm.trans h1)
 obtain rfl:=bi ((show (Tryz.prog.globals[7]?).map (·.type)=some 95 by kernel_rfl).symm.trans h2)
 cases fuel with
 | zero=>simp [DataW.trod] at h4
 | succ fuel =>
 simp only [DataW.trod,Ct] at h4
 have hc:=Am E9 h3 0
 match hcs:cs.toList,h4 with
 | [.nilIface],_=>exact⟨.nilIface,by rw [hc,← a7,hcs];rfl,.inl rfl⟩
 | [.iface u v],_=>exact⟨.iface u v,by rw [hc,← a7,hcs];rfl,.inr ⟨u,v,rfl⟩⟩
theorem zo {W:World}{nm:String}{g:Nat}{cs:Array Value}{k:IntKind}{zs:List Int} (hg:Tryz.prog.globalNamed nm=some g) (h:W.var? Tryz.prog nm=some cs) (hc:cs.toList=zs.map fun z=>dn k z):gl W g=.pro (zs.map fun z=>AV.int k z):=by
 unfold World.var? at h
 rw [hg] at h
 simp only [Cg] at h
 unfold gl
 split at h
 ·next c T fz hh =>
  cases h
  rw [hh]
  simp only [hc]
  have hall:(zs.map fun z=>dn k z).all ul=true:=by
   rw [aq]
   intro x hx
   obtain⟨z,_,rfl⟩:=aH.1 hx
   rfl
  rw [hall,if_pos rfl,Ag]
  rfl
 ·cases h
theorem Fb:Tryz.prog.globalNamed "math/bits.deBruijn64tab" = some 11:=by kernel_rfl
theorem E_:Tryz.prog.globalNamed "fenestra/color.named" = some 2:=by kernel_rfl
theorem D4 {W:World} (h:laidMetH Tryz.prog cD W):wu W:=by
 rw [MakeChecks.laidMetH_plain _ _ _ (by kernel_rfl)] at h
 obtain⟨ps,hl,_⟩:=h
 obtain⟨g,t,cs,fuel,p,h1,h2,h3,h4⟩:=iu (nm := "math/bits.deBruijn64tab") (d:=Rows.laid_math_bits_deBruijn64tab) hl (by simp [cD])
 obtain rfl:=bi (Fb.symm.trans h1)
 obtain rfl:=bi ((show (Tryz.prog.globals[11]?).map (·.type)=some 340 by kernel_rfl).symm.trans h2)
 have h5:=pH (k:=.u8) (zs:=[0,1,56,2,57,49,28,3,61,58,42,50,38,29,17,4,62,47,59,36,45,43,51,22,53,39,33,30,24,18,12,5,63,55,48,27,60,41,37,16,46,35,44,21,52,32,23,11,54,26,40,15,34,20,31,10,25,14,19,9,13,8,7,6]) (CT) (FS) (by kernel_rfl) (by kernel_rfl) h4
 exact zo Fb h3 h5
theorem DF {W:World} (h:laidMetH Tryz.prog cD W):Al W:=by
 rw [MakeChecks.laidMetH_plain _ _ _ (by kernel_rfl)] at h
 obtain⟨ps,hl,_⟩:=h
 obtain⟨g,t,cs,fuel,p,h1,h2,h3,h4⟩:=iu (nm := "fenestra/color.named") (d:=Rows.laid_fenestra_color_named) hl (by simp [cD])
 obtain rfl:=bi (E_.symm.trans h1)
 obtain rfl:=bi ((show (Tryz.prog.globals[2]?).map (·.type)=some 285 by kernel_rfl).symm.trans h2)
 have h5:=pH (k:=.i64) (zs:=[0,13434880,52480,13487360,238,13435085,52685,15066597,8355711,16711680,65280,16776960,6053119,16711935,65535,16777215]) (CW) (CV) (by kernel_rfl) (by kernel_rfl) h4
 exact zo E_ h3 h5
theorem yW {W:World} (h:laidMetH Tryz.prog cD W):jP W:=A9 W (C7 h) (Df h)
theorem yS {W:World} (h:laidMetH Tryz.prog cD W):ld W:=A5 W (C6 h) (D4 h) (DF h)
def tf {H:Type} (l:List (Int × Int)):DataW H:=.agg (l.map fun p=>.agg [.lit (.int .i64 p.1),.lit (.int .i64 p.2)])
theorem xa (l:List (Int × Int)):(l.flatMap fun q=>[dn .i64 q.1,dn .i64 q.2]).length=l.length * 2:=by
 induction l with
 | nil=>rfl
 | cons a l ih=>simp only [kW,ah,ih,aI,aU];omega
theorem uU (l:List (Int × Int)):(l.flatMap fun q=>[dn .i64 q.1,dn .i64 q.2]).map qj=dg (l.map uh):=by
 induction l with
 | nil=>rfl
 | cons a l ih=>simp only [kW,bg,ih,aA,ik];rfl
theorem kN {H:Type}{enc:TypeId × Value→H}{P:Program}{w:World}{base:Nat}{sp:Nat→Bool}{held:Bool}{fuel:Nat}{t e i:TypeId}{f0 f1:Field}{n:Nat}{cs:List Value}{l:List (Int × Int)}{p:List MemPlace}
  (ht:P.underlying t=some (.array n e)) (he:P.underlying e=some (.struct #[f0,f1])) (h0:f0.type=i∧f0.offset=0) (h1:f1.type=i∧f1.offset=1) (hi:P.underlying i=some (.int .i64)) (hci:P.cellsOf i=1) (hce:P.cellsOf e=2) (hct:P.cellsOf t=n * 2)
  (h:DataW.trod enc P w base sp held fuel t cs=some (tf l,p)):cs=l.flatMap fun q=>[dn .i64 q.1,dn .i64 q.2]:=by
 cases fuel with
 | zero=>simp [DataW.trod] at h
 | succ fuel =>
  simp only [DataW.trod,ht,hce,hct] at h
  split at h
  ·rename_i hl
   obtain⟨xs,hm,hx⟩:=aJ.1 h
   have hxs:xs.map (·.1)=l.map fun q=>(DataW.agg [.lit (.int .i64 q.1),.lit (.int .i64 q.2)]:DataW H):=by
    have:=congrArg bZ hx
    simpa [tf] using this
   have hxl:xs.length=n:=by simpa using up hm
   have hzl:l.length=n:=by
    have:=congrArg dM hxs
    simp at this
    omega
   have hfl:=xa l
   have hat:∀ k,k<n→∃ q,l[k]? = some q∧cs[k * 2]? = some (.int .i64 q.1)∧cs[k * 2+1]? = some (.int .i64 q.2):=by
    intro k hk
    obtain⟨b,hb,hf⟩:=Cl hm k k (by simp [hk])
    obtain⟨y0,y1,m,rfl,_,hy0,hy1⟩:=trod_struct2 he hf
    rw [h0.1,h0.2,hci] at hy0
    rw [h1.1,h1.2,hci] at hy1
    obtain⟨z0,c0,rfl,_⟩:=DataW.trod_int hi hy0
    obtain⟨z1,c1,rfl,_⟩:=DataW.trod_int hi hy1
    have g0:cs[k * 2]? = some (.int .i64 z0):=by
     have:=congrArg (·[0]?) c0
     simpa [aV,bQ] using this
    have g1:cs[k * 2+1]? = some (.int .i64 z1):=by
     have:=congrArg (·[0]?) c1
     simpa [aV,bQ] using this
    have h2:=congrArg (·[k]?) hxs
    simp only [aF,hb,cu] at h2
    cases hq:l[k]? with
    | none=>rw [hq] at h2;cases h2
    | some q =>
     rw [hq] at h2
     simp only [cu,a8,DataW.agg.injEq,iI,DataW.lit.injEq,Lit.int.injEq,true_and,and_true] at h2
     exact⟨q,rfl,by rw [g0,h2.1],by rw [g1,h2.2]⟩
   have hfat:∀ (l:List (Int × Int)) (k:Nat) (q:Int × Int),l[k]? = some q→(l.flatMap fun q=>[dn .i64 q.1,dn .i64 q.2])[k * 2]? = some (.int .i64 q.1)∧(l.flatMap fun q=>[dn .i64 q.1,dn .i64 q.2])[k * 2+1]? = some (.int .i64 q.2):=by
    intro l
    induction l with
    | nil=>intro k q hq;cases hq
    | cons a l ih =>
     intro k q hq
     cases k with
     | zero=>cases hq;exact⟨rfl,rfl⟩
     | succ k =>
      have:=ih k q (by simpa using hq)
      rw [show (k+1) * 2=k * 2+2 by omega]
      simpa [kW] using this
   apply List.ext_getElem?
   intro j
   by_cases hj:j<n * 2
   ·obtain⟨q,hq,a,b⟩:=hat (j / 2) (by omega)
    obtain⟨a',b'⟩:=hfat l (j / 2) q hq
    rcases(by omega:j=j / 2 * 2∨j=j / 2 * 2+1) with e | e
    ·rw [e,a,a']
    ·rw [e,b,b']
   ·rw [bz (by omega),bz (by omega)]
  ·cases h
theorem tD {W:World}{nm:String}{g:Nat}{cs:Array Value}{l:List (Int × Int)} (hg:Tryz.prog.globalNamed nm=some g) (h:W.var? Tryz.prog nm=some cs) (hc:cs.toList=l.flatMap fun q=>[dn .i64 q.1,dn .i64 q.2]):gl W g=.pro (dg (l.map uh)):=by
 unfold World.var? at h
 rw [hg] at h
 simp only [Cg] at h
 unfold gl
 split at h
 ·next c T fz hh =>
  cases h
  rw [hh]
  simp only [hc]
  have hall:(l.flatMap fun q=>[dn .i64 q.1,dn .i64 q.2]).all ul=true:=by
   rw [aq]
   intro x hx
   obtain⟨q,_,hx⟩:=List.mem_flatMap.1 hx
   rcases bA.1 hx with rfl | hx
   ·rfl
   ·rcases bA.1 hx with rfl | hx
    ·rfl
    ·cases hx
  rw [hall,if_pos rfl]
  rw [uU]
 ·cases h
theorem Fa:Tryz.prog.globalNamed "fenestra/width.marks" = some 0:=by kernel_rfl
theorem E7:Tryz.prog.globalNamed "fenestra/width.wides" = some 1:=by kernel_rfl
theorem DI {W:World} (h:laidMetH Tryz.prog cD W):jQ W:=by
 rw [MakeChecks.laidMetH_plain _ _ _ (by kernel_rfl)] at h
 obtain⟨ps,hl,_⟩:=h
 obtain⟨g,t,cs,fuel,p,h1,h2,h3,h4⟩:=iu (nm := "fenestra/width.marks") (d:=Rows.laid_fenestra_width_marks) hl (by simp [cD])
 obtain rfl:=bi (Fa.symm.trans h1)
 obtain rfl:=bi ((show (Tryz.prog.globals[0]?).map (·.type)=some 103 by kernel_rfl).symm.trans h2)
 have h5:=kN (l:=ja) (uB) (yp) ⟨rfl,rfl⟩ ⟨rfl,rfl⟩ (CV) (by kernel_rfl) (by kernel_rfl) (by kernel_rfl) h4
 exact tD Fa h3 h5
theorem CS {W:World} (h:laidMetH Tryz.prog cD W):jO W:=by
 rw [MakeChecks.laidMetH_plain _ _ _ (by kernel_rfl)] at h
 obtain⟨ps,hl,_⟩:=h
 obtain⟨g,t,cs,fuel,p,h1,h2,h3,h4⟩:=iu (nm := "fenestra/width.wides") (d:=Rows.laid_fenestra_width_wides) hl (by simp [cD])
 obtain rfl:=bi (E7.symm.trans h1)
 obtain rfl:=bi ((show (Tryz.prog.globals[1]?).map (·.type)=some 105 by kernel_rfl).symm.trans h2)
 have h5:=kN (l:=kl) (yo) (yp) ⟨rfl,rfl⟩ ⟨rfl,rfl⟩ (CV) (by kernel_rfl) (by kernel_rfl) (by kernel_rfl) h4
 exact tD E7 h3 h5
theorem B4 {W:World} (h:laidMetH Tryz.prog cD W):fS W:=⟨DI h,CS h,yS h,yW h⟩
theorem BF:laidOutB Tryz.prog=true:=by kernel_rfl
end Go.Proofs.YthdbijpefkapnaaGreatDoor
