/- YthdbijpefkapnaaGreatDoorWalk10. Texts of the proof of a law about texts: a layer of abstract values above the worlds, the types, the walks of the functions that the law reaches, the law and its card. Own work of an AI agent. -/
import Derived.Test.YthdbijpefkapnaaGreatDoorWalk9
import Derived.Test.YthdbijpefkapnaaGreatDoorCore3
import Derived.Test.YthdbijpefkapnaaGreatDoorWalk8
set_option linter.all false
set_option maxHeartbeats 40000000
open And renaming intro → cD
open Bool renaming false_eq_true → du, or_eq_false_iff → cy, or_eq_true → fc
open Go.IntKind renaming i64 → ar, u8 → bo
open Go.IntWalk renaming i64_in → ay, u8_in → eo
open Go.Lib renaming decDigits → yg, hid → au
open List renaming append_assoc → ai, append_nil → aP, cons_append → al, foldl_cons → h_, getElem?_eq_getElem → aC, length_append → ab, length_cons → ah, length_eq_zero_iff → ib, length_nil → aj, map_append → co, mem_cons_of_mem → ia, mem_of_getElem? → aI, nil_append → ap, take_add_one → pI, take_of_length_le → dW, take_zero → ao
open Nat renaming mod_lt → fa, strongRecOn → Hw, zero_add → dw, zero_le → bI
open UInt8 renaming toNat → aV
namespace Go.Proofs.YthdbijpefkapnaaGreatDoor
open Go Go.Fen
attribute [local irreducible] ba WP az dI ie cU aR cw
set_option maxRecDepth 8000
theorem hY {b:Nat} (h:32≤b∧b<127):((b:Int)==24)=false∧((b:Int)==26)=false∧((b:Int)==27)=false∧decide ((128:Int)≤(b:Int))=false∧decide ((b:Int)<32)=false∧((b:Int) != 127)=true:=by
 simp only [beq_eq_false_iff_ne,decide_eq_false_iff_not,bne_iff_ne]
 omega
theorem Fj (w0:World) (X:List aH) (p:Ps) (l:List Ev) (b:Nat) (hl:l.length≤1000000) (hp:gq p) (hb:b<256) (hn:dY p b) (hs:p.st=0) (hc:32≤b∧b<127) (R:Rt) (h:R (.ret (.tup [])) (aY X (eX p b).1 (l++(eX p b).2))):az Tryz.prog w0 82 [.own X.length 0,.int .u8 b] (aY X p l) R:=by
 have c1:=iM hn
 obtain⟨f1,f2,f3,f4,f5,f6⟩:=hY hc
 have k0:=Fz w0 X p l b hl hb
 have hw:=oY w0
 unfold rI at hw
 unfold eX at h
 have z:((0:Nat):Int)=0:=rfl
 clear hl hp hb hn hc
 obtain⟨s0,utf,pv,fn,pars,inter,text,bad⟩:=p
 simp only at hs c1
 subst hs
 simp only at h
 have H:=au h
 clear h
 simp only [aY,dV,dZ,z] at k0
 simp only [z] at c1
 rcases c1 with⟨_,c9,_⟩ | c8
 rotate_left
 ·cases c8
 refine eN Tryz.func82 rfl Tryz.ntmps82 fun hO=>?_
 have HO:=au hO
 clear hO
 simp only [aY,dV,dZ,z]
 repeat' ((fail_if_success (apply bA 20));first | refine st ?_ | (refine br ?_ ?_<;>intro hb) | fail)
 refine eR (n:=10) mixed rfl ?_
 refine lU [(135,.agg [.fn (.func 216) [] [],.fn (.func 217) [] [],.fn (.func 218) [] [],.fn (.func 219) [] [],.fn (.func 220) [] [],.fn (.func 221) [] [],.fnil,.fnil,.fn (.func 219) [] [],.fn (.func 220) [] [],.fn (.func 221) [] [],.fnil,.fnil,.fnil,.fnil]),(136,(.own X.length 0)),(137,(.own X.length 0)),(138,(.own X.length 0)),(139,(.own X.length 0)),(140,.int .i64 0),(141,.fn (.func 216) [] []),(142,(.own X.length 0)),(143,.int .u8 b)] rfl rfl rfl (by decide +kernel) (by decide +kernel) ⟨?s0, ?s1, ?s2, ?s3, ?s4, ?s5, ?s6, ?s7, ?s8,trivial⟩ ?z
 case s0 | s1 | s7 | s8 =>
  intro env hd
  have q0:=hd.2 0 rfl
  have q1:=hd.2 1 rfl
  simp only [go_sem, *] at q0 q1
  clear hd
  repeat' first | refine st ?_ | (refine ca ?_;apply hw) | (refine br ?_ ?_<;>intro hb) | refine sd ?_ | apply aE | (apply aO;(· decide +kernel)) | refine bd ?_ ?_ | (refine cd ?_;apply hw) | fail
  first | exact⟨trivial,trivial⟩ | exact⟨rfl,rfl⟩
 case s2 =>
  intro env hd
  have q0:=hd.2 0 rfl
  have q1:=hd.2 1 rfl
  simp only [go_sem, *] at q0 q1
  have r1:=hd.1 1 (by decide +kernel) _ _ rfl
  clear hd
  repeat' first | refine st ?_ | (refine ca ?_;apply hw) | (refine br ?_ ?_<;>intro hb) | refine sd ?_ | apply aE | (apply aO;(· decide +kernel)) | refine bd ?_ ?_ | (refine cd ?_;apply hw) | fail
  first | exact⟨trivial,trivial⟩ | exact⟨rfl,rfl⟩
 case s3 =>
  intro env hd
  have q0:=hd.2 0 rfl
  have q1:=hd.2 1 rfl
  simp only [go_sem, *] at q0 q1
  have r2:=hd.1 2 (by decide +kernel) _ _ rfl
  clear hd
  repeat' first | refine st ?_ | (refine ca ?_;apply hw) | (refine br ?_ ?_<;>intro hb) | refine sd ?_ | apply aE | (apply aO;(· decide +kernel)) | refine bd ?_ ?_ | (refine cd ?_;apply hw) | fail
  first | exact⟨trivial,trivial⟩ | exact⟨rfl,rfl⟩
 case s4 =>
  intro env hd
  have q0:=hd.2 0 rfl
  have q1:=hd.2 1 rfl
  simp only [go_sem, *] at q0 q1
  have r3:=hd.1 3 (by decide +kernel) _ _ rfl
  clear hd
  repeat' first | refine st ?_ | (refine ca ?_;apply hw) | (refine br ?_ ?_<;>intro hb) | refine sd ?_ | apply aE | (apply aO;(· decide +kernel)) | refine bd ?_ ?_ | (refine cd ?_;apply hw) | fail
  first | exact⟨trivial,trivial⟩ | exact⟨rfl,rfl⟩
 case s5 =>
  intro env hd
  have q0:=hd.2 0 rfl
  have q1:=hd.2 1 rfl
  simp only [go_sem, *] at q0 q1
  have r4:=hd.1 4 (by decide +kernel) _ _ rfl
  clear hd
  repeat' first | refine st ?_ | (refine ca ?_;apply hw) | (refine br ?_ ?_<;>intro hb) | refine sd ?_ | apply aE | (apply aO;(· decide +kernel)) | refine bd ?_ ?_ | (refine cd ?_;apply hw) | fail
  first | exact⟨trivial,trivial⟩ | exact⟨rfl,rfl⟩
 case s6 =>
  intro env hd
  have q0:=hd.2 0 rfl
  have q1:=hd.2 1 rfl
  simp only [go_sem, *] at q0 q1
  have r0:=hd.1 0 (by decide +kernel) _ _ rfl
  have r5:=hd.1 5 (by decide +kernel) _ _ rfl
  clear hd
  repeat' first | refine st ?_ | (refine ca ?_;apply hw) | (refine br ?_ ?_<;>intro hb) | refine sd ?_ | apply aE | (apply aO;(· decide +kernel)) | refine bd ?_ ?_ | (refine cd ?_;apply hw) | fail
  first | exact⟨trivial,trivial⟩ | exact⟨rfl,rfl⟩
 case z =>
  intro env hs hk
  have r6:=hs 6 _ _ rfl
  have r7:=hs 7 _ _ rfl
  have r8:=hs 8 _ _ rfl
  have q5:=hk 1000000 rfl
  clear hs hk
  simp only [go_sem] at q5
  repeat' first | refine st ?_ | (refine ca ?_;apply k0) | (refine br ?_ ?_<;>intro hb) | refine sd ?_ | apply aE | (apply aO;(· decide +kernel)) | refine bd ?_ ?_ | (refine cd ?_;apply k0) | fail
  (apply cJ HO.out H.out;(· simp);(· (simp only [go_sem, *];try rfl));(· (simp only [go_sem, *];try rfl));(· (simp only [go_sem, *,Tryz.results82];try rfl)))
theorem Fi (w0:World) (X:List aH) (p:Ps) (l:List Ev) (b:Nat) (hl:l.length≤1000000) (hp:gq p) (hb:b<256) (hn:dY p b) (hs:p.st=1) (hc:32≤b∧b<127) (R:Rt) (h:R (.ret (.tup [])) (aY X (eX p b).1 (l++(eX p b).2))):az Tryz.prog w0 82 [.own X.length 0,.int .u8 b] (aY X p l) R:=by
 have c1:=iM hn
 obtain⟨f1,f2,f3,f4,f5,f6⟩:=hY hc
 have k0:=FF w0 X p l b hl hp hb
 have hw:=oY w0
 unfold rI at hw
 unfold eX at h
 have z:((1:Nat):Int)=1:=rfl
 clear hl hp hb hn hc
 obtain⟨s0,utf,pv,fn,pars,inter,text,bad⟩:=p
 simp only at hs c1
 subst hs
 simp only at h
 have H:=au h
 clear h
 simp only [aY,dV,dZ,z] at k0
 simp only [z] at c1
 clear c1
 refine eN Tryz.func82 rfl Tryz.ntmps82 fun hO=>?_
 have HO:=au hO
 clear hO
 simp only [aY,dV,dZ,z]
 repeat' ((fail_if_success (apply bA 20));first | refine st ?_ | (refine br ?_ ?_<;>intro hb) | fail)
 refine eR (n:=10) mixed rfl ?_
 refine lU [(135,.agg [.fn (.func 216) [] [],.fn (.func 217) [] [],.fn (.func 218) [] [],.fn (.func 219) [] [],.fn (.func 220) [] [],.fn (.func 221) [] [],.fnil,.fnil,.fn (.func 219) [] [],.fn (.func 220) [] [],.fn (.func 221) [] [],.fnil,.fnil,.fnil,.fnil]),(136,(.own X.length 0)),(137,(.own X.length 0)),(138,(.own X.length 0)),(139,(.own X.length 0)),(140,.int .i64 1),(141,.fn (.func 217) [] []),(142,(.own X.length 0)),(143,.int .u8 b)] rfl rfl rfl (by decide +kernel) (by decide +kernel) ⟨?s0, ?s1, ?s2, ?s3, ?s4, ?s5, ?s6, ?s7, ?s8,trivial⟩ ?z
 case s0 | s1 | s7 | s8 =>
  intro env hd
  have q0:=hd.2 0 rfl
  have q1:=hd.2 1 rfl
  simp only [go_sem, *] at q0 q1
  clear hd
  repeat' first | refine st ?_ | (refine ca ?_;apply hw) | (refine br ?_ ?_<;>intro hb) | refine sd ?_ | apply aE | (apply aO;(· decide +kernel)) | refine bd ?_ ?_ | (refine cd ?_;apply hw) | fail
  first | exact⟨trivial,trivial⟩ | exact⟨rfl,rfl⟩
 case s2 =>
  intro env hd
  have q0:=hd.2 0 rfl
  have q1:=hd.2 1 rfl
  simp only [go_sem, *] at q0 q1
  have r1:=hd.1 1 (by decide +kernel) _ _ rfl
  clear hd
  repeat' first | refine st ?_ | (refine ca ?_;apply hw) | (refine br ?_ ?_<;>intro hb) | refine sd ?_ | apply aE | (apply aO;(· decide +kernel)) | refine bd ?_ ?_ | (refine cd ?_;apply hw) | fail
  first | exact⟨trivial,trivial⟩ | exact⟨rfl,rfl⟩
 case s3 =>
  intro env hd
  have q0:=hd.2 0 rfl
  have q1:=hd.2 1 rfl
  simp only [go_sem, *] at q0 q1
  have r2:=hd.1 2 (by decide +kernel) _ _ rfl
  clear hd
  repeat' first | refine st ?_ | (refine ca ?_;apply hw) | (refine br ?_ ?_<;>intro hb) | refine sd ?_ | apply aE | (apply aO;(· decide +kernel)) | refine bd ?_ ?_ | (refine cd ?_;apply hw) | fail
  first | exact⟨trivial,trivial⟩ | exact⟨rfl,rfl⟩
 case s4 =>
  intro env hd
  have q0:=hd.2 0 rfl
  have q1:=hd.2 1 rfl
  simp only [go_sem, *] at q0 q1
  have r3:=hd.1 3 (by decide +kernel) _ _ rfl
  clear hd
  repeat' first | refine st ?_ | (refine ca ?_;apply hw) | (refine br ?_ ?_<;>intro hb) | refine sd ?_ | apply aE | (apply aO;(· decide +kernel)) | refine bd ?_ ?_ | (refine cd ?_;apply hw) | fail
  first | exact⟨trivial,trivial⟩ | exact⟨rfl,rfl⟩
 case s5 =>
  intro env hd
  have q0:=hd.2 0 rfl
  have q1:=hd.2 1 rfl
  simp only [go_sem, *] at q0 q1
  have r4:=hd.1 4 (by decide +kernel) _ _ rfl
  clear hd
  repeat' first | refine st ?_ | (refine ca ?_;apply hw) | (refine br ?_ ?_<;>intro hb) | refine sd ?_ | apply aE | (apply aO;(· decide +kernel)) | refine bd ?_ ?_ | (refine cd ?_;apply hw) | fail
  first | exact⟨trivial,trivial⟩ | exact⟨rfl,rfl⟩
 case s6 =>
  intro env hd
  have q0:=hd.2 0 rfl
  have q1:=hd.2 1 rfl
  simp only [go_sem, *] at q0 q1
  have r0:=hd.1 0 (by decide +kernel) _ _ rfl
  have r5:=hd.1 5 (by decide +kernel) _ _ rfl
  clear hd
  repeat' first | refine st ?_ | (refine ca ?_;apply hw) | (refine br ?_ ?_<;>intro hb) | refine sd ?_ | apply aE | (apply aO;(· decide +kernel)) | refine bd ?_ ?_ | (refine cd ?_;apply hw) | fail
  first | exact⟨trivial,trivial⟩ | exact⟨rfl,rfl⟩
 case z =>
  intro env hs hk
  have r6:=hs 6 _ _ rfl
  have r7:=hs 7 _ _ rfl
  have r8:=hs 8 _ _ rfl
  have q5:=hk 1000000 rfl
  clear hs hk
  simp only [go_sem] at q5
  repeat' first | refine st ?_ | (refine ca ?_;apply k0) | (refine br ?_ ?_<;>intro hb) | refine sd ?_ | apply aE | (apply aO;(· decide +kernel)) | refine bd ?_ ?_ | (refine cd ?_;apply k0) | fail
  (apply cJ HO.out H.out;(· simp);(· (simp only [go_sem, *];try rfl));(· (simp only [go_sem, *];try rfl));(· (simp only [go_sem, *,Tryz.results82];try rfl)))
theorem Fh (w0:World) (X:List aH) (p:Ps) (l:List Ev) (b:Nat) (hl:l.length≤1000000) (hp:gq p) (hb:b<256) (hn:dY p b) (hs:p.st=2) (hc:32≤b∧b<127) (R:Rt) (h:R (.ret (.tup [])) (aY X (eX p b).1 (l++(eX p b).2))):az Tryz.prog w0 82 [.own X.length 0,.int .u8 b] (aY X p l) R:=by
 have c1:=iM hn
 obtain⟨f1,f2,f3,f4,f5,f6⟩:=hY hc
 have k0:=I7 w0 X p l b hl hp hb
 have hw:=oY w0
 unfold rI at hw
 unfold eX at h
 have z:((2:Nat):Int)=2:=rfl
 clear hl hp hb hn hc
 obtain⟨s0,utf,pv,fn,pars,inter,text,bad⟩:=p
 simp only at hs c1
 subst hs
 simp only at h
 have H:=au h
 clear h
 simp only [aY,dV,dZ,z] at k0
 simp only [z] at c1
 clear c1
 refine eN Tryz.func82 rfl Tryz.ntmps82 fun hO=>?_
 have HO:=au hO
 clear hO
 simp only [aY,dV,dZ,z]
 repeat' ((fail_if_success (apply bA 20));first | refine st ?_ | (refine br ?_ ?_<;>intro hb) | fail)
 refine eR (n:=10) mixed rfl ?_
 refine lU [(135,.agg [.fn (.func 216) [] [],.fn (.func 217) [] [],.fn (.func 218) [] [],.fn (.func 219) [] [],.fn (.func 220) [] [],.fn (.func 221) [] [],.fnil,.fnil,.fn (.func 219) [] [],.fn (.func 220) [] [],.fn (.func 221) [] [],.fnil,.fnil,.fnil,.fnil]),(136,(.own X.length 0)),(137,(.own X.length 0)),(138,(.own X.length 0)),(139,(.own X.length 0)),(140,.int .i64 2),(141,.fn (.func 218) [] []),(142,(.own X.length 0)),(143,.int .u8 b)] rfl rfl rfl (by decide +kernel) (by decide +kernel) ⟨?s0, ?s1, ?s2, ?s3, ?s4, ?s5, ?s6, ?s7, ?s8,trivial⟩ ?z
 case s0 | s1 | s7 | s8 =>
  intro env hd
  have q0:=hd.2 0 rfl
  have q1:=hd.2 1 rfl
  simp only [go_sem, *] at q0 q1
  clear hd
  repeat' first | refine st ?_ | (refine ca ?_;apply hw) | (refine br ?_ ?_<;>intro hb) | refine sd ?_ | apply aE | (apply aO;(· decide +kernel)) | refine bd ?_ ?_ | (refine cd ?_;apply hw) | fail
  first | exact⟨trivial,trivial⟩ | exact⟨rfl,rfl⟩
 case s2 =>
  intro env hd
  have q0:=hd.2 0 rfl
  have q1:=hd.2 1 rfl
  simp only [go_sem, *] at q0 q1
  have r1:=hd.1 1 (by decide +kernel) _ _ rfl
  clear hd
  repeat' first | refine st ?_ | (refine ca ?_;apply hw) | (refine br ?_ ?_<;>intro hb) | refine sd ?_ | apply aE | (apply aO;(· decide +kernel)) | refine bd ?_ ?_ | (refine cd ?_;apply hw) | fail
  first | exact⟨trivial,trivial⟩ | exact⟨rfl,rfl⟩
 case s3 =>
  intro env hd
  have q0:=hd.2 0 rfl
  have q1:=hd.2 1 rfl
  simp only [go_sem, *] at q0 q1
  have r2:=hd.1 2 (by decide +kernel) _ _ rfl
  clear hd
  repeat' first | refine st ?_ | (refine ca ?_;apply hw) | (refine br ?_ ?_<;>intro hb) | refine sd ?_ | apply aE | (apply aO;(· decide +kernel)) | refine bd ?_ ?_ | (refine cd ?_;apply hw) | fail
  first | exact⟨trivial,trivial⟩ | exact⟨rfl,rfl⟩
 case s4 =>
  intro env hd
  have q0:=hd.2 0 rfl
  have q1:=hd.2 1 rfl
  simp only [go_sem, *] at q0 q1
  have r3:=hd.1 3 (by decide +kernel) _ _ rfl
  clear hd
  repeat' first | refine st ?_ | (refine ca ?_;apply hw) | (refine br ?_ ?_<;>intro hb) | refine sd ?_ | apply aE | (apply aO;(· decide +kernel)) | refine bd ?_ ?_ | (refine cd ?_;apply hw) | fail
  first | exact⟨trivial,trivial⟩ | exact⟨rfl,rfl⟩
 case s5 =>
  intro env hd
  have q0:=hd.2 0 rfl
  have q1:=hd.2 1 rfl
  simp only [go_sem, *] at q0 q1
  have r4:=hd.1 4 (by decide +kernel) _ _ rfl
  clear hd
  repeat' first | refine st ?_ | (refine ca ?_;apply hw) | (refine br ?_ ?_<;>intro hb) | refine sd ?_ | apply aE | (apply aO;(· decide +kernel)) | refine bd ?_ ?_ | (refine cd ?_;apply hw) | fail
  first | exact⟨trivial,trivial⟩ | exact⟨rfl,rfl⟩
 case s6 =>
  intro env hd
  have q0:=hd.2 0 rfl
  have q1:=hd.2 1 rfl
  simp only [go_sem, *] at q0 q1
  have r0:=hd.1 0 (by decide +kernel) _ _ rfl
  have r5:=hd.1 5 (by decide +kernel) _ _ rfl
  clear hd
  repeat' first | refine st ?_ | (refine ca ?_;apply hw) | (refine br ?_ ?_<;>intro hb) | refine sd ?_ | apply aE | (apply aO;(· decide +kernel)) | refine bd ?_ ?_ | (refine cd ?_;apply hw) | fail
  first | exact⟨trivial,trivial⟩ | exact⟨rfl,rfl⟩
 case z =>
  intro env hs hk
  have r6:=hs 6 _ _ rfl
  have r7:=hs 7 _ _ rfl
  have r8:=hs 8 _ _ rfl
  have q5:=hk 1000000 rfl
  clear hs hk
  simp only [go_sem] at q5
  repeat' first | refine st ?_ | (refine ca ?_;apply k0) | (refine br ?_ ?_<;>intro hb) | refine sd ?_ | apply aE | (apply aO;(· decide +kernel)) | refine bd ?_ ?_ | (refine cd ?_;apply k0) | fail
  (apply cJ HO.out H.out;(· simp);(· (simp only [go_sem, *];try rfl));(· (simp only [go_sem, *];try rfl));(· (simp only [go_sem, *,Tryz.results82];try rfl)))
theorem Fg (w0:World) (X:List aH) (p:Ps) (l:List Ev) (b:Nat) (hl:l.length≤1000000) (hp:gq p) (hb:b<256) (hn:dY p b) (hs:p.st=3) (hc:32≤b∧b<127) (R:Rt) (h:R (.ret (.tup [])) (aY X (eX p b).1 (l++(eX p b).2))):az Tryz.prog w0 82 [.own X.length 0,.int .u8 b] (aY X p l) R:=by
 have c1:=iM hn
 obtain⟨f1,f2,f3,f4,f5,f6⟩:=hY hc
 have k0:=Da w0 X p l b hl hp hb
 have hw:=oY w0
 unfold rI at hw
 unfold eX at h
 have z:((3:Nat):Int)=3:=rfl
 clear hl hp hb hn hc
 obtain⟨s0,utf,pv,fn,pars,inter,text,bad⟩:=p
 simp only at hs c1
 subst hs
 simp only at h
 have H:=au h
 clear h
 simp only [aY,dV,dZ,z] at k0
 simp only [z] at c1
 clear c1
 refine eN Tryz.func82 rfl Tryz.ntmps82 fun hO=>?_
 have HO:=au hO
 clear hO
 simp only [aY,dV,dZ,z]
 repeat' ((fail_if_success (apply bA 20));first | refine st ?_ | (refine br ?_ ?_<;>intro hb) | fail)
 refine eR (n:=10) mixed rfl ?_
 refine lU [(135,.agg [.fn (.func 216) [] [],.fn (.func 217) [] [],.fn (.func 218) [] [],.fn (.func 219) [] [],.fn (.func 220) [] [],.fn (.func 221) [] [],.fnil,.fnil,.fn (.func 219) [] [],.fn (.func 220) [] [],.fn (.func 221) [] [],.fnil,.fnil,.fnil,.fnil]),(136,(.own X.length 0)),(137,(.own X.length 0)),(138,(.own X.length 0)),(139,(.own X.length 0)),(140,.int .i64 3),(141,.fn (.func 219) [] []),(142,(.own X.length 0)),(143,.int .u8 b)] rfl rfl rfl (by decide +kernel) (by decide +kernel) ⟨?s0, ?s1, ?s2, ?s3, ?s4, ?s5, ?s6, ?s7, ?s8,trivial⟩ ?z
 case s0 | s1 | s7 | s8 =>
  intro env hd
  have q0:=hd.2 0 rfl
  have q1:=hd.2 1 rfl
  simp only [go_sem, *] at q0 q1
  clear hd
  repeat' first | refine st ?_ | (refine ca ?_;apply hw) | (refine br ?_ ?_<;>intro hb) | refine sd ?_ | apply aE | (apply aO;(· decide +kernel)) | refine bd ?_ ?_ | (refine cd ?_;apply hw) | fail
  first | exact⟨trivial,trivial⟩ | exact⟨rfl,rfl⟩
 case s2 =>
  intro env hd
  have q0:=hd.2 0 rfl
  have q1:=hd.2 1 rfl
  simp only [go_sem, *] at q0 q1
  have r1:=hd.1 1 (by decide +kernel) _ _ rfl
  clear hd
  repeat' first | refine st ?_ | (refine ca ?_;apply hw) | (refine br ?_ ?_<;>intro hb) | refine sd ?_ | apply aE | (apply aO;(· decide +kernel)) | refine bd ?_ ?_ | (refine cd ?_;apply hw) | fail
  first | exact⟨trivial,trivial⟩ | exact⟨rfl,rfl⟩
 case s3 =>
  intro env hd
  have q0:=hd.2 0 rfl
  have q1:=hd.2 1 rfl
  simp only [go_sem, *] at q0 q1
  have r2:=hd.1 2 (by decide +kernel) _ _ rfl
  clear hd
  repeat' first | refine st ?_ | (refine ca ?_;apply hw) | (refine br ?_ ?_<;>intro hb) | refine sd ?_ | apply aE | (apply aO;(· decide +kernel)) | refine bd ?_ ?_ | (refine cd ?_;apply hw) | fail
  first | exact⟨trivial,trivial⟩ | exact⟨rfl,rfl⟩
 case s4 =>
  intro env hd
  have q0:=hd.2 0 rfl
  have q1:=hd.2 1 rfl
  simp only [go_sem, *] at q0 q1
  have r3:=hd.1 3 (by decide +kernel) _ _ rfl
  clear hd
  repeat' first | refine st ?_ | (refine ca ?_;apply hw) | (refine br ?_ ?_<;>intro hb) | refine sd ?_ | apply aE | (apply aO;(· decide +kernel)) | refine bd ?_ ?_ | (refine cd ?_;apply hw) | fail
  first | exact⟨trivial,trivial⟩ | exact⟨rfl,rfl⟩
 case s5 =>
  intro env hd
  have q0:=hd.2 0 rfl
  have q1:=hd.2 1 rfl
  simp only [go_sem, *] at q0 q1
  have r4:=hd.1 4 (by decide +kernel) _ _ rfl
  clear hd
  repeat' first | refine st ?_ | (refine ca ?_;apply hw) | (refine br ?_ ?_<;>intro hb) | refine sd ?_ | apply aE | (apply aO;(· decide +kernel)) | refine bd ?_ ?_ | (refine cd ?_;apply hw) | fail
  first | exact⟨trivial,trivial⟩ | exact⟨rfl,rfl⟩
 case s6 =>
  intro env hd
  have q0:=hd.2 0 rfl
  have q1:=hd.2 1 rfl
  simp only [go_sem, *] at q0 q1
  have r0:=hd.1 0 (by decide +kernel) _ _ rfl
  have r5:=hd.1 5 (by decide +kernel) _ _ rfl
  clear hd
  repeat' first | refine st ?_ | (refine ca ?_;apply hw) | (refine br ?_ ?_<;>intro hb) | refine sd ?_ | apply aE | (apply aO;(· decide +kernel)) | refine bd ?_ ?_ | (refine cd ?_;apply hw) | fail
  first | exact⟨trivial,trivial⟩ | exact⟨rfl,rfl⟩
 case z =>
  intro env hs hk
  have r6:=hs 6 _ _ rfl
  have r7:=hs 7 _ _ rfl
  have r8:=hs 8 _ _ rfl
  have q5:=hk 1000000 rfl
  clear hs hk
  simp only [go_sem] at q5
  repeat' first | refine st ?_ | (refine ca ?_;apply k0) | (refine br ?_ ?_<;>intro hb) | refine sd ?_ | apply aE | (apply aO;(· decide +kernel)) | refine bd ?_ ?_ | (refine cd ?_;apply k0) | fail
  (apply cJ HO.out H.out;(· simp);(· (simp only [go_sem, *];try rfl));(· (simp only [go_sem, *];try rfl));(· (simp only [go_sem, *,Tryz.results82];try rfl)))
theorem Ff (w0:World) (X:List aH) (p:Ps) (l:List Ev) (b:Nat) (hl:l.length≤1000000) (hp:gq p) (hb:b<256) (hn:dY p b) (hs:p.st=4) (hc:32≤b∧b<127) (R:Rt) (h:R (.ret (.tup [])) (aY X (eX p b).1 (l++(eX p b).2))):az Tryz.prog w0 82 [.own X.length 0,.int .u8 b] (aY X p l) R:=by
 have c1:=iM hn
 obtain⟨f1,f2,f3,f4,f5,f6⟩:=hY hc
 have k0:=z6 w0 X p l b hl hp hb
 have hw:=oY w0
 unfold rI at hw
 unfold eX at h
 have z:((4:Nat):Int)=4:=rfl
 clear hl hp hb hn hc
 obtain⟨s0,utf,pv,fn,pars,inter,text,bad⟩:=p
 simp only at hs c1
 subst hs
 simp only at h
 have H:=au h
 clear h
 simp only [aY,dV,dZ,z] at k0
 simp only [z] at c1
 clear c1
 refine eN Tryz.func82 rfl Tryz.ntmps82 fun hO=>?_
 have HO:=au hO
 clear hO
 simp only [aY,dV,dZ,z]
 repeat' ((fail_if_success (apply bA 20));first | refine st ?_ | (refine br ?_ ?_<;>intro hb) | fail)
 refine eR (n:=10) mixed rfl ?_
 refine lU [(135,.agg [.fn (.func 216) [] [],.fn (.func 217) [] [],.fn (.func 218) [] [],.fn (.func 219) [] [],.fn (.func 220) [] [],.fn (.func 221) [] [],.fnil,.fnil,.fn (.func 219) [] [],.fn (.func 220) [] [],.fn (.func 221) [] [],.fnil,.fnil,.fnil,.fnil]),(136,(.own X.length 0)),(137,(.own X.length 0)),(138,(.own X.length 0)),(139,(.own X.length 0)),(140,.int .i64 4),(141,.fn (.func 220) [] []),(142,(.own X.length 0)),(143,.int .u8 b)] rfl rfl rfl (by decide +kernel) (by decide +kernel) ⟨?s0, ?s1, ?s2, ?s3, ?s4, ?s5, ?s6, ?s7, ?s8,trivial⟩ ?z
 case s0 | s1 | s7 | s8 =>
  intro env hd
  have q0:=hd.2 0 rfl
  have q1:=hd.2 1 rfl
  simp only [go_sem, *] at q0 q1
  clear hd
  repeat' first | refine st ?_ | (refine ca ?_;apply hw) | (refine br ?_ ?_<;>intro hb) | refine sd ?_ | apply aE | (apply aO;(· decide +kernel)) | refine bd ?_ ?_ | (refine cd ?_;apply hw) | fail
  first | exact⟨trivial,trivial⟩ | exact⟨rfl,rfl⟩
 case s2 =>
  intro env hd
  have q0:=hd.2 0 rfl
  have q1:=hd.2 1 rfl
  simp only [go_sem, *] at q0 q1
  have r1:=hd.1 1 (by decide +kernel) _ _ rfl
  clear hd
  repeat' first | refine st ?_ | (refine ca ?_;apply hw) | (refine br ?_ ?_<;>intro hb) | refine sd ?_ | apply aE | (apply aO;(· decide +kernel)) | refine bd ?_ ?_ | (refine cd ?_;apply hw) | fail
  first | exact⟨trivial,trivial⟩ | exact⟨rfl,rfl⟩
 case s3 =>
  intro env hd
  have q0:=hd.2 0 rfl
  have q1:=hd.2 1 rfl
  simp only [go_sem, *] at q0 q1
  have r2:=hd.1 2 (by decide +kernel) _ _ rfl
  clear hd
  repeat' first | refine st ?_ | (refine ca ?_;apply hw) | (refine br ?_ ?_<;>intro hb) | refine sd ?_ | apply aE | (apply aO;(· decide +kernel)) | refine bd ?_ ?_ | (refine cd ?_;apply hw) | fail
  first | exact⟨trivial,trivial⟩ | exact⟨rfl,rfl⟩
 case s4 =>
  intro env hd
  have q0:=hd.2 0 rfl
  have q1:=hd.2 1 rfl
  simp only [go_sem, *] at q0 q1
  have r3:=hd.1 3 (by decide +kernel) _ _ rfl
  clear hd
  repeat' first | refine st ?_ | (refine ca ?_;apply hw) | (refine br ?_ ?_<;>intro hb) | refine sd ?_ | apply aE | (apply aO;(· decide +kernel)) | refine bd ?_ ?_ | (refine cd ?_;apply hw) | fail
  first | exact⟨trivial,trivial⟩ | exact⟨rfl,rfl⟩
 case s5 =>
  intro env hd
  have q0:=hd.2 0 rfl
  have q1:=hd.2 1 rfl
  simp only [go_sem, *] at q0 q1
  have r4:=hd.1 4 (by decide +kernel) _ _ rfl
  clear hd
  repeat' first | refine st ?_ | (refine ca ?_;apply hw) | (refine br ?_ ?_<;>intro hb) | refine sd ?_ | apply aE | (apply aO;(· decide +kernel)) | refine bd ?_ ?_ | (refine cd ?_;apply hw) | fail
  first | exact⟨trivial,trivial⟩ | exact⟨rfl,rfl⟩
 case s6 =>
  intro env hd
  have q0:=hd.2 0 rfl
  have q1:=hd.2 1 rfl
  simp only [go_sem, *] at q0 q1
  have r0:=hd.1 0 (by decide +kernel) _ _ rfl
  have r5:=hd.1 5 (by decide +kernel) _ _ rfl
  clear hd
  repeat' first | refine st ?_ | (refine ca ?_;apply hw) | (refine br ?_ ?_<;>intro hb) | refine sd ?_ | apply aE | (apply aO;(· decide +kernel)) | refine bd ?_ ?_ | (refine cd ?_;apply hw) | fail
  first | exact⟨trivial,trivial⟩ | exact⟨rfl,rfl⟩
 case z =>
  intro env hs hk
  have r6:=hs 6 _ _ rfl
  have r7:=hs 7 _ _ rfl
  have r8:=hs 8 _ _ rfl
  have q5:=hk 1000000 rfl
  clear hs hk
  simp only [go_sem] at q5
  repeat' first | refine st ?_ | (refine ca ?_;apply k0) | (refine br ?_ ?_<;>intro hb) | refine sd ?_ | apply aE | (apply aO;(· decide +kernel)) | refine bd ?_ ?_ | (refine cd ?_;apply k0) | fail
  (apply cJ HO.out H.out;(· simp);(· (simp only [go_sem, *];try rfl));(· (simp only [go_sem, *];try rfl));(· (simp only [go_sem, *,Tryz.results82];try rfl)))
theorem Fe (w0:World) (X:List aH) (p:Ps) (l:List Ev) (b:Nat) (hl:l.length≤1000000) (hp:gq p) (hb:b<256) (hn:dY p b) (hs:p.st=5) (hc:32≤b∧b<127) (R:Rt) (h:R (.ret (.tup [])) (aY X (eX p b).1 (l++(eX p b).2))):az Tryz.prog w0 82 [.own X.length 0,.int .u8 b] (aY X p l) R:=by
 have c1:=iM hn
 obtain⟨f1,f2,f3,f4,f5,f6⟩:=hY hc
 have k0:=z7 w0 X p l b hl hp hb
 have hw:=oY w0
 unfold rI at hw
 unfold eX at h
 have z:((5:Nat):Int)=5:=rfl
 clear hl hp hb hn hc
 obtain⟨s0,utf,pv,fn,pars,inter,text,bad⟩:=p
 simp only at hs c1
 subst hs
 simp only at h
 have H:=au h
 clear h
 simp only [aY,dV,dZ,z] at k0
 simp only [z] at c1
 clear c1
 refine eN Tryz.func82 rfl Tryz.ntmps82 fun hO=>?_
 have HO:=au hO
 clear hO
 simp only [aY,dV,dZ,z]
 repeat' ((fail_if_success (apply bA 20));first | refine st ?_ | (refine br ?_ ?_<;>intro hb) | fail)
 refine eR (n:=10) mixed rfl ?_
 refine lU [(135,.agg [.fn (.func 216) [] [],.fn (.func 217) [] [],.fn (.func 218) [] [],.fn (.func 219) [] [],.fn (.func 220) [] [],.fn (.func 221) [] [],.fnil,.fnil,.fn (.func 219) [] [],.fn (.func 220) [] [],.fn (.func 221) [] [],.fnil,.fnil,.fnil,.fnil]),(136,(.own X.length 0)),(137,(.own X.length 0)),(138,(.own X.length 0)),(139,(.own X.length 0)),(140,.int .i64 5),(141,.fn (.func 221) [] []),(142,(.own X.length 0)),(143,.int .u8 b)] rfl rfl rfl (by decide +kernel) (by decide +kernel) ⟨?s0, ?s1, ?s2, ?s3, ?s4, ?s5, ?s6, ?s7, ?s8,trivial⟩ ?z
 case s0 | s1 | s7 | s8 =>
  intro env hd
  have q0:=hd.2 0 rfl
  have q1:=hd.2 1 rfl
  simp only [go_sem, *] at q0 q1
  clear hd
  repeat' first | refine st ?_ | (refine ca ?_;apply hw) | (refine br ?_ ?_<;>intro hb) | refine sd ?_ | apply aE | (apply aO;(· decide +kernel)) | refine bd ?_ ?_ | (refine cd ?_;apply hw) | fail
  first | exact⟨trivial,trivial⟩ | exact⟨rfl,rfl⟩
 case s2 =>
  intro env hd
  have q0:=hd.2 0 rfl
  have q1:=hd.2 1 rfl
  simp only [go_sem, *] at q0 q1
  have r1:=hd.1 1 (by decide +kernel) _ _ rfl
  clear hd
  repeat' first | refine st ?_ | (refine ca ?_;apply hw) | (refine br ?_ ?_<;>intro hb) | refine sd ?_ | apply aE | (apply aO;(· decide +kernel)) | refine bd ?_ ?_ | (refine cd ?_;apply hw) | fail
  first | exact⟨trivial,trivial⟩ | exact⟨rfl,rfl⟩
 case s3 =>
  intro env hd
  have q0:=hd.2 0 rfl
  have q1:=hd.2 1 rfl
  simp only [go_sem, *] at q0 q1
  have r2:=hd.1 2 (by decide +kernel) _ _ rfl
  clear hd
  repeat' first | refine st ?_ | (refine ca ?_;apply hw) | (refine br ?_ ?_<;>intro hb) | refine sd ?_ | apply aE | (apply aO;(· decide +kernel)) | refine bd ?_ ?_ | (refine cd ?_;apply hw) | fail
  first | exact⟨trivial,trivial⟩ | exact⟨rfl,rfl⟩
 case s4 =>
  intro env hd
  have q0:=hd.2 0 rfl
  have q1:=hd.2 1 rfl
  simp only [go_sem, *] at q0 q1
  have r3:=hd.1 3 (by decide +kernel) _ _ rfl
  clear hd
  repeat' first | refine st ?_ | (refine ca ?_;apply hw) | (refine br ?_ ?_<;>intro hb) | refine sd ?_ | apply aE | (apply aO;(· decide +kernel)) | refine bd ?_ ?_ | (refine cd ?_;apply hw) | fail
  first | exact⟨trivial,trivial⟩ | exact⟨rfl,rfl⟩
 case s5 =>
  intro env hd
  have q0:=hd.2 0 rfl
  have q1:=hd.2 1 rfl
  simp only [go_sem, *] at q0 q1
  have r4:=hd.1 4 (by decide +kernel) _ _ rfl
  clear hd
  repeat' first | refine st ?_ | (refine ca ?_;apply hw) | (refine br ?_ ?_<;>intro hb) | refine sd ?_ | apply aE | (apply aO;(· decide +kernel)) | refine bd ?_ ?_ | (refine cd ?_;apply hw) | fail
  first | exact⟨trivial,trivial⟩ | exact⟨rfl,rfl⟩
 case s6 =>
  intro env hd
  have q0:=hd.2 0 rfl
  have q1:=hd.2 1 rfl
  simp only [go_sem, *] at q0 q1
  have r0:=hd.1 0 (by decide +kernel) _ _ rfl
  have r5:=hd.1 5 (by decide +kernel) _ _ rfl
  clear hd
  repeat' first | refine st ?_ | (refine ca ?_;apply hw) | (refine br ?_ ?_<;>intro hb) | refine sd ?_ | apply aE | (apply aO;(· decide +kernel)) | refine bd ?_ ?_ | (refine cd ?_;apply hw) | fail
  first | exact⟨trivial,trivial⟩ | exact⟨rfl,rfl⟩
 case z =>
  intro env hs hk
  have r6:=hs 6 _ _ rfl
  have r7:=hs 7 _ _ rfl
  have r8:=hs 8 _ _ rfl
  have q5:=hk 1000000 rfl
  clear hs hk
  simp only [go_sem] at q5
  repeat' first | refine st ?_ | (refine ca ?_;apply k0) | (refine br ?_ ?_<;>intro hb) | refine sd ?_ | apply aE | (apply aO;(· decide +kernel)) | refine bd ?_ ?_ | (refine cd ?_;apply k0) | fail
  (apply cJ HO.out H.out;(· simp);(· (simp only [go_sem, *];try rfl));(· (simp only [go_sem, *];try rfl));(· (simp only [go_sem, *,Tryz.results82];try rfl)))
theorem Fc (w0:World) (X:List aH) (p:Ps) (l:List Ev) (b:Nat) (hl:l.length≤1000000) (hp:gq p) (hb:b<256) (hn:dY p b) (hs:p.st=8) (hc:32≤b∧b<127) (R:Rt) (h:R (.ret (.tup [])) (aY X (eX p b).1 (l++(eX p b).2))):az Tryz.prog w0 82 [.own X.length 0,.int .u8 b] (aY X p l) R:=by
 have c1:=iM hn
 obtain⟨f1,f2,f3,f4,f5,f6⟩:=hY hc
 have k0:=Da w0 X p l b hl hp hb
 have hw:=oY w0
 unfold rI at hw
 unfold eX at h
 have z:((8:Nat):Int)=8:=rfl
 clear hl hp hb hn hc
 obtain⟨s0,utf,pv,fn,pars,inter,text,bad⟩:=p
 simp only at hs c1
 subst hs
 simp only at h
 have H:=au h
 clear h
 simp only [aY,dV,dZ,z] at k0
 simp only [z] at c1
 clear c1
 refine eN Tryz.func82 rfl Tryz.ntmps82 fun hO=>?_
 have HO:=au hO
 clear hO
 simp only [aY,dV,dZ,z]
 repeat' ((fail_if_success (apply bA 20));first | refine st ?_ | (refine br ?_ ?_<;>intro hb) | fail)
 refine eR (n:=10) mixed rfl ?_
 refine lU [(135,.agg [.fn (.func 216) [] [],.fn (.func 217) [] [],.fn (.func 218) [] [],.fn (.func 219) [] [],.fn (.func 220) [] [],.fn (.func 221) [] [],.fnil,.fnil,.fn (.func 219) [] [],.fn (.func 220) [] [],.fn (.func 221) [] [],.fnil,.fnil,.fnil,.fnil]),(136,(.own X.length 0)),(137,(.own X.length 0)),(138,(.own X.length 0)),(139,(.own X.length 0)),(140,.int .i64 8),(141,.fn (.func 219) [] []),(142,(.own X.length 0)),(143,.int .u8 b)] rfl rfl rfl (by decide +kernel) (by decide +kernel) ⟨?s0, ?s1, ?s2, ?s3, ?s4, ?s5, ?s6, ?s7, ?s8,trivial⟩ ?z
 case s0 | s1 | s7 | s8 =>
  intro env hd
  have q0:=hd.2 0 rfl
  have q1:=hd.2 1 rfl
  simp only [go_sem, *] at q0 q1
  clear hd
  repeat' first | refine st ?_ | (refine ca ?_;apply hw) | (refine br ?_ ?_<;>intro hb) | refine sd ?_ | apply aE | (apply aO;(· decide +kernel)) | refine bd ?_ ?_ | (refine cd ?_;apply hw) | fail
  first | exact⟨trivial,trivial⟩ | exact⟨rfl,rfl⟩
 case s2 =>
  intro env hd
  have q0:=hd.2 0 rfl
  have q1:=hd.2 1 rfl
  simp only [go_sem, *] at q0 q1
  have r1:=hd.1 1 (by decide +kernel) _ _ rfl
  clear hd
  repeat' first | refine st ?_ | (refine ca ?_;apply hw) | (refine br ?_ ?_<;>intro hb) | refine sd ?_ | apply aE | (apply aO;(· decide +kernel)) | refine bd ?_ ?_ | (refine cd ?_;apply hw) | fail
  first | exact⟨trivial,trivial⟩ | exact⟨rfl,rfl⟩
 case s3 =>
  intro env hd
  have q0:=hd.2 0 rfl
  have q1:=hd.2 1 rfl
  simp only [go_sem, *] at q0 q1
  have r2:=hd.1 2 (by decide +kernel) _ _ rfl
  clear hd
  repeat' first | refine st ?_ | (refine ca ?_;apply hw) | (refine br ?_ ?_<;>intro hb) | refine sd ?_ | apply aE | (apply aO;(· decide +kernel)) | refine bd ?_ ?_ | (refine cd ?_;apply hw) | fail
  first | exact⟨trivial,trivial⟩ | exact⟨rfl,rfl⟩
 case s4 =>
  intro env hd
  have q0:=hd.2 0 rfl
  have q1:=hd.2 1 rfl
  simp only [go_sem, *] at q0 q1
  have r3:=hd.1 3 (by decide +kernel) _ _ rfl
  clear hd
  repeat' first | refine st ?_ | (refine ca ?_;apply hw) | (refine br ?_ ?_<;>intro hb) | refine sd ?_ | apply aE | (apply aO;(· decide +kernel)) | refine bd ?_ ?_ | (refine cd ?_;apply hw) | fail
  first | exact⟨trivial,trivial⟩ | exact⟨rfl,rfl⟩
 case s5 =>
  intro env hd
  have q0:=hd.2 0 rfl
  have q1:=hd.2 1 rfl
  simp only [go_sem, *] at q0 q1
  have r4:=hd.1 4 (by decide +kernel) _ _ rfl
  clear hd
  repeat' first | refine st ?_ | (refine ca ?_;apply hw) | (refine br ?_ ?_<;>intro hb) | refine sd ?_ | apply aE | (apply aO;(· decide +kernel)) | refine bd ?_ ?_ | (refine cd ?_;apply hw) | fail
  first | exact⟨trivial,trivial⟩ | exact⟨rfl,rfl⟩
 case s6 =>
  intro env hd
  have q0:=hd.2 0 rfl
  have q1:=hd.2 1 rfl
  simp only [go_sem, *] at q0 q1
  have r0:=hd.1 0 (by decide +kernel) _ _ rfl
  have r5:=hd.1 5 (by decide +kernel) _ _ rfl
  clear hd
  repeat' first | refine st ?_ | (refine ca ?_;apply hw) | (refine br ?_ ?_<;>intro hb) | refine sd ?_ | apply aE | (apply aO;(· decide +kernel)) | refine bd ?_ ?_ | (refine cd ?_;apply hw) | fail
  first | exact⟨trivial,trivial⟩ | exact⟨rfl,rfl⟩
 case z =>
  intro env hs hk
  have r6:=hs 6 _ _ rfl
  have r7:=hs 7 _ _ rfl
  have r8:=hs 8 _ _ rfl
  have q5:=hk 1000000 rfl
  clear hs hk
  simp only [go_sem] at q5
  repeat' first | refine st ?_ | (refine ca ?_;apply k0) | (refine br ?_ ?_<;>intro hb) | refine sd ?_ | apply aE | (apply aO;(· decide +kernel)) | refine bd ?_ ?_ | (refine cd ?_;apply k0) | fail
  (apply cJ HO.out H.out;(· simp);(· (simp only [go_sem, *];try rfl));(· (simp only [go_sem, *];try rfl));(· (simp only [go_sem, *,Tryz.results82];try rfl)))
theorem Fb (w0:World) (X:List aH) (p:Ps) (l:List Ev) (b:Nat) (hl:l.length≤1000000) (hp:gq p) (hb:b<256) (hn:dY p b) (hs:p.st=9) (hc:32≤b∧b<127) (R:Rt) (h:R (.ret (.tup [])) (aY X (eX p b).1 (l++(eX p b).2))):az Tryz.prog w0 82 [.own X.length 0,.int .u8 b] (aY X p l) R:=by
 have c1:=iM hn
 obtain⟨f1,f2,f3,f4,f5,f6⟩:=hY hc
 have k0:=z6 w0 X p l b hl hp hb
 have hw:=oY w0
 unfold rI at hw
 unfold eX at h
 have z:((9:Nat):Int)=9:=rfl
 clear hl hp hb hn hc
 obtain⟨s0,utf,pv,fn,pars,inter,text,bad⟩:=p
 simp only at hs c1
 subst hs
 simp only at h
 have H:=au h
 clear h
 simp only [aY,dV,dZ,z] at k0
 simp only [z] at c1
 clear c1
 refine eN Tryz.func82 rfl Tryz.ntmps82 fun hO=>?_
 have HO:=au hO
 clear hO
 simp only [aY,dV,dZ,z]
 repeat' ((fail_if_success (apply bA 20));first | refine st ?_ | (refine br ?_ ?_<;>intro hb) | fail)
 refine eR (n:=10) mixed rfl ?_
 refine lU [(135,.agg [.fn (.func 216) [] [],.fn (.func 217) [] [],.fn (.func 218) [] [],.fn (.func 219) [] [],.fn (.func 220) [] [],.fn (.func 221) [] [],.fnil,.fnil,.fn (.func 219) [] [],.fn (.func 220) [] [],.fn (.func 221) [] [],.fnil,.fnil,.fnil,.fnil]),(136,(.own X.length 0)),(137,(.own X.length 0)),(138,(.own X.length 0)),(139,(.own X.length 0)),(140,.int .i64 9),(141,.fn (.func 220) [] []),(142,(.own X.length 0)),(143,.int .u8 b)] rfl rfl rfl (by decide +kernel) (by decide +kernel) ⟨?s0, ?s1, ?s2, ?s3, ?s4, ?s5, ?s6, ?s7, ?s8,trivial⟩ ?z
 case s0 | s1 | s7 | s8 =>
  intro env hd
  have q0:=hd.2 0 rfl
  have q1:=hd.2 1 rfl
  simp only [go_sem, *] at q0 q1
  clear hd
  repeat' first | refine st ?_ | (refine ca ?_;apply hw) | (refine br ?_ ?_<;>intro hb) | refine sd ?_ | apply aE | (apply aO;(· decide +kernel)) | refine bd ?_ ?_ | (refine cd ?_;apply hw) | fail
  first | exact⟨trivial,trivial⟩ | exact⟨rfl,rfl⟩
 case s2 =>
  intro env hd
  have q0:=hd.2 0 rfl
  have q1:=hd.2 1 rfl
  simp only [go_sem, *] at q0 q1
  have r1:=hd.1 1 (by decide +kernel) _ _ rfl
  clear hd
  repeat' first | refine st ?_ | (refine ca ?_;apply hw) | (refine br ?_ ?_<;>intro hb) | refine sd ?_ | apply aE | (apply aO;(· decide +kernel)) | refine bd ?_ ?_ | (refine cd ?_;apply hw) | fail
  first | exact⟨trivial,trivial⟩ | exact⟨rfl,rfl⟩
 case s3 =>
  intro env hd
  have q0:=hd.2 0 rfl
  have q1:=hd.2 1 rfl
  simp only [go_sem, *] at q0 q1
  have r2:=hd.1 2 (by decide +kernel) _ _ rfl
  clear hd
  repeat' first | refine st ?_ | (refine ca ?_;apply hw) | (refine br ?_ ?_<;>intro hb) | refine sd ?_ | apply aE | (apply aO;(· decide +kernel)) | refine bd ?_ ?_ | (refine cd ?_;apply hw) | fail
  first | exact⟨trivial,trivial⟩ | exact⟨rfl,rfl⟩
 case s4 =>
  intro env hd
  have q0:=hd.2 0 rfl
  have q1:=hd.2 1 rfl
  simp only [go_sem, *] at q0 q1
  have r3:=hd.1 3 (by decide +kernel) _ _ rfl
  clear hd
  repeat' first | refine st ?_ | (refine ca ?_;apply hw) | (refine br ?_ ?_<;>intro hb) | refine sd ?_ | apply aE | (apply aO;(· decide +kernel)) | refine bd ?_ ?_ | (refine cd ?_;apply hw) | fail
  first | exact⟨trivial,trivial⟩ | exact⟨rfl,rfl⟩
 case s5 =>
  intro env hd
  have q0:=hd.2 0 rfl
  have q1:=hd.2 1 rfl
  simp only [go_sem, *] at q0 q1
  have r4:=hd.1 4 (by decide +kernel) _ _ rfl
  clear hd
  repeat' first | refine st ?_ | (refine ca ?_;apply hw) | (refine br ?_ ?_<;>intro hb) | refine sd ?_ | apply aE | (apply aO;(· decide +kernel)) | refine bd ?_ ?_ | (refine cd ?_;apply hw) | fail
  first | exact⟨trivial,trivial⟩ | exact⟨rfl,rfl⟩
 case s6 =>
  intro env hd
  have q0:=hd.2 0 rfl
  have q1:=hd.2 1 rfl
  simp only [go_sem, *] at q0 q1
  have r0:=hd.1 0 (by decide +kernel) _ _ rfl
  have r5:=hd.1 5 (by decide +kernel) _ _ rfl
  clear hd
  repeat' first | refine st ?_ | (refine ca ?_;apply hw) | (refine br ?_ ?_<;>intro hb) | refine sd ?_ | apply aE | (apply aO;(· decide +kernel)) | refine bd ?_ ?_ | (refine cd ?_;apply hw) | fail
  first | exact⟨trivial,trivial⟩ | exact⟨rfl,rfl⟩
 case z =>
  intro env hs hk
  have r6:=hs 6 _ _ rfl
  have r7:=hs 7 _ _ rfl
  have r8:=hs 8 _ _ rfl
  have q5:=hk 1000000 rfl
  clear hs hk
  simp only [go_sem] at q5
  repeat' first | refine st ?_ | (refine ca ?_;apply k0) | (refine br ?_ ?_<;>intro hb) | refine sd ?_ | apply aE | (apply aO;(· decide +kernel)) | refine bd ?_ ?_ | (refine cd ?_;apply k0) | fail
  (apply cJ HO.out H.out;(· simp);(· (simp only [go_sem, *];try rfl));(· (simp only [go_sem, *];try rfl));(· (simp only [go_sem, *,Tryz.results82];try rfl)))
theorem CZ (w0:World) (X:List aH) (p:Ps) (l:List Ev) (b:Nat) (hl:l.length≤1000000) (hp:gq p) (hb:b<256) (hn:dY p b) (hs:p.st=10) (hc:32≤b∧b<127) (R:Rt) (h:R (.ret (.tup [])) (aY X (eX p b).1 (l++(eX p b).2))):az Tryz.prog w0 82 [.own X.length 0,.int .u8 b] (aY X p l) R:=by
 have c1:=iM hn
 obtain⟨f1,f2,f3,f4,f5,f6⟩:=hY hc
 have k0:=z7 w0 X p l b hl hp hb
 have hw:=oY w0
 unfold rI at hw
 unfold eX at h
 have z:((10:Nat):Int)=10:=rfl
 clear hl hp hb hn hc
 obtain⟨s0,utf,pv,fn,pars,inter,text,bad⟩:=p
 simp only at hs c1
 subst hs
 simp only at h
 have H:=au h
 clear h
 simp only [aY,dV,dZ,z] at k0
 simp only [z] at c1
 clear c1
 refine eN Tryz.func82 rfl Tryz.ntmps82 fun hO=>?_
 have HO:=au hO
 clear hO
 simp only [aY,dV,dZ,z]
 repeat' ((fail_if_success (apply bA 20));first | refine st ?_ | (refine br ?_ ?_<;>intro hb) | fail)
 refine eR (n:=10) mixed rfl ?_
 refine lU [(135,.agg [.fn (.func 216) [] [],.fn (.func 217) [] [],.fn (.func 218) [] [],.fn (.func 219) [] [],.fn (.func 220) [] [],.fn (.func 221) [] [],.fnil,.fnil,.fn (.func 219) [] [],.fn (.func 220) [] [],.fn (.func 221) [] [],.fnil,.fnil,.fnil,.fnil]),(136,(.own X.length 0)),(137,(.own X.length 0)),(138,(.own X.length 0)),(139,(.own X.length 0)),(140,.int .i64 10),(141,.fn (.func 221) [] []),(142,(.own X.length 0)),(143,.int .u8 b)] rfl rfl rfl (by decide +kernel) (by decide +kernel) ⟨?s0, ?s1, ?s2, ?s3, ?s4, ?s5, ?s6, ?s7, ?s8,trivial⟩ ?z
 case s0 | s1 | s7 | s8 =>
  intro env hd
  have q0:=hd.2 0 rfl
  have q1:=hd.2 1 rfl
  simp only [go_sem, *] at q0 q1
  clear hd
  repeat' first | refine st ?_ | (refine ca ?_;apply hw) | (refine br ?_ ?_<;>intro hb) | refine sd ?_ | apply aE | (apply aO;(· decide +kernel)) | refine bd ?_ ?_ | (refine cd ?_;apply hw) | fail
  first | exact⟨trivial,trivial⟩ | exact⟨rfl,rfl⟩
 case s2 =>
  intro env hd
  have q0:=hd.2 0 rfl
  have q1:=hd.2 1 rfl
  simp only [go_sem, *] at q0 q1
  have r1:=hd.1 1 (by decide +kernel) _ _ rfl
  clear hd
  repeat' first | refine st ?_ | (refine ca ?_;apply hw) | (refine br ?_ ?_<;>intro hb) | refine sd ?_ | apply aE | (apply aO;(· decide +kernel)) | refine bd ?_ ?_ | (refine cd ?_;apply hw) | fail
  first | exact⟨trivial,trivial⟩ | exact⟨rfl,rfl⟩
 case s3 =>
  intro env hd
  have q0:=hd.2 0 rfl
  have q1:=hd.2 1 rfl
  simp only [go_sem, *] at q0 q1
  have r2:=hd.1 2 (by decide +kernel) _ _ rfl
  clear hd
  repeat' first | refine st ?_ | (refine ca ?_;apply hw) | (refine br ?_ ?_<;>intro hb) | refine sd ?_ | apply aE | (apply aO;(· decide +kernel)) | refine bd ?_ ?_ | (refine cd ?_;apply hw) | fail
  first | exact⟨trivial,trivial⟩ | exact⟨rfl,rfl⟩
 case s4 =>
  intro env hd
  have q0:=hd.2 0 rfl
  have q1:=hd.2 1 rfl
  simp only [go_sem, *] at q0 q1
  have r3:=hd.1 3 (by decide +kernel) _ _ rfl
  clear hd
  repeat' first | refine st ?_ | (refine ca ?_;apply hw) | (refine br ?_ ?_<;>intro hb) | refine sd ?_ | apply aE | (apply aO;(· decide +kernel)) | refine bd ?_ ?_ | (refine cd ?_;apply hw) | fail
  first | exact⟨trivial,trivial⟩ | exact⟨rfl,rfl⟩
 case s5 =>
  intro env hd
  have q0:=hd.2 0 rfl
  have q1:=hd.2 1 rfl
  simp only [go_sem, *] at q0 q1
  have r4:=hd.1 4 (by decide +kernel) _ _ rfl
  clear hd
  repeat' first | refine st ?_ | (refine ca ?_;apply hw) | (refine br ?_ ?_<;>intro hb) | refine sd ?_ | apply aE | (apply aO;(· decide +kernel)) | refine bd ?_ ?_ | (refine cd ?_;apply hw) | fail
  first | exact⟨trivial,trivial⟩ | exact⟨rfl,rfl⟩
 case s6 =>
  intro env hd
  have q0:=hd.2 0 rfl
  have q1:=hd.2 1 rfl
  simp only [go_sem, *] at q0 q1
  have r0:=hd.1 0 (by decide +kernel) _ _ rfl
  have r5:=hd.1 5 (by decide +kernel) _ _ rfl
  clear hd
  repeat' first | refine st ?_ | (refine ca ?_;apply hw) | (refine br ?_ ?_<;>intro hb) | refine sd ?_ | apply aE | (apply aO;(· decide +kernel)) | refine bd ?_ ?_ | (refine cd ?_;apply hw) | fail
  first | exact⟨trivial,trivial⟩ | exact⟨rfl,rfl⟩
 case z =>
  intro env hs hk
  have r6:=hs 6 _ _ rfl
  have r7:=hs 7 _ _ rfl
  have r8:=hs 8 _ _ rfl
  have q5:=hk 1000000 rfl
  clear hs hk
  simp only [go_sem] at q5
  repeat' first | refine st ?_ | (refine ca ?_;apply k0) | (refine br ?_ ?_<;>intro hb) | refine sd ?_ | apply aE | (apply aO;(· decide +kernel)) | refine bd ?_ ?_ | (refine cd ?_;apply k0) | fail
  (apply cJ HO.out H.out;(· simp);(· (simp only [go_sem, *];try rfl));(· (simp only [go_sem, *];try rfl));(· (simp only [go_sem, *,Tryz.results82];try rfl)))
theorem C1 (w0:World) (X:List aH) (p:Ps) (l:List Ev) (b:Nat) (hl:l.length≤1000000) (hp:gq p) (hb:b<256) (hn:dY p b) (he:i_ p.st=true→b=24∨b=26∨b=27) (ht:fQ p.st=true∨b<128∨b=24∨b=26∨b=27) (R:Rt) (h:R (.ret (.tup [])) (aY X (take1 p b).1 (l++(take1 p b).2))):az Tryz.prog w0 82 [.own X.length 0,.int .u8 b] (aY X p l) R:=by
 have hnn:=hn
 unfold dY at hnn
 unfold take1 at h
 rw [if_neg hnn] at h
 by_cases c1:b=24∨b=26
 ·rw [if_pos c1] at h
  simp only [aP] at h
  exact Fq w0 X p l b hl hp hb hn c1 R h
 rw [if_neg c1] at h
 by_cases c2:b=27
 ·rw [if_pos c2] at h
  cases hx:fQ p.st with
  | true =>
   rw [hx] at h
   simp only [if_true,aP] at h
   exact Fp w0 X p l b hl hp hb hn c2 hx R h
  | false =>
   rw [hx] at h
   simp only [du,if_false,aP] at h
   exact Fo w0 X p l b hl hp hb hn c2 hx R h
 rw [if_neg c2] at h
 have c3:b≠24∧b≠26∧b≠27:=by omega
 have he':i_ p.st=false:=by
  cases hx:i_ p.st with
  | false=>rfl
  | true=>have:=he hx;omega
 cases hx:fQ p.st with
 | true =>
  rw [hx] at h
  simp only [if_true] at h
  exact Fm w0 X p l b hl hp hb hn c3 hx R h
 | false =>
  have hb1:b<128:=by
   rcases ht with ht | ht
   ·rw [hx] at ht;cases ht
   ·omega
  rw [hx,if_neg (by decide),if_neg (by omega)] at h
  by_cases c4:b<32
  ·rw [if_pos c4] at h
   exact Fl w0 X p l b hl hp hb hn c3 c4 hx he' R h
  rw [if_neg c4] at h
  by_cases c5:b=127
  ·rw [if_pos c5] at h
   simp only [aP] at h
   exact Fk w0 X p l b hl hp hb hn c5 hx he' R h
  rw [if_neg c5] at h
  have hs:=hp.st
  have hc:32≤b∧b<127:=by omega
  have hst:p.st=0∨p.st=1∨p.st=2∨p.st=3∨p.st=4∨p.st=5∨p.st=8∨p.st=9∨p.st=10:=by
   unfold fQ at hx
   unfold i_ at he'
   simp only [cy,beq_eq_false_iff_ne] at hx he'
   omega
  rcases hst with hst | hst | hst | hst | hst | hst | hst | hst | hst
  ·exact Fj w0 X p l b hl hp hb hn hst hc R h
  ·exact Fi w0 X p l b hl hp hb hn hst hc R h
  ·exact Fh w0 X p l b hl hp hb hn hst hc R h
  ·exact Fg w0 X p l b hl hp hb hn hst hc R h
  ·exact Ff w0 X p l b hl hp hb hn hst hc R h
  ·exact Fe w0 X p l b hl hp hb hn hst hc R h
  ·exact Fc w0 X p l b hl hp hb hn hst hc R h
  ·exact Fb w0 X p l b hl hp hb hn hst hc R h
  ·exact CZ w0 X p l b hl hp hb hn hst hc R h
theorem Ej {c:Nat} (h:c<32∨c=127):take1 (cY 0) c=vZ c:=by
 have e:(cY 0).st=0:=rfl
 have e2:(cY 0).utf=[]:=rfl
 unfold take1 vZ
 rw [e,e2,if_neg (by simp;omega)]
 split
 ·rfl
 ·next h1 =>
  split
  ·rfl
  ·next h2 =>
   rw [if_neg (by decide),if_neg (by omega)]
   split
   ·rfl
   ·next h3=>rw [if_pos (by omega)]
theorem MN (w0:World) (X:List aH) (l:List Ev) (c:Nat) (hl:l.length≤1000000) (hc:c<32∨c=127) (R:Rt) (h:R (.ret (.tup [])) (aY X (vZ c).1 (l++(vZ c).2))):az Tryz.prog w0 82 [.own X.length 0,.int .u8 c] (aY X (cY 0) l) R:=by
 rw [← Ej hc] at h
 refine C1 w0 X (cY 0) l c hl (gq.beg (by decide)) (by omega) ?_ (fun h=>by cases h) (by omega) R h
 unfold dY
 have e2:(cY 0).utf=[]:=rfl
 rw [e2]
 simp
 omega
theorem KF {p:List Nat}{b i c:Nat} (h:(eh p b).2[i]? = some c) (hc:c<32∨c=127):(((eh p b).2.take i).foldl iZ ({ cY 0 with utf:=(eh p b).1 },[])).1=cY 0:=by
 have key:∀ (q:List Nat × List Nat),q.2[i]? = some c→(q.1=[]∧(q.2=[c]∨q.2=[65533,c]))→((q.2.take i).foldl iZ ({ cY 0 with utf:=q.1 },[])).1=cY 0:=by
  rintro q hq ⟨h1,h2 | h2⟩
  ·rw [h2] at hq ⊢
   match i,hq with
   | 0,_=>rw [h1];rfl
   | n+1,hq=>simp at hq
  ·rw [h2] at hq ⊢
   match i,hq with
   | 0,hq=>simp at hq;omega
   | 1,_=>rw [h1];rfl
   | n+2,hq=>simp at hq
 refine key _ h ?_
 have one:∀ {x:Nat},[x][i]? = some c→x=c:=by
  intro x hx
  match i,hx with
  | 0,hx=>simpa using hx
  | n+1,hx=>simp at hx
 revert h
 unfold eh
 split
 ·intro h;exact⟨rfl,.inl (by rw [one h])⟩
 ·split
  ·intro h;simp at h
  ·split
   ·intro h;have:=one h;omega
   ·unfold g8
    split
    ·intro h
     refine⟨rfl,.inr ?_⟩
     simp only at h
     match i,h with
     | 0,h=>simp at h;omega
     | 1,h=>simp at h;rw [h]
     | n+2,h=>simp at h
    ·split
     ·intro h;have:=one h;omega
     ·intro h
      simp only at h
      match i,h with
      | 0,h=>simp at h;omega
      | 1,h=>simp at h;omega
      | n+2,h=>simp at h
theorem C4 (w0:World) (S:List aH) (a b c:Int) (R:Rt) (h:R (.ret (.bool (decide (a<b)||decide (c<a)))) S):az Tryz.prog w0 165 [.int .u8 a,.int .u8 b,.int .u8 c] S R:=by
 cases d:decide (a<b)<;>rw [d] at h
 all_goals
  refine eN Tryz.func165 rfl Tryz.ntmps165 fun hO=>?_
  repeat' first | refine st ?_ | (refine br ?_ ?_<;>intro hb) | fail
  refine fR Tryz.results165 ?_
  first | exact h | (simpa using h)
theorem BV (q:Ps × List Ev) (c:Nat):(iZ q c).2.length≤q.2.length+1:=by
 unfold iZ vZ
 repeat' split
 all_goals simp
theorem qi:∀ (l:List Nat) (q:Ps × List Ev),(l.foldl iZ q).2.length≤q.2.length+l.length
 | [],_=>by simp
 | c::l,q=>by
  have:=qi l (iZ q c)
  have:=BV q c
  simp only [h_,ah];omega
theorem Bw {l:List Nat}{i c:Nat} (q:Ps × List Ev) (h:l[i]? = some c):(l.take (i+1)).foldl iZ q=iZ ((l.take i).foldl iZ q) c:=by
 rw [pI,h]
 simp
theorem C3 (w0:World) (X:List aH) (p:Ps) (l:List Ev) (b:Nat) (hl:l.length≤900000) (hp:gq p) (hb:b<256) (R:Rt) (h:R (.ret (.tup [])) (aY X (jd p b).1 (l++(jd p b).2))):az Tryz.prog w0 166 [.own X.length 0,.int .u8 b] (aY X p l) R:=by
 have hst:=fun S'=>H0 w0 S' p.utf b hb hp.utf hp.byt
 have k0:=gR w0 X p l 0
 have hq2:=kn p.utf b
 have hctl:=fun i c=>KF (p:=p.utf) (b:=b) (i:=i) (c:=c)
 unfold jd at h
 generalize eh p.utf b=q at h hst hq2 hctl
 obtain⟨q1,q2⟩:=q
 unfold iL at hst
 simp only at h hst hq2 hctl
 simp only [aY,dV,dZ] at k0
 have H:=au h
 have Hq:=au hq2
 have Hc:=au hctl
 have Hl:=au hl
 clear h hp hb hq2 hctl hl
 refine eN Tryz.func166 rfl Tryz.ntmps166 fun hO=>?_
 have HO:=au hO
 clear hO
 unfold aY dV dZ
 repeat' first | refine st ?_ | (refine ca ?_;first | apply hst | apply k0) | (refine br ?_ ?_<;>intro hb) | fail
 refine dX (fun (i:Nat) env S'=>i≤q2.length∧env 1000000=.dfr []∧env 0=.own X.length 0∧env 25=.sval false (q2.map Co)∧env 26=.int .i64 q2.length∧env 27=.int .i64 (i:Int)∧S'=aY X ((q2.take i).foldl iZ ({ cY 0 with utf:=q1 },[])).1 (l++((q2.take i).foldl iZ ({ cY 0 with utf:=q1 },[])).2)) (fun i=>q2.length - i) 0 ?_ ?_
 ·exact⟨bI _,ss,ss,ss,ss,ss,by simp only [ao,List.foldl_nil,aP];rfl⟩
 ·rintro i env S' ⟨hi,e0,f0,f25,f26,f27,rfl⟩ IH
  have HI:=au IH
  clear IH hst k0
  by_cases hlt:i<q2.length
  ·obtain⟨c,hx⟩:∃ c,q2[i]? = some c:=⟨_,aC hlt⟩
   have h1:decide ((i:Int)<(q2.length:Int))=true:=by simpa using hlt
   have hco:Co c=.int .i64 c:=rfl
   have hq:=Hq.out
   have hc21:=hq.1 c (aI hx)
   have hw:ar.wrap ((i:Int)+1)=((i+1:Nat):Int):=by rw [ay _ (by omega)];omega
   have hsu:=Bw ({ cY 0 with utf:=q1 },[]) hx
   have hct:=Hc.out i c hx
   have hcl:=qi (q2.take i) ({ cY 0 with utf:=q1 },[])
   have htk:(q2.take i).length≤i:=List.length_take_le _ _
   simp only [aj,dw] at hcl
   generalize (q2.take i).foldl iZ ({ cY 0 with utf:=q1 },[])=y at hsu hct hcl
   obtain⟨y1,y2⟩:=y
   simp only at hct hcl
   have hl2:(l++y2).length≤1000000:=by have:=Hl.out;rw [ab];omega
   have Hsu:=au hsu
   by_cases hcc:c<32∨c=127
   ·have hy:y1=cY 0:=hct hcc
    subst hy
    have k1:=MN w0 X (l++y2) c hl2 hcc
    simp only [aY,dV,dZ] at k1 ⊢
    have hw8:bo.wrap (c:Int)=(c:Int):=eo _ (by omega)
    have hd:decide ((c:Int)<32)=true∨decide ((c:Int)<32)=false∧((c:Int)==127)=true:=by simp only [decide_eq_true_eq,decide_eq_false_iff_not,beq_iff_eq];omega
    have Hlt:=au (cD hlt hcc)
    clear hlt hq hc21 hsu hct hcl hl2 hcc hi htk
    rcases hd with d1 | ⟨d1,d2⟩
    all_goals
     repeat' first | refine st ?_ | (refine ca ?_;apply k1) | (refine br ?_ ?_<;>intro hb) | fail
     refine HI.out (i+1) _ _ (by have:=Hlt.out.1;omega) ⟨by have:=Hlt.out.1;omega, ?_, ?_, ?_, ?_, ?_, ?_⟩
     ·(simp only [go_sem, *];try rfl)
     ·(simp only [go_sem, *];try rfl)
     ·(simp only [go_sem, *];try rfl)
     ·(simp only [go_sem, *];try rfl)
     ·(simp only [go_sem, *];try rfl)
     ·rw [Hsu.out]
      unfold iZ
      rw [if_pos Hlt.out.2]
      simp only [aY,dV,dZ,ai]
   ·have d1:decide ((c:Int)<32)=false:=by simp;omega
    have d2:((c:Int)==127)=false:=by rw [beq_eq_false_iff_ne];omega
    obtain⟨m,hm⟩:∃ m:Int,(if (255:Int)<(c:Int) then 255 else (c:Int))=m:=⟨_,rfl⟩
    have hm2:0≤m∧m≤255∧((m<127∨159<m)↔(c<127∨159<c)):=by subst hm;split<;>omega
    have hw8:bo.wrap m=m:=eo _ (by omega)
    have ho:=fun S'=>C4 w0 S' m 127 159
    have k1:=zZ w0 X y1 (l++y2) (lQ c) hl2
    rw [show (lQ c).av=.agg [.int .i64 1,.int .i64 c,.int .u8 0,.int .u8 0,.sval false [],.str [],.str []] from rfl] at k1
    simp only [aY,dV,dZ] at k1 ⊢
    have Hlt:=au (cD hlt hcc)
    by_cases hcd:c<127∨159<c
    ·have ho2:(decide (m<127)||decide (159<m))=true:=by simp only [fc,decide_eq_true_eq];exact hm2.2.2.2 hcd
     rw [ho2] at ho
     have Hcd:=au hcd
     clear hlt hq hc21 hsu hct hcl hl2 hcc hi htk hm2 ho2 hcd
     repeat' first | refine st ?_ | (refine ca ?_;first | apply k1 | apply ho) | (refine br ?_ ?_<;>intro hb) | fail
     refine HI.out (i+1) _ _ (by have:=Hlt.out.1;omega) ⟨by have:=Hlt.out.1;omega, ?_, ?_, ?_, ?_, ?_, ?_⟩
     ·(simp only [go_sem, *];try rfl)
     ·(simp only [go_sem, *];try rfl)
     ·(simp only [go_sem, *];try rfl)
     ·(simp only [go_sem, *];try rfl)
     ·(simp only [go_sem, *];try rfl)
     ·rw [Hsu.out]
      unfold iZ
      rw [if_neg Hlt.out.2,if_pos Hcd.out]
      simp only [aY,dV,dZ,ai]
    ·have ho2:(decide (m<127)||decide (159<m))=false:=by
      have:¬ (m<127∨159<m):=fun hh=>hcd (hm2.2.2.1 hh)
      rw [not_or] at this
      simp only [cy,decide_eq_false_iff_not]
      exact this
     rw [ho2] at ho
     have Hcd:=au hcd
     clear hlt hq hc21 hsu hct hcl hl2 hcc hi htk hm2 ho2 hcd
     repeat' first | refine st ?_ | (refine ca ?_;apply ho) | (refine br ?_ ?_<;>intro hb) | fail
     refine HI.out (i+1) _ _ (by have:=Hlt.out.1;omega) ⟨by have:=Hlt.out.1;omega, ?_, ?_, ?_, ?_, ?_, ?_⟩
     ·(simp only [go_sem, *];try rfl)
     ·(simp only [go_sem, *];try rfl)
     ·(simp only [go_sem, *];try rfl)
     ·(simp only [go_sem, *];try rfl)
     ·(simp only [go_sem, *];try rfl)
     ·rw [Hsu.out]
      unfold iZ
      rw [if_neg Hlt.out.2,if_neg Hcd.out]
      simp only [aY,dV,dZ]
  ·have h1:decide ((i:Int)<(q2.length:Int))=false:=by simpa using hlt
   have hie:i=q2.length:=by omega
   have htk:q2.take i=q2:=dW (by omega)
   rw [htk]
   clear hlt hi hie htk HI
   repeat' first | refine st ?_ | (refine br ?_ ?_<;>intro hb) | fail
   (apply cJ HO.out H.out;(· simp);(· (simp only [go_sem, *];try rfl));(· (simp only [go_sem, *];try rfl));(· (simp only [go_sem, *,Tryz.results166];try rfl)))
theorem I4 (w0:World) (X:List aH) (p:Ps) (l:List Ev) (b:Nat) (hl:l.length≤900000) (hp:gq p) (hb:b<256) (hn:p.st=0∧(p.utf≠[]∨128≤b)) (R:Rt) (h:R (.ret (.tup [])) (aY X (jd p b).1 (l++(jd p b).2))):az Tryz.prog w0 82 [.own X.length 0,.int .u8 b] (aY X p l) R:=by
 have k0:=C3 w0 X p l b hl hp hb
 simp only [aY,dV,dZ] at k0
 have z:((0:Nat):Int)=0:=rfl
 have c0:decide ((0:Int)<(p.utf.length:Int))=true∨decide ((0:Int)<(p.utf.length:Int))=false∧decide ((128:Int)≤(b:Int))=true:=by
  simp only [decide_eq_true_eq,decide_eq_false_iff_not]
  by_cases hu:p.utf=[]
  ·right
   have h3:p.utf.length=0:=by rw [hu];rfl
   have h4:=hn.2.resolve_left (fun hh=>hh hu)
   omega
  ·left
   have:p.utf.length≠0:=fun hh=>hu (ib.1 hh)
   omega
 have hst:=hn.1
 have H:=au h
 clear h hl hp hb hn
 have e0:((p.st:Int)==0)=true:=by rw [hst];rfl
 have e6:((p.st:Int)==6)=false:=by rw [hst];rfl
 have e11:((p.st:Int)==11)=false:=by rw [hst];rfl
 have e13:((p.st:Int)==13)=false:=by rw [hst];rfl
 clear hst z
 rcases c0 with c0 | ⟨c0,c1⟩
 all_goals
  refine eN Tryz.func82 rfl Tryz.ntmps82 fun hO=>?_
  have HO:=au hO
  clear hO
  unfold aY dV dZ
  repeat' first | refine st ?_ | (refine ca ?_;apply k0) | (refine br ?_ ?_<;>intro hb) | fail
  (apply cJ HO.out H.out;(· simp);(· (simp only [go_sem, *];try rfl));(· (simp only [go_sem, *];try rfl));(· (simp only [go_sem, *,Tryz.results82];try rfl)))
theorem I5 (w0:World) (X:List aH) (p:Ps) (l:List Ev) (b:Nat) (hl:l.length≤900000) (hb:b<256) (hn:dY p b) (ht:fQ p.st=false) (he:i_ p.st=false) (hh:128≤b) (R:Rt) (h:R (.ret (.tup [])) (aY X (jd (cY 0) b).1 (l++(jd (cY 0) b).2))):az Tryz.prog w0 82 [.own X.length 0,.int .u8 b] (aY X p l) R:=by
 have k0:=gR w0 X p l 0
 have k1:=C3 w0 X (cY 0) l b hl (gq.beg (by decide)) hb
 simp only [aY,dV,dZ] at k0 k1
 have c1:((p.st:Int)==0)=false:=by
  rcases iM hn with⟨_,_,c,_⟩ | c
  ·simp at c;omega
  ·exact c
 have c2:=km p.st
 obtain⟨q2,q3,q4⟩:=vU he
 rcases c2 with⟨c2,_⟩ | ⟨_,c5,c6,c7⟩
 ·rw [ht] at c2;cases c2
 have e24:((b:Int)==24)=false:=by rw [beq_eq_false_iff_ne];omega
 have e26:((b:Int)==26)=false:=by rw [beq_eq_false_iff_ne];omega
 have e27:((b:Int)==27)=false:=by rw [beq_eq_false_iff_ne];omega
 have d128:decide ((128:Int)≤(b:Int))=true:=by simp;omega
 have H:=au h
 clear h hl hb hn hh
 refine eN Tryz.func82 rfl Tryz.ntmps82 fun hO=>?_
 have HO:=au hO
 clear hO
 unfold aY dV dZ
 repeat' first | refine st ?_ | (refine ca ?_;first | apply k0 | apply k1) | (refine br ?_ ?_<;>intro hb) | fail
 (apply cJ HO.out H.out;(· simp);(· (simp only [go_sem, *];try rfl));(· (simp only [go_sem, *];try rfl));(· (simp only [go_sem, *,Tryz.results82];try rfl)))
theorem C2 (w0:World) (X:List aH) (p:Ps) (l:List Ev) (b:Nat) (hl:l.length≤900000) (hp:gq p) (hb:b<256) (he:i_ p.st=true→b=24∨b=26∨b=27) (R:Rt) (h:R (.ret (.tup [])) (aY X (take1 p b).1 (l++(take1 p b).2))):az Tryz.prog w0 82 [.own X.length 0,.int .u8 b] (aY X p l) R:=by
 by_cases hn:p.st=0∧(p.utf≠[]∨128≤b)
 ·unfold take1 at h
  rw [if_pos hn] at h
  exact I4 w0 X p l b hl hp hb hn R h
 by_cases ht:fQ p.st=true∨b<128∨b=24∨b=26∨b=27
 ·exact C1 w0 X p l b (by omega) hp hb hn he ht R h
 ·rw [not_or,not_or] at ht
  obtain⟨h1,h2,h3⟩:=ht
  have h1:fQ p.st=false:=by simpa using h1
  have he':i_ p.st=false:=by
   cases hx:i_ p.st with
   | false=>rfl
   | true=>have:=he hx;omega
  unfold take1 at h
  rw [if_neg hn,if_neg (by omega),if_neg (by omega),h1,if_neg (by decide),if_pos (by omega)] at h
  exact I5 w0 X p l b hl hb hn h1 he' (by omega) R h
theorem MM (w0:World) (X:List aH) (p:Ps) (l:List Ev) (b:Nat) (hl:l.length≤900000) (hp:gq p) (hb:b<256) (R:Rt) (h:R (.ret (.tup [])) (aY X (xF p b).1 (l++(xF p b).2))):az Tryz.prog w0 168 [.own X.length 0,.int .u8 b] (aY X p l) R:=by
 unfold xF at h
 by_cases c:b≠92
 ·rw [if_pos c] at h
  have k0:=gR w0 X p l 1
  have k1:=C2 w0 X (cY 1) l b hl (gq.beg (by decide)) hb (fun hh=>by cases hh)
  simp only [aY,dV,dZ] at k0 k1
  have e92:((b:Int) != 92)=true:=by rw [bne_iff_ne];omega
  have H:=au h
  clear h hl hp hb c
  refine eN Tryz.func168 rfl Tryz.ntmps168 fun hO=>?_
  have HO:=au hO
  clear hO
  unfold aY dV dZ
  repeat' first | refine st ?_ | (refine ca ?_;first | apply k0 | apply k1) | (refine br ?_ ?_<;>intro hb) | fail
  (apply oB HO.out H.out;(· simp);(· (simp only [go_sem, *];try rfl));(· (simp only [go_sem, *];try rfl));(· (simp only [go_sem, *,Tryz.results168];try rfl)))
 rw [if_neg c] at h
 have e92:((b:Int) != 92)=false:=by
  have:b=92:=by omega
  rw [this];rfl
 by_cases c7:p.st=7
 ·rw [if_pos c7] at h
  have e7:((p.st:Int)==7)=true:=by rw [c7];rfl
  have k0:=tZ w0 X p l (ux p) (by omega)
  rw [show (ux p).av=.agg [.int .i64 5,.int .i64 0,.int .u8 0,.int .u8 0,.sval false [],.str [],.str p.text] from rfl] at k0
  simp only [aY,dV,dZ] at k0
  have H:=au h
  clear h hl hp hb c c7
  refine eN Tryz.func168 rfl Tryz.ntmps168 fun hO=>?_
  have HO:=au hO
  clear hO
  unfold aY dV dZ
  repeat' ((fail_if_success (apply dE 16 rfl));first | refine st ?_ | (refine br ?_ ?_<;>intro hb) | fail)
  refine rG 4 [0,1,4] rfl HO.out (by simp) ss ss ss ?_
  repeat' first | refine st ?_ | (refine ca ?_;apply k0) | (refine br ?_ ?_<;>intro hb) | fail
  (apply cJ HO.out H.out;(· simp);(· (simp only [go_sem, *];try rfl));(· (simp only [go_sem, *];try rfl));(· (simp only [go_sem, *,Tryz.results168];try rfl)))
 rw [if_neg c7] at h
 have e7:((p.st:Int)==7)=false:=by rw [beq_eq_false_iff_ne];omega
 by_cases c12:p.st=12
 ·rw [if_pos c12] at h
  have e12:((p.st:Int)==12)=true:=by rw [c12];rfl
  have k0:=tZ w0 X p l (D8 p) (by omega)
  rw [show (D8 p).av=.agg [.int .i64 6,.int .i64 0,.int .u8 p.pv,.int .u8 p.fn,.sval false (p.pars.map dA),.str p.inter,.str p.text] from rfl] at k0
  simp only [aY,dV,dZ] at k0
  have H:=au h
  clear h hl hp hb c c7 c12
  refine eN Tryz.func168 rfl Tryz.ntmps168 fun hO=>?_
  have HO:=au hO
  clear hO
  unfold aY dV dZ
  repeat' ((fail_if_success (apply dE 16 rfl));first | refine st ?_ | (refine br ?_ ?_<;>intro hb) | fail)
  refine rG 4 [0,1,4] rfl HO.out (by simp) ss ss ss ?_
  repeat' first | refine st ?_ | (refine ca ?_;apply k0) | (refine br ?_ ?_<;>intro hb) | fail
  (apply cJ HO.out H.out;(· simp);(· (simp only [go_sem, *];try rfl));(· (simp only [go_sem, *];try rfl));(· (simp only [go_sem, *,Tryz.results168];try rfl)))
 rw [if_neg c12] at h
 simp only [aP] at h
 have e12:((p.st:Int)==12)=false:=by rw [beq_eq_false_iff_ne];omega
 have k0:=gR w0 X p l 0
 simp only [aY,dV,dZ] at k0
 have H:=au h
 clear h hl hp hb c c7 c12
 refine eN Tryz.func168 rfl Tryz.ntmps168 fun hO=>?_
 have HO:=au hO
 clear hO
 unfold aY dV dZ
 repeat' ((fail_if_success (apply dE 16 rfl));first | refine st ?_ | (refine br ?_ ?_<;>intro hb) | fail)
 refine rG 4 [0,1,4] rfl HO.out (by simp) ss ss ss ?_
 repeat' first | refine st ?_ | (refine ca ?_;apply k0) | (refine br ?_ ?_<;>intro hb) | fail
 (apply cJ HO.out H.out;(· simp);(· (simp only [go_sem, *];try rfl));(· (simp only [go_sem, *];try rfl));(· (simp only [go_sem, *,Tryz.results168];try rfl)))
theorem I6 (w0:World) (X:List aH) (p:Ps) (l:List Ev) (b:Nat) (hl:l.length≤900000) (hp:gq p) (hb:b<256) (he:i_ p.st=true) (hc:¬ (b=24∨b=26∨b=27)) (R:Rt) (h:R (.ret (.tup [])) (aY X (xF p b).1 (l++(xF p b).2))):az Tryz.prog w0 82 [.own X.length 0,.int .u8 b] (aY X p l) R:=by
 have k0:=MM w0 X p l b hl hp hb
 simp only [aY,dV,dZ] at k0
 have e24:((b:Int)==24)=false:=by rw [beq_eq_false_iff_ne];omega
 have e26:((b:Int)==26)=false:=by rw [beq_eq_false_iff_ne];omega
 have e27:((b:Int)==27)=false:=by rw [beq_eq_false_iff_ne];omega
 unfold i_ at he
 simp only [fc,beq_iff_eq] at he
 have e0:((p.st:Int)==0)=false:=by rw [beq_eq_false_iff_ne];omega
 have e6:((p.st:Int)==6)=false:=by rw [beq_eq_false_iff_ne];omega
 have e11:((p.st:Int)==11)=false:=by rw [beq_eq_false_iff_ne];omega
 have e13:((p.st:Int)==13)=false:=by rw [beq_eq_false_iff_ne];omega
 have c0:((p.st:Int)==7)=true∨(((p.st:Int)==7)=false∧((p.st:Int)==12)=true)∨(((p.st:Int)==7)=false∧((p.st:Int)==12)=false∧((p.st:Int)==14)=true):=by simp only [beq_iff_eq,beq_eq_false_iff_ne];omega
 have H:=au h
 clear h hl hp hb he hc
 rcases c0 with c0 | ⟨c0,c1⟩ | ⟨c0,c1,c2⟩
 all_goals
  refine eN Tryz.func82 rfl Tryz.ntmps82 fun hO=>?_
  have HO:=au hO
  clear hO
  unfold aY dV dZ
  repeat' first | refine st ?_ | (refine ca ?_;apply k0) | (refine br ?_ ?_<;>intro hb) | fail
  (apply cJ HO.out H.out;(· simp);(· (simp only [go_sem, *];try rfl));(· (simp only [go_sem, *];try rfl));(· (simp only [go_sem, *,Tryz.results82];try rfl)))
theorem Lb (w0:World) (X:List aH) (p:Ps) (l:List Ev) (b:Nat) (hl:l.length≤900000) (hp:gq p) (hb:b<256) (R:Rt) (h:R (.ret (.tup [])) (aY X (fe p b).1 (l++(fe p b).2))):az Tryz.prog w0 82 [.own X.length 0,.int .u8 b] (aY X p l) R:=by
 unfold fe at h
 split at h
 ·next hc=>exact I6 w0 X p l b hl hp hb hc.1 hc.2 R h
 ·next hc =>
  refine C2 w0 X p l b hl hp hb (fun he=>?_) R h
  by_cases h2:b=24∨b=26∨b=27
  ·exact h2
  ·exact absurd ⟨he,h2⟩ hc
theorem sG:∀ (s:List Nat) (q:Ps × List Ev),s.foldl (fun q b=>((fe q.1 b).1,q.2++(fe q.1 b).2)) q=((dH q.1 s).1,q.2++(dH q.1 s).2)
 | [],q=>by simp [dH]
 | b::s,q=>by
  unfold dH
  rw [h_,h_,sG s,sG s]
  simp [dH]
theorem kB (p:Ps):dH p []=(p,[]):=rfl
theorem eY (p:Ps) (b:Nat) (s:List Nat):dH p (b::s)=((dH (fe p b).1 s).1,(fe p b).2++(dH (fe p b).1 s).2):=by
 have:=sG s ((fe p b).1,[]++(fe p b).2)
 simp only [ap] at this
 exact this
theorem il:∀ (s t:List Nat) (p:Ps),dH p (s++t)=((dH (dH p s).1 t).1,(dH p s).2++(dH (dH p s).1 t).2)
 | [],t,p=>by simp [kB]
 | b::s,t,p=>by
  rw [al,eY,il s t,eY]
  simp
theorem Ar:∀ (s:List Nat) (p:Ps),gq p→(∀ b∈s,b<256)→gq (dH p s).1
 | [],p,h,_=>h
 | b::s,p,h,hb=>by
  rw [eY]
  exact Ar s _ (h.take (hb b (by simp))) fun x hx=>hb x (ia _ hx)
def qh (pv:Nat) (l:List (List Int)):Ps:=⟨4,[],pv,0,l,[],[],false⟩
theorem wJ {p:Ps}{b:Nat} (hs:p.st=4) (h1:48≤b) (h2:b<60):fe p b=(vW p b,[]):=by
 have e1:i_ 4=false:=rfl
 have e2:fQ 4=false:=rfl
 unfold fe take1 eX jr
 rw [hs,e1,e2]
 rw [if_neg (by simp),if_neg (by omega),if_neg (by omega),if_neg (by omega),if_neg (by decide),if_neg (by omega),if_neg (by omega),if_neg (by omega)]
 simp only
 rw [if_neg (by omega),if_pos h2]
theorem rO {pv:Nat}{l:List (List Int)}{b:Nat} (h1:48≤b) (h2:b<60) (h0:(lg l b).2=0):fe (qh pv l) b=(qh pv (lg l b).1,[]):=by
 rw [wJ rfl h1 h2]
 unfold vW qh
 simp [h0]
theorem yw {b:Nat} (h1:48≤b) (h2:b<60):fe (cY 3) b=fe (qh 0 []) b:=by
 have e1:i_ 3=false:=rfl
 have e2:fQ 3=false:=rfl
 have hs:(cY 3).st=3:=rfl
 have hh:fe (cY 3) b=(vW (cY 4) b,[]):=by
  unfold fe take1 eX lR
  rw [hs,e1,e2]
  rw [if_neg (by simp),if_neg (by omega),if_neg (by omega),if_neg (by omega),if_neg (by decide),if_neg (by omega),if_neg (by omega),if_neg (by omega)]
  simp only
  rw [if_neg (by omega),if_pos h2]
 rw [hh,wJ rfl h1 h2]
 rfl
theorem tX {l pre:List (List Int)}{q:List Int}{n:Int}{d:Nat} (h:iC l=pre++[q++[n]]) (hd:d<10):lg l (48+d)=(pre++[q++[min (max 0 n * 10+(d:Int)) 9999]],0):=by
 rw [kO h,if_neg (by omega),if_neg (by omega),if_pos (by omega)]
 congr 5
 omega
theorem DP {l:List (List Int)} (h:l≠[]):iC l=l:=if_neg h
def ln (u:Nat):List Nat:=(yg u).map aV
theorem sN {u:Nat} (h:u<10):ln u=[48+u]:=by
 unfold ln
 rw [yg,dif_pos h]
 simp
 omega
theorem xJ {u:Nat} (h:¬ u<10):ln u=ln (u / 10)++[48+u % 10]:=by
 unfold ln
 rw [yg,dif_neg h,co]
 simp
 omega
theorem jH {pv:Nat}{pre:List (List Int)}{q:List Int}:∀ (u:Nat),u≤9999→∀ l,iC l=pre++[q++[-1]]→dH (qh pv l) (ln u)=(qh pv (pre++[q++[(u:Int)]]),[]):=by
 intro u
 induction u using Hw with
 | _ u ih =>
  intro hu l hl
  by_cases h:u<10
  ·rw [sN h,eY,kB]
   have hs:=tX hl h
   rw [rO (by omega) (by omega) (by rw [hs]),hs]
   rw [show min (max 0 (-1:Int) * 10+(u:Int)) 9999=(u:Int) by omega]
   rfl
  ·rw [xJ h,il,ih (u / 10) (by omega) (by omega) l hl,eY,kB]
   have hs:=tX (l:=pre++[q++[((u / 10:Nat):Int)]]) (DP (by simp)) (fa u (by decide:0<10))
   simp only
   rw [rO (by omega) (by omega) (by rw [hs]),hs]
   rw [show min (max 0 ((u / 10:Nat):Int) * 10+((u % 10:Nat):Int)) 9999=(u:Int) by omega]
   rfl
theorem uv {pv:Nat}{x:Int}:dH (qh pv [[x]]) [59]=(qh pv [[x],[-1]],[]):=by
 rw [eY,kB,rO (by omega) (by omega) rfl]
 rfl
theorem oA {pv:Nat}{l:List (List Int)}{b:Nat} (h1:64≤b) (h2:b<127):dH (qh pv l) [b]=(cY 0,[⟨4,0,pv,b,l,[],[]⟩]):=by
 have e1:i_ 4=false:=rfl
 have e2:fQ 4=false:=rfl
 have hs:(qh pv l).st=4:=rfl
 rw [eY,kB]
 unfold fe take1 eX jr
 rw [hs,e1,e2]
 rw [if_neg (by simp),if_neg (by omega),if_neg (by omega),if_neg (by omega),if_neg (by decide),if_neg (by omega),if_neg (by omega),if_neg (by omega)]
 simp only
 rw [if_neg (by omega),if_neg (by omega),if_neg (by omega)]
 rfl
theorem qc (s:List Nat):dH (cY 0) (27::91::s)=dH (cY 3) s:=by
 rw [eY,eY]
 have e1:fe (cY 0) 27=(cY 1,[]):=by decide +kernel
 have e2:fe (cY 1) 91=(cY 3,[]):=by decide +kernel
 simp only [e1,e2,ap]
theorem uB (u:Nat):∃ b s,ln u=b::s∧48≤b∧b<60:=by
 induction u using Hw with
 | _ u ih =>
  by_cases h:u<10
  ·exact⟨48+u,[],sN h,by omega,by omega⟩
  ·obtain⟨b,s,h1,h2,h3⟩:=ih (u / 10) (by omega)
   exact⟨b,s++[48+u % 10],by rw [xJ h,h1];rfl,h2,h3⟩
theorem uw {u:Nat} (s:List Nat):dH (cY 3) (ln u++s)=dH (qh 0 []) (ln u++s):=by
 obtain⟨b,t,h1,h2,h3⟩:=uB u
 rw [h1,al,eY,eY,yw h2 h3]
theorem BG (s:List Nat):dH (cY 3) (63::s)=dH (qh 63 []) s:=by
 rw [eY]
 have e1:fe (cY 3) 63=(qh 63 [],[]):=by decide +kernel
 simp only [e1,ap]
theorem D4 {x b:Nat} (hx:x≤9999) (h1:64≤b) (h2:b<127):dH (cY 0) (27::91::(ln x++[b]))=(cY 0,[⟨4,0,0,b,[[(x:Int)]],[],[]⟩]):=by
 rw [qc,uw,il,jH (pre:=[]) (q:=[]) x hx [] rfl]
 simp only [ap]
 rw [oA h1 h2]
theorem D3 {x y b:Nat} (hx:x≤9999) (hy:y≤9999) (h1:64≤b) (h2:b<127):dH (cY 0) (27::91::(ln x++(59::(ln y++[b]))))=(cY 0,[⟨4,0,0,b,[[(x:Int)],[(y:Int)]],[],[]⟩]):=by
 rw [qc,uw,il,jH (pre:=[]) (q:=[]) x hx [] rfl]
 simp only [ap]
 rw [show (59::(ln y++[b]))=[59]++(ln y++[b]) from rfl,il,uv]
 simp only [ap]
 rw [il,jH (pre:=[[(x:Int)]]) (q:=[]) y hy [[(x:Int)],[-1]] rfl]
 simp only [ap,al]
 rw [oA h1 h2]
theorem BE {x y b:Nat} (hx:x≤9999) (hy:y≤9999) (h1:64≤b) (h2:b<127):dH (cY 0) (27::91::63::(ln x++(59::(ln y++[b]))))=(cY 0,[⟨4,0,63,b,[[(x:Int)],[(y:Int)]],[],[]⟩]):=by
 rw [qc,BG,il,jH (pre:=[]) (q:=[]) x hx [] rfl]
 simp only [ap]
 rw [show (59::(ln y++[b]))=[59]++(ln y++[b]) from rfl,il,uv]
 simp only [ap]
 rw [il,jH (pre:=[[(x:Int)]]) (q:=[]) y hy [[(x:Int)],[-1]] rfl]
 simp only [ap,al]
 rw [oA h1 h2]
end Go.Proofs.YthdbijpefkapnaaGreatDoor
