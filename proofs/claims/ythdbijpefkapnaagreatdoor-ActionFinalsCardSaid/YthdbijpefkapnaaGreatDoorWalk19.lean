/- YthdbijpefkapnaaGreatDoorWalk19: a part of the proof. -/
import Derived.Test.YthdbijpefkapnaaGreatDoorWalk18
import Derived.Test.YthdbijpefkapnaaGreatDoorCore3
set_option linter.all false
set_option maxHeartbeats 40000000
open Bool renaming false_eq_true → cg, or_eq_false_iff → ct
open Go.Lib renaming hid → ab
open List renaming append_nil → aG
namespace Go.Proofs.YthdbijpefkapnaaGreatDoor
open Go Go.Fen Go.Proofs.Tryz
attribute [local irreducible] aW WP aj dS jl cQ aV cV
set_option maxRecDepth 8000
variable (w0:World) (S:List aH)
theorem gG{b:Nat}(h:32≤b∧b<127):((b:Int)==24)=false∧((b:Int)==26)=false∧((b:Int)==27)=false∧decide ((128:Int)≤(b:Int))=false∧decide ((b:Int)<32)=false∧((b:Int) != 127)=true:=by
 simp only [beq_eq_false_iff_ne,decide_eq_false_iff_not,bne_iff_ne]
 omega
theorem ES(w0:World)(X:List aH)(p:Ps)(l:List Ev)(b:Nat)(hl:l.length≤1000000)(hp:fF p)(hb:b<256)(hn:dH p b)(hs:p.st=0)(hc:32≤b∧b<127)(R:Rt)(h:R (.ret (.tup [])) (aO X (eY p b).1 (l++(eY p b).2))):aj prog w0 82 [.own X.length 0,.int .u8 b] (aO X p l) R:=by
 have c1:=ia hn
 obtain⟨f1,f2,f3,f4,f5,f6⟩:=gG hc
 have k0:=E_ w0 X p l b hl hb
 have hw:=oe w0
 unfold qX at hw
 unfold eY at h
 have z:((0:Nat):Int)=0:=rfl
 clear hl hp hb hn hc
 obtain⟨s0,utf,pv,fn,pars,inter,text,bad⟩:=p
 simp only at hs c1
 subst hs
 simp only at h
 have H:=ab h
 clear h
 simp only [aO,dE,dJ,z] at k0
 simp only [z] at c1
 rcases c1 with⟨_,c9,_⟩|c8
 rotate_left
 ·cases c8
 refine eN func82 rfl ntmps82 fun hO=>?_
 have HO:=ab hO
 clear hO
 simp only [aO,dE,dJ,z]
 repeat' ((fail_if_success (apply cq 20));first|refine st ?_|(refine br ?_ ?_<;>intro hb)|fail)
 refine gi (n:=10) mixed rfl ?_
 refine lu [(135,.agg [.fn (.func 216) [] [],.fn (.func 217) [] [],.fn (.func 218) [] [],.fn (.func 219) [] [],.fn (.func 220) [] [],.fn (.func 221) [] [],.fnil,.fnil,.fn (.func 219) [] [],.fn (.func 220) [] [],.fn (.func 221) [] [],.fnil,.fnil,.fnil,.fnil]),(136,(.own X.length 0)),(137,(.own X.length 0)),(138,(.own X.length 0)),(139,(.own X.length 0)),(140,.int .i64 0),(141,.fn (.func 216) [] []),(142,(.own X.length 0)),(143,.int .u8 b)] rfl rfl rfl (by decide +kernel) (by decide +kernel) ⟨?s0, ?s1, ?s2, ?s3, ?s4, ?s5, ?s6, ?s7, ?s8,trivial⟩ ?z
 case s0|s1|s7|s8 =>
  intro env hd
  have q0:=hd.2 0 rfl
  have q1:=hd.2 1 rfl
  simp only [go_sem, *] at q0 q1
  clear hd
  repeat' first|refine st ?_|(refine ca ?_;apply hw)|(refine br ?_ ?_<;>intro hb)|refine sd ?_|apply au|(apply aF;(· decide +kernel))|refine bd ?_ ?_|(refine cd ?_;apply hw)|fail
  first|exact⟨trivial,trivial⟩|exact⟨rfl,rfl⟩
 case s2 =>
  intro env hd
  have q0:=hd.2 0 rfl
  have q1:=hd.2 1 rfl
  simp only [go_sem, *] at q0 q1
  have r1:=hd.1 1 (by decide +kernel) _ _ rfl
  clear hd
  repeat' first|refine st ?_|(refine ca ?_;apply hw)|(refine br ?_ ?_<;>intro hb)|refine sd ?_|apply au|(apply aF;(· decide +kernel))|refine bd ?_ ?_|(refine cd ?_;apply hw)|fail
  first|exact⟨trivial,trivial⟩|exact⟨rfl,rfl⟩
 case s3 =>
  intro env hd
  have q0:=hd.2 0 rfl
  have q1:=hd.2 1 rfl
  simp only [go_sem, *] at q0 q1
  have r2:=hd.1 2 (by decide +kernel) _ _ rfl
  clear hd
  repeat' first|refine st ?_|(refine ca ?_;apply hw)|(refine br ?_ ?_<;>intro hb)|refine sd ?_|apply au|(apply aF;(· decide +kernel))|refine bd ?_ ?_|(refine cd ?_;apply hw)|fail
  first|exact⟨trivial,trivial⟩|exact⟨rfl,rfl⟩
 case s4 =>
  intro env hd
  have q0:=hd.2 0 rfl
  have q1:=hd.2 1 rfl
  simp only [go_sem, *] at q0 q1
  have r3:=hd.1 3 (by decide +kernel) _ _ rfl
  clear hd
  repeat' first|refine st ?_|(refine ca ?_;apply hw)|(refine br ?_ ?_<;>intro hb)|refine sd ?_|apply au|(apply aF;(· decide +kernel))|refine bd ?_ ?_|(refine cd ?_;apply hw)|fail
  first|exact⟨trivial,trivial⟩|exact⟨rfl,rfl⟩
 case s5 =>
  intro env hd
  have q0:=hd.2 0 rfl
  have q1:=hd.2 1 rfl
  simp only [go_sem, *] at q0 q1
  have r4:=hd.1 4 (by decide +kernel) _ _ rfl
  clear hd
  repeat' first|refine st ?_|(refine ca ?_;apply hw)|(refine br ?_ ?_<;>intro hb)|refine sd ?_|apply au|(apply aF;(· decide +kernel))|refine bd ?_ ?_|(refine cd ?_;apply hw)|fail
  first|exact⟨trivial,trivial⟩|exact⟨rfl,rfl⟩
 case s6 =>
  intro env hd
  have q0:=hd.2 0 rfl
  have q1:=hd.2 1 rfl
  simp only [go_sem, *] at q0 q1
  have r0:=hd.1 0 (by decide +kernel) _ _ rfl
  have r5:=hd.1 5 (by decide +kernel) _ _ rfl
  clear hd
  repeat' first|refine st ?_|(refine ca ?_;apply hw)|(refine br ?_ ?_<;>intro hb)|refine sd ?_|apply au|(apply aF;(· decide +kernel))|refine bd ?_ ?_|(refine cd ?_;apply hw)|fail
  first|exact⟨trivial,trivial⟩|exact⟨rfl,rfl⟩
 case z =>
  intro env hs hk
  have r6:=hs 6 _ _ rfl
  have r7:=hs 7 _ _ rfl
  have r8:=hs 8 _ _ rfl
  have q5:=hk 1000000 rfl
  clear hs hk
  simp only [go_sem] at q5
  repeat' first|refine st ?_|(refine ca ?_;apply k0)|(refine br ?_ ?_<;>intro hb)|refine sd ?_|apply au|(apply aF;(· decide +kernel))|refine bd ?_ ?_|(refine cd ?_;apply k0)|fail
  (apply bN HO.out H.out;(· simp);(· (simp only [go_sem, *];try rfl));(· (simp only [go_sem, *];try rfl));(· (simp only [go_sem, *,results82];try rfl)))
theorem ER(w0:World)(X:List aH)(p:Ps)(l:List Ev)(b:Nat)(hl:l.length≤1000000)(hp:fF p)(hb:b<256)(hn:dH p b)(hs:p.st=1)(hc:32≤b∧b<127)(R:Rt)(h:R (.ret (.tup [])) (aO X (eY p b).1 (l++(eY p b).2))):aj prog w0 82 [.own X.length 0,.int .u8 b] (aO X p l) R:=by
 have c1:=ia hn
 obtain⟨f1,f2,f3,f4,f5,f6⟩:=gG hc
 have k0:=Ff w0 X p l b hl hp hb
 have hw:=oe w0
 unfold qX at hw
 unfold eY at h
 have z:((1:Nat):Int)=1:=rfl
 clear hl hp hb hn hc
 obtain⟨s0,utf,pv,fn,pars,inter,text,bad⟩:=p
 simp only at hs c1
 subst hs
 simp only at h
 have H:=ab h
 clear h
 simp only [aO,dE,dJ,z] at k0
 simp only [z] at c1
 clear c1
 refine eN func82 rfl ntmps82 fun hO=>?_
 have HO:=ab hO
 clear hO
 simp only [aO,dE,dJ,z]
 repeat' ((fail_if_success (apply cq 20));first|refine st ?_|(refine br ?_ ?_<;>intro hb)|fail)
 refine gi (n:=10) mixed rfl ?_
 refine lu [(135,.agg [.fn (.func 216) [] [],.fn (.func 217) [] [],.fn (.func 218) [] [],.fn (.func 219) [] [],.fn (.func 220) [] [],.fn (.func 221) [] [],.fnil,.fnil,.fn (.func 219) [] [],.fn (.func 220) [] [],.fn (.func 221) [] [],.fnil,.fnil,.fnil,.fnil]),(136,(.own X.length 0)),(137,(.own X.length 0)),(138,(.own X.length 0)),(139,(.own X.length 0)),(140,.int .i64 1),(141,.fn (.func 217) [] []),(142,(.own X.length 0)),(143,.int .u8 b)] rfl rfl rfl (by decide +kernel) (by decide +kernel) ⟨?s0, ?s1, ?s2, ?s3, ?s4, ?s5, ?s6, ?s7, ?s8,trivial⟩ ?z
 case s0|s1|s7|s8 =>
  intro env hd
  have q0:=hd.2 0 rfl
  have q1:=hd.2 1 rfl
  simp only [go_sem, *] at q0 q1
  clear hd
  repeat' first|refine st ?_|(refine ca ?_;apply hw)|(refine br ?_ ?_<;>intro hb)|refine sd ?_|apply au|(apply aF;(· decide +kernel))|refine bd ?_ ?_|(refine cd ?_;apply hw)|fail
  first|exact⟨trivial,trivial⟩|exact⟨rfl,rfl⟩
 case s2 =>
  intro env hd
  have q0:=hd.2 0 rfl
  have q1:=hd.2 1 rfl
  simp only [go_sem, *] at q0 q1
  have r1:=hd.1 1 (by decide +kernel) _ _ rfl
  clear hd
  repeat' first|refine st ?_|(refine ca ?_;apply hw)|(refine br ?_ ?_<;>intro hb)|refine sd ?_|apply au|(apply aF;(· decide +kernel))|refine bd ?_ ?_|(refine cd ?_;apply hw)|fail
  first|exact⟨trivial,trivial⟩|exact⟨rfl,rfl⟩
 case s3 =>
  intro env hd
  have q0:=hd.2 0 rfl
  have q1:=hd.2 1 rfl
  simp only [go_sem, *] at q0 q1
  have r2:=hd.1 2 (by decide +kernel) _ _ rfl
  clear hd
  repeat' first|refine st ?_|(refine ca ?_;apply hw)|(refine br ?_ ?_<;>intro hb)|refine sd ?_|apply au|(apply aF;(· decide +kernel))|refine bd ?_ ?_|(refine cd ?_;apply hw)|fail
  first|exact⟨trivial,trivial⟩|exact⟨rfl,rfl⟩
 case s4 =>
  intro env hd
  have q0:=hd.2 0 rfl
  have q1:=hd.2 1 rfl
  simp only [go_sem, *] at q0 q1
  have r3:=hd.1 3 (by decide +kernel) _ _ rfl
  clear hd
  repeat' first|refine st ?_|(refine ca ?_;apply hw)|(refine br ?_ ?_<;>intro hb)|refine sd ?_|apply au|(apply aF;(· decide +kernel))|refine bd ?_ ?_|(refine cd ?_;apply hw)|fail
  first|exact⟨trivial,trivial⟩|exact⟨rfl,rfl⟩
 case s5 =>
  intro env hd
  have q0:=hd.2 0 rfl
  have q1:=hd.2 1 rfl
  simp only [go_sem, *] at q0 q1
  have r4:=hd.1 4 (by decide +kernel) _ _ rfl
  clear hd
  repeat' first|refine st ?_|(refine ca ?_;apply hw)|(refine br ?_ ?_<;>intro hb)|refine sd ?_|apply au|(apply aF;(· decide +kernel))|refine bd ?_ ?_|(refine cd ?_;apply hw)|fail
  first|exact⟨trivial,trivial⟩|exact⟨rfl,rfl⟩
 case s6 =>
  intro env hd
  have q0:=hd.2 0 rfl
  have q1:=hd.2 1 rfl
  simp only [go_sem, *] at q0 q1
  have r0:=hd.1 0 (by decide +kernel) _ _ rfl
  have r5:=hd.1 5 (by decide +kernel) _ _ rfl
  clear hd
  repeat' first|refine st ?_|(refine ca ?_;apply hw)|(refine br ?_ ?_<;>intro hb)|refine sd ?_|apply au|(apply aF;(· decide +kernel))|refine bd ?_ ?_|(refine cd ?_;apply hw)|fail
  first|exact⟨trivial,trivial⟩|exact⟨rfl,rfl⟩
 case z =>
  intro env hs hk
  have r6:=hs 6 _ _ rfl
  have r7:=hs 7 _ _ rfl
  have r8:=hs 8 _ _ rfl
  have q5:=hk 1000000 rfl
  clear hs hk
  simp only [go_sem] at q5
  repeat' first|refine st ?_|(refine ca ?_;apply k0)|(refine br ?_ ?_<;>intro hb)|refine sd ?_|apply au|(apply aF;(· decide +kernel))|refine bd ?_ ?_|(refine cd ?_;apply k0)|fail
  (apply bN HO.out H.out;(· simp);(· (simp only [go_sem, *];try rfl));(· (simp only [go_sem, *];try rfl));(· (simp only [go_sem, *,results82];try rfl)))
theorem EP(w0:World)(X:List aH)(p:Ps)(l:List Ev)(b:Nat)(hl:l.length≤1000000)(hp:fF p)(hb:b<256)(hn:dH p b)(hs:p.st=2)(hc:32≤b∧b<127)(R:Rt)(h:R (.ret (.tup [])) (aO X (eY p b).1 (l++(eY p b).2))):aj prog w0 82 [.own X.length 0,.int .u8 b] (aO X p l) R:=by
 have c1:=ia hn
 obtain⟨f1,f2,f3,f4,f5,f6⟩:=gG hc
 have k0:=IG w0 X p l b hl hp hb
 have hw:=oe w0
 unfold qX at hw
 unfold eY at h
 have z:((2:Nat):Int)=2:=rfl
 clear hl hp hb hn hc
 obtain⟨s0,utf,pv,fn,pars,inter,text,bad⟩:=p
 simp only at hs c1
 subst hs
 simp only at h
 have H:=ab h
 clear h
 simp only [aO,dE,dJ,z] at k0
 simp only [z] at c1
 clear c1
 refine eN func82 rfl ntmps82 fun hO=>?_
 have HO:=ab hO
 clear hO
 simp only [aO,dE,dJ,z]
 repeat' ((fail_if_success (apply cq 20));first|refine st ?_|(refine br ?_ ?_<;>intro hb)|fail)
 refine gi (n:=10) mixed rfl ?_
 refine lu [(135,.agg [.fn (.func 216) [] [],.fn (.func 217) [] [],.fn (.func 218) [] [],.fn (.func 219) [] [],.fn (.func 220) [] [],.fn (.func 221) [] [],.fnil,.fnil,.fn (.func 219) [] [],.fn (.func 220) [] [],.fn (.func 221) [] [],.fnil,.fnil,.fnil,.fnil]),(136,(.own X.length 0)),(137,(.own X.length 0)),(138,(.own X.length 0)),(139,(.own X.length 0)),(140,.int .i64 2),(141,.fn (.func 218) [] []),(142,(.own X.length 0)),(143,.int .u8 b)] rfl rfl rfl (by decide +kernel) (by decide +kernel) ⟨?s0, ?s1, ?s2, ?s3, ?s4, ?s5, ?s6, ?s7, ?s8,trivial⟩ ?z
 case s0|s1|s7|s8 =>
  intro env hd
  have q0:=hd.2 0 rfl
  have q1:=hd.2 1 rfl
  simp only [go_sem, *] at q0 q1
  clear hd
  repeat' first|refine st ?_|(refine ca ?_;apply hw)|(refine br ?_ ?_<;>intro hb)|refine sd ?_|apply au|(apply aF;(· decide +kernel))|refine bd ?_ ?_|(refine cd ?_;apply hw)|fail
  first|exact⟨trivial,trivial⟩|exact⟨rfl,rfl⟩
 case s2 =>
  intro env hd
  have q0:=hd.2 0 rfl
  have q1:=hd.2 1 rfl
  simp only [go_sem, *] at q0 q1
  have r1:=hd.1 1 (by decide +kernel) _ _ rfl
  clear hd
  repeat' first|refine st ?_|(refine ca ?_;apply hw)|(refine br ?_ ?_<;>intro hb)|refine sd ?_|apply au|(apply aF;(· decide +kernel))|refine bd ?_ ?_|(refine cd ?_;apply hw)|fail
  first|exact⟨trivial,trivial⟩|exact⟨rfl,rfl⟩
 case s3 =>
  intro env hd
  have q0:=hd.2 0 rfl
  have q1:=hd.2 1 rfl
  simp only [go_sem, *] at q0 q1
  have r2:=hd.1 2 (by decide +kernel) _ _ rfl
  clear hd
  repeat' first|refine st ?_|(refine ca ?_;apply hw)|(refine br ?_ ?_<;>intro hb)|refine sd ?_|apply au|(apply aF;(· decide +kernel))|refine bd ?_ ?_|(refine cd ?_;apply hw)|fail
  first|exact⟨trivial,trivial⟩|exact⟨rfl,rfl⟩
 case s4 =>
  intro env hd
  have q0:=hd.2 0 rfl
  have q1:=hd.2 1 rfl
  simp only [go_sem, *] at q0 q1
  have r3:=hd.1 3 (by decide +kernel) _ _ rfl
  clear hd
  repeat' first|refine st ?_|(refine ca ?_;apply hw)|(refine br ?_ ?_<;>intro hb)|refine sd ?_|apply au|(apply aF;(· decide +kernel))|refine bd ?_ ?_|(refine cd ?_;apply hw)|fail
  first|exact⟨trivial,trivial⟩|exact⟨rfl,rfl⟩
 case s5 =>
  intro env hd
  have q0:=hd.2 0 rfl
  have q1:=hd.2 1 rfl
  simp only [go_sem, *] at q0 q1
  have r4:=hd.1 4 (by decide +kernel) _ _ rfl
  clear hd
  repeat' first|refine st ?_|(refine ca ?_;apply hw)|(refine br ?_ ?_<;>intro hb)|refine sd ?_|apply au|(apply aF;(· decide +kernel))|refine bd ?_ ?_|(refine cd ?_;apply hw)|fail
  first|exact⟨trivial,trivial⟩|exact⟨rfl,rfl⟩
 case s6 =>
  intro env hd
  have q0:=hd.2 0 rfl
  have q1:=hd.2 1 rfl
  simp only [go_sem, *] at q0 q1
  have r0:=hd.1 0 (by decide +kernel) _ _ rfl
  have r5:=hd.1 5 (by decide +kernel) _ _ rfl
  clear hd
  repeat' first|refine st ?_|(refine ca ?_;apply hw)|(refine br ?_ ?_<;>intro hb)|refine sd ?_|apply au|(apply aF;(· decide +kernel))|refine bd ?_ ?_|(refine cd ?_;apply hw)|fail
  first|exact⟨trivial,trivial⟩|exact⟨rfl,rfl⟩
 case z =>
  intro env hs hk
  have r6:=hs 6 _ _ rfl
  have r7:=hs 7 _ _ rfl
  have r8:=hs 8 _ _ rfl
  have q5:=hk 1000000 rfl
  clear hs hk
  simp only [go_sem] at q5
  repeat' first|refine st ?_|(refine ca ?_;apply k0)|(refine br ?_ ?_<;>intro hb)|refine sd ?_|apply au|(apply aF;(· decide +kernel))|refine bd ?_ ?_|(refine cd ?_;apply k0)|fail
  (apply bN HO.out H.out;(· simp);(· (simp only [go_sem, *];try rfl));(· (simp only [go_sem, *];try rfl));(· (simp only [go_sem, *,results82];try rfl)))
theorem EO(w0:World)(X:List aH)(p:Ps)(l:List Ev)(b:Nat)(hl:l.length≤1000000)(hp:fF p)(hb:b<256)(hn:dH p b)(hs:p.st=3)(hc:32≤b∧b<127)(R:Rt)(h:R (.ret (.tup [])) (aO X (eY p b).1 (l++(eY p b).2))):aj prog w0 82 [.own X.length 0,.int .u8 b] (aO X p l) R:=by
 have c1:=ia hn
 obtain⟨f1,f2,f3,f4,f5,f6⟩:=gG hc
 have k0:=Cw w0 X p l b hl hp hb
 have hw:=oe w0
 unfold qX at hw
 unfold eY at h
 have z:((3:Nat):Int)=3:=rfl
 clear hl hp hb hn hc
 obtain⟨s0,utf,pv,fn,pars,inter,text,bad⟩:=p
 simp only at hs c1
 subst hs
 simp only at h
 have H:=ab h
 clear h
 simp only [aO,dE,dJ,z] at k0
 simp only [z] at c1
 clear c1
 refine eN func82 rfl ntmps82 fun hO=>?_
 have HO:=ab hO
 clear hO
 simp only [aO,dE,dJ,z]
 repeat' ((fail_if_success (apply cq 20));first|refine st ?_|(refine br ?_ ?_<;>intro hb)|fail)
 refine gi (n:=10) mixed rfl ?_
 refine lu [(135,.agg [.fn (.func 216) [] [],.fn (.func 217) [] [],.fn (.func 218) [] [],.fn (.func 219) [] [],.fn (.func 220) [] [],.fn (.func 221) [] [],.fnil,.fnil,.fn (.func 219) [] [],.fn (.func 220) [] [],.fn (.func 221) [] [],.fnil,.fnil,.fnil,.fnil]),(136,(.own X.length 0)),(137,(.own X.length 0)),(138,(.own X.length 0)),(139,(.own X.length 0)),(140,.int .i64 3),(141,.fn (.func 219) [] []),(142,(.own X.length 0)),(143,.int .u8 b)] rfl rfl rfl (by decide +kernel) (by decide +kernel) ⟨?s0, ?s1, ?s2, ?s3, ?s4, ?s5, ?s6, ?s7, ?s8,trivial⟩ ?z
 case s0|s1|s7|s8 =>
  intro env hd
  have q0:=hd.2 0 rfl
  have q1:=hd.2 1 rfl
  simp only [go_sem, *] at q0 q1
  clear hd
  repeat' first|refine st ?_|(refine ca ?_;apply hw)|(refine br ?_ ?_<;>intro hb)|refine sd ?_|apply au|(apply aF;(· decide +kernel))|refine bd ?_ ?_|(refine cd ?_;apply hw)|fail
  first|exact⟨trivial,trivial⟩|exact⟨rfl,rfl⟩
 case s2 =>
  intro env hd
  have q0:=hd.2 0 rfl
  have q1:=hd.2 1 rfl
  simp only [go_sem, *] at q0 q1
  have r1:=hd.1 1 (by decide +kernel) _ _ rfl
  clear hd
  repeat' first|refine st ?_|(refine ca ?_;apply hw)|(refine br ?_ ?_<;>intro hb)|refine sd ?_|apply au|(apply aF;(· decide +kernel))|refine bd ?_ ?_|(refine cd ?_;apply hw)|fail
  first|exact⟨trivial,trivial⟩|exact⟨rfl,rfl⟩
 case s3 =>
  intro env hd
  have q0:=hd.2 0 rfl
  have q1:=hd.2 1 rfl
  simp only [go_sem, *] at q0 q1
  have r2:=hd.1 2 (by decide +kernel) _ _ rfl
  clear hd
  repeat' first|refine st ?_|(refine ca ?_;apply hw)|(refine br ?_ ?_<;>intro hb)|refine sd ?_|apply au|(apply aF;(· decide +kernel))|refine bd ?_ ?_|(refine cd ?_;apply hw)|fail
  first|exact⟨trivial,trivial⟩|exact⟨rfl,rfl⟩
 case s4 =>
  intro env hd
  have q0:=hd.2 0 rfl
  have q1:=hd.2 1 rfl
  simp only [go_sem, *] at q0 q1
  have r3:=hd.1 3 (by decide +kernel) _ _ rfl
  clear hd
  repeat' first|refine st ?_|(refine ca ?_;apply hw)|(refine br ?_ ?_<;>intro hb)|refine sd ?_|apply au|(apply aF;(· decide +kernel))|refine bd ?_ ?_|(refine cd ?_;apply hw)|fail
  first|exact⟨trivial,trivial⟩|exact⟨rfl,rfl⟩
 case s5 =>
  intro env hd
  have q0:=hd.2 0 rfl
  have q1:=hd.2 1 rfl
  simp only [go_sem, *] at q0 q1
  have r4:=hd.1 4 (by decide +kernel) _ _ rfl
  clear hd
  repeat' first|refine st ?_|(refine ca ?_;apply hw)|(refine br ?_ ?_<;>intro hb)|refine sd ?_|apply au|(apply aF;(· decide +kernel))|refine bd ?_ ?_|(refine cd ?_;apply hw)|fail
  first|exact⟨trivial,trivial⟩|exact⟨rfl,rfl⟩
 case s6 =>
  intro env hd
  have q0:=hd.2 0 rfl
  have q1:=hd.2 1 rfl
  simp only [go_sem, *] at q0 q1
  have r0:=hd.1 0 (by decide +kernel) _ _ rfl
  have r5:=hd.1 5 (by decide +kernel) _ _ rfl
  clear hd
  repeat' first|refine st ?_|(refine ca ?_;apply hw)|(refine br ?_ ?_<;>intro hb)|refine sd ?_|apply au|(apply aF;(· decide +kernel))|refine bd ?_ ?_|(refine cd ?_;apply hw)|fail
  first|exact⟨trivial,trivial⟩|exact⟨rfl,rfl⟩
 case z =>
  intro env hs hk
  have r6:=hs 6 _ _ rfl
  have r7:=hs 7 _ _ rfl
  have r8:=hs 8 _ _ rfl
  have q5:=hk 1000000 rfl
  clear hs hk
  simp only [go_sem] at q5
  repeat' first|refine st ?_|(refine ca ?_;apply k0)|(refine br ?_ ?_<;>intro hb)|refine sd ?_|apply au|(apply aF;(· decide +kernel))|refine bd ?_ ?_|(refine cd ?_;apply k0)|fail
  (apply bN HO.out H.out;(· simp);(· (simp only [go_sem, *];try rfl));(· (simp only [go_sem, *];try rfl));(· (simp only [go_sem, *,results82];try rfl)))
theorem EN(w0:World)(X:List aH)(p:Ps)(l:List Ev)(b:Nat)(hl:l.length≤1000000)(hp:fF p)(hb:b<256)(hn:dH p b)(hs:p.st=4)(hc:32≤b∧b<127)(R:Rt)(h:R (.ret (.tup [])) (aO X (eY p b).1 (l++(eY p b).2))):aj prog w0 82 [.own X.length 0,.int .u8 b] (aO X p l) R:=by
 have c1:=ia hn
 obtain⟨f1,f2,f3,f4,f5,f6⟩:=gG hc
 have k0:=zl w0 X p l b hl hp hb
 have hw:=oe w0
 unfold qX at hw
 unfold eY at h
 have z:((4:Nat):Int)=4:=rfl
 clear hl hp hb hn hc
 obtain⟨s0,utf,pv,fn,pars,inter,text,bad⟩:=p
 simp only at hs c1
 subst hs
 simp only at h
 have H:=ab h
 clear h
 simp only [aO,dE,dJ,z] at k0
 simp only [z] at c1
 clear c1
 refine eN func82 rfl ntmps82 fun hO=>?_
 have HO:=ab hO
 clear hO
 simp only [aO,dE,dJ,z]
 repeat' ((fail_if_success (apply cq 20));first|refine st ?_|(refine br ?_ ?_<;>intro hb)|fail)
 refine gi (n:=10) mixed rfl ?_
 refine lu [(135,.agg [.fn (.func 216) [] [],.fn (.func 217) [] [],.fn (.func 218) [] [],.fn (.func 219) [] [],.fn (.func 220) [] [],.fn (.func 221) [] [],.fnil,.fnil,.fn (.func 219) [] [],.fn (.func 220) [] [],.fn (.func 221) [] [],.fnil,.fnil,.fnil,.fnil]),(136,(.own X.length 0)),(137,(.own X.length 0)),(138,(.own X.length 0)),(139,(.own X.length 0)),(140,.int .i64 4),(141,.fn (.func 220) [] []),(142,(.own X.length 0)),(143,.int .u8 b)] rfl rfl rfl (by decide +kernel) (by decide +kernel) ⟨?s0, ?s1, ?s2, ?s3, ?s4, ?s5, ?s6, ?s7, ?s8,trivial⟩ ?z
 case s0|s1|s7|s8 =>
  intro env hd
  have q0:=hd.2 0 rfl
  have q1:=hd.2 1 rfl
  simp only [go_sem, *] at q0 q1
  clear hd
  repeat' first|refine st ?_|(refine ca ?_;apply hw)|(refine br ?_ ?_<;>intro hb)|refine sd ?_|apply au|(apply aF;(· decide +kernel))|refine bd ?_ ?_|(refine cd ?_;apply hw)|fail
  first|exact⟨trivial,trivial⟩|exact⟨rfl,rfl⟩
 case s2 =>
  intro env hd
  have q0:=hd.2 0 rfl
  have q1:=hd.2 1 rfl
  simp only [go_sem, *] at q0 q1
  have r1:=hd.1 1 (by decide +kernel) _ _ rfl
  clear hd
  repeat' first|refine st ?_|(refine ca ?_;apply hw)|(refine br ?_ ?_<;>intro hb)|refine sd ?_|apply au|(apply aF;(· decide +kernel))|refine bd ?_ ?_|(refine cd ?_;apply hw)|fail
  first|exact⟨trivial,trivial⟩|exact⟨rfl,rfl⟩
 case s3 =>
  intro env hd
  have q0:=hd.2 0 rfl
  have q1:=hd.2 1 rfl
  simp only [go_sem, *] at q0 q1
  have r2:=hd.1 2 (by decide +kernel) _ _ rfl
  clear hd
  repeat' first|refine st ?_|(refine ca ?_;apply hw)|(refine br ?_ ?_<;>intro hb)|refine sd ?_|apply au|(apply aF;(· decide +kernel))|refine bd ?_ ?_|(refine cd ?_;apply hw)|fail
  first|exact⟨trivial,trivial⟩|exact⟨rfl,rfl⟩
 case s4 =>
  intro env hd
  have q0:=hd.2 0 rfl
  have q1:=hd.2 1 rfl
  simp only [go_sem, *] at q0 q1
  have r3:=hd.1 3 (by decide +kernel) _ _ rfl
  clear hd
  repeat' first|refine st ?_|(refine ca ?_;apply hw)|(refine br ?_ ?_<;>intro hb)|refine sd ?_|apply au|(apply aF;(· decide +kernel))|refine bd ?_ ?_|(refine cd ?_;apply hw)|fail
  first|exact⟨trivial,trivial⟩|exact⟨rfl,rfl⟩
 case s5 =>
  intro env hd
  have q0:=hd.2 0 rfl
  have q1:=hd.2 1 rfl
  simp only [go_sem, *] at q0 q1
  have r4:=hd.1 4 (by decide +kernel) _ _ rfl
  clear hd
  repeat' first|refine st ?_|(refine ca ?_;apply hw)|(refine br ?_ ?_<;>intro hb)|refine sd ?_|apply au|(apply aF;(· decide +kernel))|refine bd ?_ ?_|(refine cd ?_;apply hw)|fail
  first|exact⟨trivial,trivial⟩|exact⟨rfl,rfl⟩
 case s6 =>
  intro env hd
  have q0:=hd.2 0 rfl
  have q1:=hd.2 1 rfl
  simp only [go_sem, *] at q0 q1
  have r0:=hd.1 0 (by decide +kernel) _ _ rfl
  have r5:=hd.1 5 (by decide +kernel) _ _ rfl
  clear hd
  repeat' first|refine st ?_|(refine ca ?_;apply hw)|(refine br ?_ ?_<;>intro hb)|refine sd ?_|apply au|(apply aF;(· decide +kernel))|refine bd ?_ ?_|(refine cd ?_;apply hw)|fail
  first|exact⟨trivial,trivial⟩|exact⟨rfl,rfl⟩
 case z =>
  intro env hs hk
  have r6:=hs 6 _ _ rfl
  have r7:=hs 7 _ _ rfl
  have r8:=hs 8 _ _ rfl
  have q5:=hk 1000000 rfl
  clear hs hk
  simp only [go_sem] at q5
  repeat' first|refine st ?_|(refine ca ?_;apply k0)|(refine br ?_ ?_<;>intro hb)|refine sd ?_|apply au|(apply aF;(· decide +kernel))|refine bd ?_ ?_|(refine cd ?_;apply k0)|fail
  (apply bN HO.out H.out;(· simp);(· (simp only [go_sem, *];try rfl));(· (simp only [go_sem, *];try rfl));(· (simp only [go_sem, *,results82];try rfl)))
theorem EL(w0:World)(X:List aH)(p:Ps)(l:List Ev)(b:Nat)(hl:l.length≤1000000)(hp:fF p)(hb:b<256)(hn:dH p b)(hs:p.st=5)(hc:32≤b∧b<127)(R:Rt)(h:R (.ret (.tup [])) (aO X (eY p b).1 (l++(eY p b).2))):aj prog w0 82 [.own X.length 0,.int .u8 b] (aO X p l) R:=by
 have c1:=ia hn
 obtain⟨f1,f2,f3,f4,f5,f6⟩:=gG hc
 have k0:=zm w0 X p l b hl hp hb
 have hw:=oe w0
 unfold qX at hw
 unfold eY at h
 have z:((5:Nat):Int)=5:=rfl
 clear hl hp hb hn hc
 obtain⟨s0,utf,pv,fn,pars,inter,text,bad⟩:=p
 simp only at hs c1
 subst hs
 simp only at h
 have H:=ab h
 clear h
 simp only [aO,dE,dJ,z] at k0
 simp only [z] at c1
 clear c1
 refine eN func82 rfl ntmps82 fun hO=>?_
 have HO:=ab hO
 clear hO
 simp only [aO,dE,dJ,z]
 repeat' ((fail_if_success (apply cq 20));first|refine st ?_|(refine br ?_ ?_<;>intro hb)|fail)
 refine gi (n:=10) mixed rfl ?_
 refine lu [(135,.agg [.fn (.func 216) [] [],.fn (.func 217) [] [],.fn (.func 218) [] [],.fn (.func 219) [] [],.fn (.func 220) [] [],.fn (.func 221) [] [],.fnil,.fnil,.fn (.func 219) [] [],.fn (.func 220) [] [],.fn (.func 221) [] [],.fnil,.fnil,.fnil,.fnil]),(136,(.own X.length 0)),(137,(.own X.length 0)),(138,(.own X.length 0)),(139,(.own X.length 0)),(140,.int .i64 5),(141,.fn (.func 221) [] []),(142,(.own X.length 0)),(143,.int .u8 b)] rfl rfl rfl (by decide +kernel) (by decide +kernel) ⟨?s0, ?s1, ?s2, ?s3, ?s4, ?s5, ?s6, ?s7, ?s8,trivial⟩ ?z
 case s0|s1|s7|s8 =>
  intro env hd
  have q0:=hd.2 0 rfl
  have q1:=hd.2 1 rfl
  simp only [go_sem, *] at q0 q1
  clear hd
  repeat' first|refine st ?_|(refine ca ?_;apply hw)|(refine br ?_ ?_<;>intro hb)|refine sd ?_|apply au|(apply aF;(· decide +kernel))|refine bd ?_ ?_|(refine cd ?_;apply hw)|fail
  first|exact⟨trivial,trivial⟩|exact⟨rfl,rfl⟩
 case s2 =>
  intro env hd
  have q0:=hd.2 0 rfl
  have q1:=hd.2 1 rfl
  simp only [go_sem, *] at q0 q1
  have r1:=hd.1 1 (by decide +kernel) _ _ rfl
  clear hd
  repeat' first|refine st ?_|(refine ca ?_;apply hw)|(refine br ?_ ?_<;>intro hb)|refine sd ?_|apply au|(apply aF;(· decide +kernel))|refine bd ?_ ?_|(refine cd ?_;apply hw)|fail
  first|exact⟨trivial,trivial⟩|exact⟨rfl,rfl⟩
 case s3 =>
  intro env hd
  have q0:=hd.2 0 rfl
  have q1:=hd.2 1 rfl
  simp only [go_sem, *] at q0 q1
  have r2:=hd.1 2 (by decide +kernel) _ _ rfl
  clear hd
  repeat' first|refine st ?_|(refine ca ?_;apply hw)|(refine br ?_ ?_<;>intro hb)|refine sd ?_|apply au|(apply aF;(· decide +kernel))|refine bd ?_ ?_|(refine cd ?_;apply hw)|fail
  first|exact⟨trivial,trivial⟩|exact⟨rfl,rfl⟩
 case s4 =>
  intro env hd
  have q0:=hd.2 0 rfl
  have q1:=hd.2 1 rfl
  simp only [go_sem, *] at q0 q1
  have r3:=hd.1 3 (by decide +kernel) _ _ rfl
  clear hd
  repeat' first|refine st ?_|(refine ca ?_;apply hw)|(refine br ?_ ?_<;>intro hb)|refine sd ?_|apply au|(apply aF;(· decide +kernel))|refine bd ?_ ?_|(refine cd ?_;apply hw)|fail
  first|exact⟨trivial,trivial⟩|exact⟨rfl,rfl⟩
 case s5 =>
  intro env hd
  have q0:=hd.2 0 rfl
  have q1:=hd.2 1 rfl
  simp only [go_sem, *] at q0 q1
  have r4:=hd.1 4 (by decide +kernel) _ _ rfl
  clear hd
  repeat' first|refine st ?_|(refine ca ?_;apply hw)|(refine br ?_ ?_<;>intro hb)|refine sd ?_|apply au|(apply aF;(· decide +kernel))|refine bd ?_ ?_|(refine cd ?_;apply hw)|fail
  first|exact⟨trivial,trivial⟩|exact⟨rfl,rfl⟩
 case s6 =>
  intro env hd
  have q0:=hd.2 0 rfl
  have q1:=hd.2 1 rfl
  simp only [go_sem, *] at q0 q1
  have r0:=hd.1 0 (by decide +kernel) _ _ rfl
  have r5:=hd.1 5 (by decide +kernel) _ _ rfl
  clear hd
  repeat' first|refine st ?_|(refine ca ?_;apply hw)|(refine br ?_ ?_<;>intro hb)|refine sd ?_|apply au|(apply aF;(· decide +kernel))|refine bd ?_ ?_|(refine cd ?_;apply hw)|fail
  first|exact⟨trivial,trivial⟩|exact⟨rfl,rfl⟩
 case z =>
  intro env hs hk
  have r6:=hs 6 _ _ rfl
  have r7:=hs 7 _ _ rfl
  have r8:=hs 8 _ _ rfl
  have q5:=hk 1000000 rfl
  clear hs hk
  simp only [go_sem] at q5
  repeat' first|refine st ?_|(refine ca ?_;apply k0)|(refine br ?_ ?_<;>intro hb)|refine sd ?_|apply au|(apply aF;(· decide +kernel))|refine bd ?_ ?_|(refine cd ?_;apply k0)|fail
  (apply bN HO.out H.out;(· simp);(· (simp only [go_sem, *];try rfl));(· (simp only [go_sem, *];try rfl));(· (simp only [go_sem, *,results82];try rfl)))
theorem EK(w0:World)(X:List aH)(p:Ps)(l:List Ev)(b:Nat)(hl:l.length≤1000000)(hp:fF p)(hb:b<256)(hn:dH p b)(hs:p.st=8)(hc:32≤b∧b<127)(R:Rt)(h:R (.ret (.tup [])) (aO X (eY p b).1 (l++(eY p b).2))):aj prog w0 82 [.own X.length 0,.int .u8 b] (aO X p l) R:=by
 have c1:=ia hn
 obtain⟨f1,f2,f3,f4,f5,f6⟩:=gG hc
 have k0:=Cw w0 X p l b hl hp hb
 have hw:=oe w0
 unfold qX at hw
 unfold eY at h
 have z:((8:Nat):Int)=8:=rfl
 clear hl hp hb hn hc
 obtain⟨s0,utf,pv,fn,pars,inter,text,bad⟩:=p
 simp only at hs c1
 subst hs
 simp only at h
 have H:=ab h
 clear h
 simp only [aO,dE,dJ,z] at k0
 simp only [z] at c1
 clear c1
 refine eN func82 rfl ntmps82 fun hO=>?_
 have HO:=ab hO
 clear hO
 simp only [aO,dE,dJ,z]
 repeat' ((fail_if_success (apply cq 20));first|refine st ?_|(refine br ?_ ?_<;>intro hb)|fail)
 refine gi (n:=10) mixed rfl ?_
 refine lu [(135,.agg [.fn (.func 216) [] [],.fn (.func 217) [] [],.fn (.func 218) [] [],.fn (.func 219) [] [],.fn (.func 220) [] [],.fn (.func 221) [] [],.fnil,.fnil,.fn (.func 219) [] [],.fn (.func 220) [] [],.fn (.func 221) [] [],.fnil,.fnil,.fnil,.fnil]),(136,(.own X.length 0)),(137,(.own X.length 0)),(138,(.own X.length 0)),(139,(.own X.length 0)),(140,.int .i64 8),(141,.fn (.func 219) [] []),(142,(.own X.length 0)),(143,.int .u8 b)] rfl rfl rfl (by decide +kernel) (by decide +kernel) ⟨?s0, ?s1, ?s2, ?s3, ?s4, ?s5, ?s6, ?s7, ?s8,trivial⟩ ?z
 case s0|s1|s7|s8 =>
  intro env hd
  have q0:=hd.2 0 rfl
  have q1:=hd.2 1 rfl
  simp only [go_sem, *] at q0 q1
  clear hd
  repeat' first|refine st ?_|(refine ca ?_;apply hw)|(refine br ?_ ?_<;>intro hb)|refine sd ?_|apply au|(apply aF;(· decide +kernel))|refine bd ?_ ?_|(refine cd ?_;apply hw)|fail
  first|exact⟨trivial,trivial⟩|exact⟨rfl,rfl⟩
 case s2 =>
  intro env hd
  have q0:=hd.2 0 rfl
  have q1:=hd.2 1 rfl
  simp only [go_sem, *] at q0 q1
  have r1:=hd.1 1 (by decide +kernel) _ _ rfl
  clear hd
  repeat' first|refine st ?_|(refine ca ?_;apply hw)|(refine br ?_ ?_<;>intro hb)|refine sd ?_|apply au|(apply aF;(· decide +kernel))|refine bd ?_ ?_|(refine cd ?_;apply hw)|fail
  first|exact⟨trivial,trivial⟩|exact⟨rfl,rfl⟩
 case s3 =>
  intro env hd
  have q0:=hd.2 0 rfl
  have q1:=hd.2 1 rfl
  simp only [go_sem, *] at q0 q1
  have r2:=hd.1 2 (by decide +kernel) _ _ rfl
  clear hd
  repeat' first|refine st ?_|(refine ca ?_;apply hw)|(refine br ?_ ?_<;>intro hb)|refine sd ?_|apply au|(apply aF;(· decide +kernel))|refine bd ?_ ?_|(refine cd ?_;apply hw)|fail
  first|exact⟨trivial,trivial⟩|exact⟨rfl,rfl⟩
 case s4 =>
  intro env hd
  have q0:=hd.2 0 rfl
  have q1:=hd.2 1 rfl
  simp only [go_sem, *] at q0 q1
  have r3:=hd.1 3 (by decide +kernel) _ _ rfl
  clear hd
  repeat' first|refine st ?_|(refine ca ?_;apply hw)|(refine br ?_ ?_<;>intro hb)|refine sd ?_|apply au|(apply aF;(· decide +kernel))|refine bd ?_ ?_|(refine cd ?_;apply hw)|fail
  first|exact⟨trivial,trivial⟩|exact⟨rfl,rfl⟩
 case s5 =>
  intro env hd
  have q0:=hd.2 0 rfl
  have q1:=hd.2 1 rfl
  simp only [go_sem, *] at q0 q1
  have r4:=hd.1 4 (by decide +kernel) _ _ rfl
  clear hd
  repeat' first|refine st ?_|(refine ca ?_;apply hw)|(refine br ?_ ?_<;>intro hb)|refine sd ?_|apply au|(apply aF;(· decide +kernel))|refine bd ?_ ?_|(refine cd ?_;apply hw)|fail
  first|exact⟨trivial,trivial⟩|exact⟨rfl,rfl⟩
 case s6 =>
  intro env hd
  have q0:=hd.2 0 rfl
  have q1:=hd.2 1 rfl
  simp only [go_sem, *] at q0 q1
  have r0:=hd.1 0 (by decide +kernel) _ _ rfl
  have r5:=hd.1 5 (by decide +kernel) _ _ rfl
  clear hd
  repeat' first|refine st ?_|(refine ca ?_;apply hw)|(refine br ?_ ?_<;>intro hb)|refine sd ?_|apply au|(apply aF;(· decide +kernel))|refine bd ?_ ?_|(refine cd ?_;apply hw)|fail
  first|exact⟨trivial,trivial⟩|exact⟨rfl,rfl⟩
 case z =>
  intro env hs hk
  have r6:=hs 6 _ _ rfl
  have r7:=hs 7 _ _ rfl
  have r8:=hs 8 _ _ rfl
  have q5:=hk 1000000 rfl
  clear hs hk
  simp only [go_sem] at q5
  repeat' first|refine st ?_|(refine ca ?_;apply k0)|(refine br ?_ ?_<;>intro hb)|refine sd ?_|apply au|(apply aF;(· decide +kernel))|refine bd ?_ ?_|(refine cd ?_;apply k0)|fail
  (apply bN HO.out H.out;(· simp);(· (simp only [go_sem, *];try rfl));(· (simp only [go_sem, *];try rfl));(· (simp only [go_sem, *,results82];try rfl)))
theorem EJ(w0:World)(X:List aH)(p:Ps)(l:List Ev)(b:Nat)(hl:l.length≤1000000)(hp:fF p)(hb:b<256)(hn:dH p b)(hs:p.st=9)(hc:32≤b∧b<127)(R:Rt)(h:R (.ret (.tup [])) (aO X (eY p b).1 (l++(eY p b).2))):aj prog w0 82 [.own X.length 0,.int .u8 b] (aO X p l) R:=by
 have c1:=ia hn
 obtain⟨f1,f2,f3,f4,f5,f6⟩:=gG hc
 have k0:=zl w0 X p l b hl hp hb
 have hw:=oe w0
 unfold qX at hw
 unfold eY at h
 have z:((9:Nat):Int)=9:=rfl
 clear hl hp hb hn hc
 obtain⟨s0,utf,pv,fn,pars,inter,text,bad⟩:=p
 simp only at hs c1
 subst hs
 simp only at h
 have H:=ab h
 clear h
 simp only [aO,dE,dJ,z] at k0
 simp only [z] at c1
 clear c1
 refine eN func82 rfl ntmps82 fun hO=>?_
 have HO:=ab hO
 clear hO
 simp only [aO,dE,dJ,z]
 repeat' ((fail_if_success (apply cq 20));first|refine st ?_|(refine br ?_ ?_<;>intro hb)|fail)
 refine gi (n:=10) mixed rfl ?_
 refine lu [(135,.agg [.fn (.func 216) [] [],.fn (.func 217) [] [],.fn (.func 218) [] [],.fn (.func 219) [] [],.fn (.func 220) [] [],.fn (.func 221) [] [],.fnil,.fnil,.fn (.func 219) [] [],.fn (.func 220) [] [],.fn (.func 221) [] [],.fnil,.fnil,.fnil,.fnil]),(136,(.own X.length 0)),(137,(.own X.length 0)),(138,(.own X.length 0)),(139,(.own X.length 0)),(140,.int .i64 9),(141,.fn (.func 220) [] []),(142,(.own X.length 0)),(143,.int .u8 b)] rfl rfl rfl (by decide +kernel) (by decide +kernel) ⟨?s0, ?s1, ?s2, ?s3, ?s4, ?s5, ?s6, ?s7, ?s8,trivial⟩ ?z
 case s0|s1|s7|s8 =>
  intro env hd
  have q0:=hd.2 0 rfl
  have q1:=hd.2 1 rfl
  simp only [go_sem, *] at q0 q1
  clear hd
  repeat' first|refine st ?_|(refine ca ?_;apply hw)|(refine br ?_ ?_<;>intro hb)|refine sd ?_|apply au|(apply aF;(· decide +kernel))|refine bd ?_ ?_|(refine cd ?_;apply hw)|fail
  first|exact⟨trivial,trivial⟩|exact⟨rfl,rfl⟩
 case s2 =>
  intro env hd
  have q0:=hd.2 0 rfl
  have q1:=hd.2 1 rfl
  simp only [go_sem, *] at q0 q1
  have r1:=hd.1 1 (by decide +kernel) _ _ rfl
  clear hd
  repeat' first|refine st ?_|(refine ca ?_;apply hw)|(refine br ?_ ?_<;>intro hb)|refine sd ?_|apply au|(apply aF;(· decide +kernel))|refine bd ?_ ?_|(refine cd ?_;apply hw)|fail
  first|exact⟨trivial,trivial⟩|exact⟨rfl,rfl⟩
 case s3 =>
  intro env hd
  have q0:=hd.2 0 rfl
  have q1:=hd.2 1 rfl
  simp only [go_sem, *] at q0 q1
  have r2:=hd.1 2 (by decide +kernel) _ _ rfl
  clear hd
  repeat' first|refine st ?_|(refine ca ?_;apply hw)|(refine br ?_ ?_<;>intro hb)|refine sd ?_|apply au|(apply aF;(· decide +kernel))|refine bd ?_ ?_|(refine cd ?_;apply hw)|fail
  first|exact⟨trivial,trivial⟩|exact⟨rfl,rfl⟩
 case s4 =>
  intro env hd
  have q0:=hd.2 0 rfl
  have q1:=hd.2 1 rfl
  simp only [go_sem, *] at q0 q1
  have r3:=hd.1 3 (by decide +kernel) _ _ rfl
  clear hd
  repeat' first|refine st ?_|(refine ca ?_;apply hw)|(refine br ?_ ?_<;>intro hb)|refine sd ?_|apply au|(apply aF;(· decide +kernel))|refine bd ?_ ?_|(refine cd ?_;apply hw)|fail
  first|exact⟨trivial,trivial⟩|exact⟨rfl,rfl⟩
 case s5 =>
  intro env hd
  have q0:=hd.2 0 rfl
  have q1:=hd.2 1 rfl
  simp only [go_sem, *] at q0 q1
  have r4:=hd.1 4 (by decide +kernel) _ _ rfl
  clear hd
  repeat' first|refine st ?_|(refine ca ?_;apply hw)|(refine br ?_ ?_<;>intro hb)|refine sd ?_|apply au|(apply aF;(· decide +kernel))|refine bd ?_ ?_|(refine cd ?_;apply hw)|fail
  first|exact⟨trivial,trivial⟩|exact⟨rfl,rfl⟩
 case s6 =>
  intro env hd
  have q0:=hd.2 0 rfl
  have q1:=hd.2 1 rfl
  simp only [go_sem, *] at q0 q1
  have r0:=hd.1 0 (by decide +kernel) _ _ rfl
  have r5:=hd.1 5 (by decide +kernel) _ _ rfl
  clear hd
  repeat' first|refine st ?_|(refine ca ?_;apply hw)|(refine br ?_ ?_<;>intro hb)|refine sd ?_|apply au|(apply aF;(· decide +kernel))|refine bd ?_ ?_|(refine cd ?_;apply hw)|fail
  first|exact⟨trivial,trivial⟩|exact⟨rfl,rfl⟩
 case z =>
  intro env hs hk
  have r6:=hs 6 _ _ rfl
  have r7:=hs 7 _ _ rfl
  have r8:=hs 8 _ _ rfl
  have q5:=hk 1000000 rfl
  clear hs hk
  simp only [go_sem] at q5
  repeat' first|refine st ?_|(refine ca ?_;apply k0)|(refine br ?_ ?_<;>intro hb)|refine sd ?_|apply au|(apply aF;(· decide +kernel))|refine bd ?_ ?_|(refine cd ?_;apply k0)|fail
  (apply bN HO.out H.out;(· simp);(· (simp only [go_sem, *];try rfl));(· (simp only [go_sem, *];try rfl));(· (simp only [go_sem, *,results82];try rfl)))
theorem Ck(w0:World)(X:List aH)(p:Ps)(l:List Ev)(b:Nat)(hl:l.length≤1000000)(hp:fF p)(hb:b<256)(hn:dH p b)(hs:p.st=10)(hc:32≤b∧b<127)(R:Rt)(h:R (.ret (.tup [])) (aO X (eY p b).1 (l++(eY p b).2))):aj prog w0 82 [.own X.length 0,.int .u8 b] (aO X p l) R:=by
 have c1:=ia hn
 obtain⟨f1,f2,f3,f4,f5,f6⟩:=gG hc
 have k0:=zm w0 X p l b hl hp hb
 have hw:=oe w0
 unfold qX at hw
 unfold eY at h
 have z:((10:Nat):Int)=10:=rfl
 clear hl hp hb hn hc
 obtain⟨s0,utf,pv,fn,pars,inter,text,bad⟩:=p
 simp only at hs c1
 subst hs
 simp only at h
 have H:=ab h
 clear h
 simp only [aO,dE,dJ,z] at k0
 simp only [z] at c1
 clear c1
 refine eN func82 rfl ntmps82 fun hO=>?_
 have HO:=ab hO
 clear hO
 simp only [aO,dE,dJ,z]
 repeat' ((fail_if_success (apply cq 20));first|refine st ?_|(refine br ?_ ?_<;>intro hb)|fail)
 refine gi (n:=10) mixed rfl ?_
 refine lu [(135,.agg [.fn (.func 216) [] [],.fn (.func 217) [] [],.fn (.func 218) [] [],.fn (.func 219) [] [],.fn (.func 220) [] [],.fn (.func 221) [] [],.fnil,.fnil,.fn (.func 219) [] [],.fn (.func 220) [] [],.fn (.func 221) [] [],.fnil,.fnil,.fnil,.fnil]),(136,(.own X.length 0)),(137,(.own X.length 0)),(138,(.own X.length 0)),(139,(.own X.length 0)),(140,.int .i64 10),(141,.fn (.func 221) [] []),(142,(.own X.length 0)),(143,.int .u8 b)] rfl rfl rfl (by decide +kernel) (by decide +kernel) ⟨?s0, ?s1, ?s2, ?s3, ?s4, ?s5, ?s6, ?s7, ?s8,trivial⟩ ?z
 case s0|s1|s7|s8 =>
  intro env hd
  have q0:=hd.2 0 rfl
  have q1:=hd.2 1 rfl
  simp only [go_sem, *] at q0 q1
  clear hd
  repeat' first|refine st ?_|(refine ca ?_;apply hw)|(refine br ?_ ?_<;>intro hb)|refine sd ?_|apply au|(apply aF;(· decide +kernel))|refine bd ?_ ?_|(refine cd ?_;apply hw)|fail
  first|exact⟨trivial,trivial⟩|exact⟨rfl,rfl⟩
 case s2 =>
  intro env hd
  have q0:=hd.2 0 rfl
  have q1:=hd.2 1 rfl
  simp only [go_sem, *] at q0 q1
  have r1:=hd.1 1 (by decide +kernel) _ _ rfl
  clear hd
  repeat' first|refine st ?_|(refine ca ?_;apply hw)|(refine br ?_ ?_<;>intro hb)|refine sd ?_|apply au|(apply aF;(· decide +kernel))|refine bd ?_ ?_|(refine cd ?_;apply hw)|fail
  first|exact⟨trivial,trivial⟩|exact⟨rfl,rfl⟩
 case s3 =>
  intro env hd
  have q0:=hd.2 0 rfl
  have q1:=hd.2 1 rfl
  simp only [go_sem, *] at q0 q1
  have r2:=hd.1 2 (by decide +kernel) _ _ rfl
  clear hd
  repeat' first|refine st ?_|(refine ca ?_;apply hw)|(refine br ?_ ?_<;>intro hb)|refine sd ?_|apply au|(apply aF;(· decide +kernel))|refine bd ?_ ?_|(refine cd ?_;apply hw)|fail
  first|exact⟨trivial,trivial⟩|exact⟨rfl,rfl⟩
 case s4 =>
  intro env hd
  have q0:=hd.2 0 rfl
  have q1:=hd.2 1 rfl
  simp only [go_sem, *] at q0 q1
  have r3:=hd.1 3 (by decide +kernel) _ _ rfl
  clear hd
  repeat' first|refine st ?_|(refine ca ?_;apply hw)|(refine br ?_ ?_<;>intro hb)|refine sd ?_|apply au|(apply aF;(· decide +kernel))|refine bd ?_ ?_|(refine cd ?_;apply hw)|fail
  first|exact⟨trivial,trivial⟩|exact⟨rfl,rfl⟩
 case s5 =>
  intro env hd
  have q0:=hd.2 0 rfl
  have q1:=hd.2 1 rfl
  simp only [go_sem, *] at q0 q1
  have r4:=hd.1 4 (by decide +kernel) _ _ rfl
  clear hd
  repeat' first|refine st ?_|(refine ca ?_;apply hw)|(refine br ?_ ?_<;>intro hb)|refine sd ?_|apply au|(apply aF;(· decide +kernel))|refine bd ?_ ?_|(refine cd ?_;apply hw)|fail
  first|exact⟨trivial,trivial⟩|exact⟨rfl,rfl⟩
 case s6 =>
  intro env hd
  have q0:=hd.2 0 rfl
  have q1:=hd.2 1 rfl
  simp only [go_sem, *] at q0 q1
  have r0:=hd.1 0 (by decide +kernel) _ _ rfl
  have r5:=hd.1 5 (by decide +kernel) _ _ rfl
  clear hd
  repeat' first|refine st ?_|(refine ca ?_;apply hw)|(refine br ?_ ?_<;>intro hb)|refine sd ?_|apply au|(apply aF;(· decide +kernel))|refine bd ?_ ?_|(refine cd ?_;apply hw)|fail
  first|exact⟨trivial,trivial⟩|exact⟨rfl,rfl⟩
 case z =>
  intro env hs hk
  have r6:=hs 6 _ _ rfl
  have r7:=hs 7 _ _ rfl
  have r8:=hs 8 _ _ rfl
  have q5:=hk 1000000 rfl
  clear hs hk
  simp only [go_sem] at q5
  repeat' first|refine st ?_|(refine ca ?_;apply k0)|(refine br ?_ ?_<;>intro hb)|refine sd ?_|apply au|(apply aF;(· decide +kernel))|refine bd ?_ ?_|(refine cd ?_;apply k0)|fail
  (apply bN HO.out H.out;(· simp);(· (simp only [go_sem, *];try rfl));(· (simp only [go_sem, *];try rfl));(· (simp only [go_sem, *,results82];try rfl)))
theorem Cl(w0:World)(X:List aH)(p:Ps)(l:List Ev)(b:Nat)(hl:l.length≤1000000)(hp:fF p)(hb:b<256)(hn:dH p b)(he:jY p.st=true→b=24∨b=26∨b=27)(ht:gg p.st=true∨b<128∨b=24∨b=26∨b=27)(R:Rt)(h:R (.ret (.tup [])) (aO X (take1 p b).1 (l++(take1 p b).2))):aj prog w0 82 [.own X.length 0,.int .u8 b] (aO X p l) R:=by
 have hnn:=hn
 unfold dH at hnn
 unfold take1 at h
 rw [if_neg hnn] at h
 by_cases c1:b=24∨b=26
 ·rw [if_pos c1] at h
  simp only [aG] at h
  exact EY w0 X p l b hl hp hb hn c1 R h
 rw [if_neg c1] at h
 by_cases c2:b=27
 ·rw [if_pos c2] at h
  cases hx:gg p.st with
  | true =>
   rw [hx] at h
   simp only [if_true,aG] at h
   exact EX w0 X p l b hl hp hb hn c2 hx R h
  | false =>
   rw [hx] at h
   simp only [cg,if_false,aG] at h
   exact EW w0 X p l b hl hp hb hn c2 hx R h
 rw [if_neg c2] at h
 have c3:b≠24∧b≠26∧b≠27:=by omega
 have he':jY p.st=false:=by
  cases hx:jY p.st with
  | false=>rfl
  | true=>have:=he hx;omega
 cases hx:gg p.st with
 | true =>
  rw [hx] at h
  simp only [if_true] at h
  exact EV w0 X p l b hl hp hb hn c3 hx R h
 | false =>
  have hb1:b<128:=by
   rcases ht with ht|ht
   ·rw [hx] at ht;cases ht
   ·omega
  rw [hx,if_neg (by decide),if_neg (by omega)] at h
  by_cases c4:b<32
  ·rw [if_pos c4] at h
   exact EU w0 X p l b hl hp hb hn c3 c4 hx he' R h
  rw [if_neg c4] at h
  by_cases c5:b=127
  ·rw [if_pos c5] at h
   simp only [aG] at h
   exact ET w0 X p l b hl hp hb hn c5 hx he' R h
  rw [if_neg c5] at h
  have hs:=hp.st
  have hc:32≤b∧b<127:=by omega
  have hst:p.st=0∨p.st=1∨p.st=2∨p.st=3∨p.st=4∨p.st=5∨p.st=8∨p.st=9∨p.st=10:=by
   unfold gg at hx
   unfold jY at he'
   simp only [ct,beq_eq_false_iff_ne] at hx he'
   omega
  rcases hst with hst|hst|hst|hst|hst|hst|hst|hst|hst
  ·exact ES w0 X p l b hl hp hb hn hst hc R h
  ·exact ER w0 X p l b hl hp hb hn hst hc R h
  ·exact EP w0 X p l b hl hp hb hn hst hc R h
  ·exact EO w0 X p l b hl hp hb hn hst hc R h
  ·exact EN w0 X p l b hl hp hb hn hst hc R h
  ·exact EL w0 X p l b hl hp hb hn hst hc R h
  ·exact EK w0 X p l b hl hp hb hn hst hc R h
  ·exact EJ w0 X p l b hl hp hb hn hst hc R h
  ·exact Ck w0 X p l b hl hp hb hn hst hc R h
theorem DK{c:Nat}(h:c<32∨c=127):take1 (dg 0) c=vn c:=by
 have e:(dg 0).st=0:=rfl
 have e2:(dg 0).utf=[]:=rfl
 unfold take1 vn
 rw [e,e2,if_neg (by simp;omega)]
 split
 ·rfl
 ·next h1 =>
  split
  ·rfl
  ·next h2 =>
   rw [if_neg (by decide),if_neg (by omega)]
   split
   ·rfl
   ·next h3=>rw [if_pos (by omega)]
theorem L7(w0:World)(X:List aH)(l:List Ev)(c:Nat)(hl:l.length≤1000000)(hc:c<32∨c=127)(R:Rt)(h:R (.ret (.tup [])) (aO X (vn c).1 (l++(vn c).2))):aj prog w0 82 [.own X.length 0,.int .u8 c] (aO X (dg 0) l) R:=by
 rw [← DK hc] at h
 refine Cl w0 X (dg 0) l c hl (fF.beg (by decide)) (by omega) ?_ (fun h=>by cases h) (by omega) R h
 unfold dH
 have e2:(dg 0).utf=[]:=rfl
 rw [e2]
 simp
 omega
theorem JW{p:List Nat}{b i c:Nat}(h:(dP p b).2[i]? = some c)(hc:c<32∨c=127):(((dP p b).2.take i).foldl ik ({ dg 0 with utf:=(dP p b).1 },[])).1=dg 0:=by
 have key:∀ (q:List Nat × List Nat),q.2[i]? = some c→(q.1=[]∧(q.2=[c]∨q.2=[65533,c]))→((q.2.take i).foldl ik ({ dg 0 with utf:=q.1 },[])).1=dg 0:=by
  rintro q hq ⟨h1,h2|h2⟩
  ·rw [h2] at hq ⊢
   match i,hq with
   | 0,_=>rw [h1];rfl
   | n+1,hq=>simp at hq
  ·rw [h2] at hq ⊢
   match i,hq with
   | 0,hq=>simp at hq;omega
   | 1,_=>rw [h1];rfl
   | n+2,hq=>simp at hq
 refine key _ h ?_
 have one:∀ {x:Nat},[x][i]? = some c→x=c:=by
  intro x hx
  match i,hx with
  | 0,hx=>simpa using hx
  | n+1,hx=>simp at hx
 revert h
 unfold dP
 split
 ·intro h;exact⟨rfl,.inl (by rw [one h])⟩
 ·split
  ·intro h;simp at h
  ·split
   ·intro h;have:=one h;omega
   ·unfold gA
    split
    ·intro h
     refine⟨rfl,.inr ?_⟩
     simp only at h
     match i,h with
     | 0,h=>simp at h;omega
     | 1,h=>simp at h;rw [h]
     | n+2,h=>simp at h
    ·split
     ·intro h;have:=one h;omega
     ·intro h
      simp only at h
      match i,h with
      | 0,h=>simp at h;omega
      | 1,h=>simp at h;omega
      | n+2,h=>simp at h
theorem Cp(a b c:Int)(R:Rt)(h:R (.ret (.bool (decide (a<b)||decide (c<a)))) S):aj prog w0 165 [.int .u8 a,.int .u8 b,.int .u8 c] S R:=by
 cases d:decide (a<b)<;>rw [d] at h
 all_goals
  refine eN func165 rfl ntmps165 fun hO=>?_
  repeat' first|refine st ?_|(refine br ?_ ?_<;>intro hb)|fail
  refine fR results165 ?_
  first|exact h|(simpa using h)
end Go.Proofs.YthdbijpefkapnaaGreatDoor
