/- A part of the proof. -/
import Derived.Test.YthdbijpefkapnaaGreatDoorOfWalk18
set_option linter.all false
set_option maxHeartbeats 40000000
open Bool renaming false_eq_true → aZ, or_eq_false_iff → cF
open Go.Lib renaming hid → ab
open List renaming append_nil → aG
namespace Go.Proofs.YthdbijpefkapnaaGreatDoor
open Go Go.Fen Go.Proofs.Tryz
attribute [local irreducible] aX WP ao dS i7 cJ aU cC
set_option maxRecDepth 8000
variable (w0:World) (S:List aH)
theorem gY{b:Nat}(h:32≤b∧b<127):((b:Int)==24)=false∧((b:Int)==26)=false∧((b:Int)==27)=false∧decide ((128:Int)≤(b:Int))=false∧decide ((b:Int)<32)=false∧((b:Int) != 127)=true:=by
 simp only [beq_eq_false_iff_ne,decide_eq_false_iff_not,bne_iff_ne]
 omega
theorem FX(w0:World)(X:List aH)(p:Ps)(l:List Ev)(b:Nat)(hl:l.length≤1000000)(hp:fj p)(hb:b<256)(hn:dQ p b)(hs:p.st=0)(hc:32≤b∧b<127)(R:Rt)(h:R (.ret (.tup [])) (aQ X (dr p b).1 (l++(dr p b).2))):ao prog w0 82 [.own X.length 0,.int .u8 b] (aQ X p l) R:=by
 have c1:=iC hn
 obtain⟨f1,f2,f3,f4,f5,f6⟩:=gY hc
 have k0:=Gb w0 X p l b hl hb
 have hw:=oZ w0
 unfold rQ at hw
 unfold dr at h
 have z:((0:Nat):Int)=0:=rfl
 clear hl hp hb hn hc
 obtain⟨s0,utf,pv,fn,pars,inter,text,bad⟩:=p
 simp only at hs c1
 subst hs
 simp only at h
 have H:=ab h
 clear h
 simp only [aQ,dL,dU,z] at k0
 simp only [z] at c1
 rcases c1 with⟨_,c9,_⟩|c8
 rotate_left
 ·cases c8
 refine eN func82 rfl ntmps82 fun hO=>?_
 have HO:=ab hO
 clear hO
 simp only [aQ,dL,dU,z]
 repeat' ((fail_if_success (apply ci 20));first|refine st ?_|(refine br ?_ ?_<;>intro hb)|fail)
 refine gy (n:=10) mixed rfl ?_
 refine lV [(135,.agg [.fn (.func 216) [] [],.fn (.func 217) [] [],.fn (.func 218) [] [],.fn (.func 219) [] [],.fn (.func 220) [] [],.fn (.func 221) [] [],.fnil,.fnil,.fn (.func 219) [] [],.fn (.func 220) [] [],.fn (.func 221) [] [],.fnil,.fnil,.fnil,.fnil]),(136,(.own X.length 0)),(137,(.own X.length 0)),(138,(.own X.length 0)),(139,(.own X.length 0)),(140,.int .i64 0),(141,.fn (.func 216) [] []),(142,(.own X.length 0)),(143,.int .u8 b)] rfl rfl rfl (by decide +kernel) (by decide +kernel) ⟨?s0, ?s1, ?s2, ?s3, ?s4, ?s5, ?s6, ?s7, ?s8,trivial⟩ ?z
 case s0|s1|s7|s8 =>
  intro env hd
  have q0:=hd.2 0 rfl
  have q1:=hd.2 1 rfl
  simp only [go_sem, *] at q0 q1
  clear hd
  refine Δ1 hw ?_
  first|exact⟨trivial,trivial⟩|exact⟨rfl,rfl⟩
 case s2 =>
  intro env hd
  have q0:=hd.2 0 rfl
  have q1:=hd.2 1 rfl
  simp only [go_sem, *] at q0 q1
  have r1:=hd.1 1 (by decide +kernel) _ _ rfl
  clear hd
  refine Δ1 hw ?_
  first|exact⟨trivial,trivial⟩|exact⟨rfl,rfl⟩
 case s3 =>
  intro env hd
  have q0:=hd.2 0 rfl
  have q1:=hd.2 1 rfl
  simp only [go_sem, *] at q0 q1
  have r2:=hd.1 2 (by decide +kernel) _ _ rfl
  clear hd
  refine Δ1 hw ?_
  first|exact⟨trivial,trivial⟩|exact⟨rfl,rfl⟩
 case s4 =>
  intro env hd
  have q0:=hd.2 0 rfl
  have q1:=hd.2 1 rfl
  simp only [go_sem, *] at q0 q1
  have r3:=hd.1 3 (by decide +kernel) _ _ rfl
  clear hd
  refine Δ1 hw ?_
  first|exact⟨trivial,trivial⟩|exact⟨rfl,rfl⟩
 case s5 =>
  intro env hd
  have q0:=hd.2 0 rfl
  have q1:=hd.2 1 rfl
  simp only [go_sem, *] at q0 q1
  have r4:=hd.1 4 (by decide +kernel) _ _ rfl
  clear hd
  refine Δ1 hw ?_
  first|exact⟨trivial,trivial⟩|exact⟨rfl,rfl⟩
 case s6 =>
  intro env hd
  have q0:=hd.2 0 rfl
  have q1:=hd.2 1 rfl
  simp only [go_sem, *] at q0 q1
  have r0:=hd.1 0 (by decide +kernel) _ _ rfl
  have r5:=hd.1 5 (by decide +kernel) _ _ rfl
  clear hd
  refine Δ1 hw ?_
  first|exact⟨trivial,trivial⟩|exact⟨rfl,rfl⟩
 case z =>
  intro env hs hk
  have r6:=hs 6 _ _ rfl
  have r7:=hs 7 _ _ rfl
  have r8:=hs 8 _ _ rfl
  have q5:=hk 1000000 rfl
  clear hs hk
  simp only [go_sem] at q5
  refine Δ1 k0 ?_
  (apply bS HO.out H.out;(· simp);(· (simp only [go_sem, *];try rfl));(· (simp only [go_sem, *];try rfl));(· (simp only [go_sem, *,results82];try rfl)))
theorem FW(w0:World)(X:List aH)(p:Ps)(l:List Ev)(b:Nat)(hl:l.length≤1000000)(hp:fj p)(hb:b<256)(hn:dQ p b)(hs:p.st=1)(hc:32≤b∧b<127)(R:Rt)(h:R (.ret (.tup [])) (aQ X (dr p b).1 (l++(dr p b).2))):ao prog w0 82 [.own X.length 0,.int .u8 b] (aQ X p l) R:=by
 have c1:=iC hn
 obtain⟨f1,f2,f3,f4,f5,f6⟩:=gY hc
 have k0:=Gh w0 X p l b hl hp hb
 have hw:=oZ w0
 unfold rQ at hw
 unfold dr at h
 have z:((1:Nat):Int)=1:=rfl
 clear hl hp hb hn hc
 obtain⟨s0,utf,pv,fn,pars,inter,text,bad⟩:=p
 simp only at hs c1
 subst hs
 simp only at h
 have H:=ab h
 clear h
 simp only [aQ,dL,dU,z] at k0
 simp only [z] at c1
 clear c1
 refine eN func82 rfl ntmps82 fun hO=>?_
 have HO:=ab hO
 clear hO
 simp only [aQ,dL,dU,z]
 repeat' ((fail_if_success (apply ci 20));first|refine st ?_|(refine br ?_ ?_<;>intro hb)|fail)
 refine gy (n:=10) mixed rfl ?_
 refine lV [(135,.agg [.fn (.func 216) [] [],.fn (.func 217) [] [],.fn (.func 218) [] [],.fn (.func 219) [] [],.fn (.func 220) [] [],.fn (.func 221) [] [],.fnil,.fnil,.fn (.func 219) [] [],.fn (.func 220) [] [],.fn (.func 221) [] [],.fnil,.fnil,.fnil,.fnil]),(136,(.own X.length 0)),(137,(.own X.length 0)),(138,(.own X.length 0)),(139,(.own X.length 0)),(140,.int .i64 1),(141,.fn (.func 217) [] []),(142,(.own X.length 0)),(143,.int .u8 b)] rfl rfl rfl (by decide +kernel) (by decide +kernel) ⟨?s0, ?s1, ?s2, ?s3, ?s4, ?s5, ?s6, ?s7, ?s8,trivial⟩ ?z
 case s0|s1|s7|s8 =>
  intro env hd
  have q0:=hd.2 0 rfl
  have q1:=hd.2 1 rfl
  simp only [go_sem, *] at q0 q1
  clear hd
  refine Δ1 hw ?_
  first|exact⟨trivial,trivial⟩|exact⟨rfl,rfl⟩
 case s2 =>
  intro env hd
  have q0:=hd.2 0 rfl
  have q1:=hd.2 1 rfl
  simp only [go_sem, *] at q0 q1
  have r1:=hd.1 1 (by decide +kernel) _ _ rfl
  clear hd
  refine Δ1 hw ?_
  first|exact⟨trivial,trivial⟩|exact⟨rfl,rfl⟩
 case s3 =>
  intro env hd
  have q0:=hd.2 0 rfl
  have q1:=hd.2 1 rfl
  simp only [go_sem, *] at q0 q1
  have r2:=hd.1 2 (by decide +kernel) _ _ rfl
  clear hd
  refine Δ1 hw ?_
  first|exact⟨trivial,trivial⟩|exact⟨rfl,rfl⟩
 case s4 =>
  intro env hd
  have q0:=hd.2 0 rfl
  have q1:=hd.2 1 rfl
  simp only [go_sem, *] at q0 q1
  have r3:=hd.1 3 (by decide +kernel) _ _ rfl
  clear hd
  refine Δ1 hw ?_
  first|exact⟨trivial,trivial⟩|exact⟨rfl,rfl⟩
 case s5 =>
  intro env hd
  have q0:=hd.2 0 rfl
  have q1:=hd.2 1 rfl
  simp only [go_sem, *] at q0 q1
  have r4:=hd.1 4 (by decide +kernel) _ _ rfl
  clear hd
  refine Δ1 hw ?_
  first|exact⟨trivial,trivial⟩|exact⟨rfl,rfl⟩
 case s6 =>
  intro env hd
  have q0:=hd.2 0 rfl
  have q1:=hd.2 1 rfl
  simp only [go_sem, *] at q0 q1
  have r0:=hd.1 0 (by decide +kernel) _ _ rfl
  have r5:=hd.1 5 (by decide +kernel) _ _ rfl
  clear hd
  refine Δ1 hw ?_
  first|exact⟨trivial,trivial⟩|exact⟨rfl,rfl⟩
 case z =>
  intro env hs hk
  have r6:=hs 6 _ _ rfl
  have r7:=hs 7 _ _ rfl
  have r8:=hs 8 _ _ rfl
  have q5:=hk 1000000 rfl
  clear hs hk
  simp only [go_sem] at q5
  refine Δ1 k0 ?_
  (apply bS HO.out H.out;(· simp);(· (simp only [go_sem, *];try rfl));(· (simp only [go_sem, *];try rfl));(· (simp only [go_sem, *,results82];try rfl)))
theorem FV(w0:World)(X:List aH)(p:Ps)(l:List Ev)(b:Nat)(hl:l.length≤1000000)(hp:fj p)(hb:b<256)(hn:dQ p b)(hs:p.st=2)(hc:32≤b∧b<127)(R:Rt)(h:R (.ret (.tup [])) (aQ X (dr p b).1 (l++(dr p b).2))):ao prog w0 82 [.own X.length 0,.int .u8 b] (aQ X p l) R:=by
 have c1:=iC hn
 obtain⟨f1,f2,f3,f4,f5,f6⟩:=gY hc
 have k0:=JX w0 X p l b hl hp hb
 have hw:=oZ w0
 unfold rQ at hw
 unfold dr at h
 have z:((2:Nat):Int)=2:=rfl
 clear hl hp hb hn hc
 obtain⟨s0,utf,pv,fn,pars,inter,text,bad⟩:=p
 simp only at hs c1
 subst hs
 simp only at h
 have H:=ab h
 clear h
 simp only [aQ,dL,dU,z] at k0
 simp only [z] at c1
 clear c1
 refine eN func82 rfl ntmps82 fun hO=>?_
 have HO:=ab hO
 clear hO
 simp only [aQ,dL,dU,z]
 repeat' ((fail_if_success (apply ci 20));first|refine st ?_|(refine br ?_ ?_<;>intro hb)|fail)
 refine gy (n:=10) mixed rfl ?_
 refine lV [(135,.agg [.fn (.func 216) [] [],.fn (.func 217) [] [],.fn (.func 218) [] [],.fn (.func 219) [] [],.fn (.func 220) [] [],.fn (.func 221) [] [],.fnil,.fnil,.fn (.func 219) [] [],.fn (.func 220) [] [],.fn (.func 221) [] [],.fnil,.fnil,.fnil,.fnil]),(136,(.own X.length 0)),(137,(.own X.length 0)),(138,(.own X.length 0)),(139,(.own X.length 0)),(140,.int .i64 2),(141,.fn (.func 218) [] []),(142,(.own X.length 0)),(143,.int .u8 b)] rfl rfl rfl (by decide +kernel) (by decide +kernel) ⟨?s0, ?s1, ?s2, ?s3, ?s4, ?s5, ?s6, ?s7, ?s8,trivial⟩ ?z
 case s0|s1|s7|s8 =>
  intro env hd
  have q0:=hd.2 0 rfl
  have q1:=hd.2 1 rfl
  simp only [go_sem, *] at q0 q1
  clear hd
  refine Δ1 hw ?_
  first|exact⟨trivial,trivial⟩|exact⟨rfl,rfl⟩
 case s2 =>
  intro env hd
  have q0:=hd.2 0 rfl
  have q1:=hd.2 1 rfl
  simp only [go_sem, *] at q0 q1
  have r1:=hd.1 1 (by decide +kernel) _ _ rfl
  clear hd
  refine Δ1 hw ?_
  first|exact⟨trivial,trivial⟩|exact⟨rfl,rfl⟩
 case s3 =>
  intro env hd
  have q0:=hd.2 0 rfl
  have q1:=hd.2 1 rfl
  simp only [go_sem, *] at q0 q1
  have r2:=hd.1 2 (by decide +kernel) _ _ rfl
  clear hd
  refine Δ1 hw ?_
  first|exact⟨trivial,trivial⟩|exact⟨rfl,rfl⟩
 case s4 =>
  intro env hd
  have q0:=hd.2 0 rfl
  have q1:=hd.2 1 rfl
  simp only [go_sem, *] at q0 q1
  have r3:=hd.1 3 (by decide +kernel) _ _ rfl
  clear hd
  refine Δ1 hw ?_
  first|exact⟨trivial,trivial⟩|exact⟨rfl,rfl⟩
 case s5 =>
  intro env hd
  have q0:=hd.2 0 rfl
  have q1:=hd.2 1 rfl
  simp only [go_sem, *] at q0 q1
  have r4:=hd.1 4 (by decide +kernel) _ _ rfl
  clear hd
  refine Δ1 hw ?_
  first|exact⟨trivial,trivial⟩|exact⟨rfl,rfl⟩
 case s6 =>
  intro env hd
  have q0:=hd.2 0 rfl
  have q1:=hd.2 1 rfl
  simp only [go_sem, *] at q0 q1
  have r0:=hd.1 0 (by decide +kernel) _ _ rfl
  have r5:=hd.1 5 (by decide +kernel) _ _ rfl
  clear hd
  refine Δ1 hw ?_
  first|exact⟨trivial,trivial⟩|exact⟨rfl,rfl⟩
 case z =>
  intro env hs hk
  have r6:=hs 6 _ _ rfl
  have r7:=hs 7 _ _ rfl
  have r8:=hs 8 _ _ rfl
  have q5:=hk 1000000 rfl
  clear hs hk
  simp only [go_sem] at q5
  refine Δ1 k0 ?_
  (apply bS HO.out H.out;(· simp);(· (simp only [go_sem, *];try rfl));(· (simp only [go_sem, *];try rfl));(· (simp only [go_sem, *,results82];try rfl)))
theorem FU(w0:World)(X:List aH)(p:Ps)(l:List Ev)(b:Nat)(hl:l.length≤1000000)(hp:fj p)(hb:b<256)(hn:dQ p b)(hs:p.st=3)(hc:32≤b∧b<127)(R:Rt)(h:R (.ret (.tup [])) (aQ X (dr p b).1 (l++(dr p b).2))):ao prog w0 82 [.own X.length 0,.int .u8 b] (aQ X p l) R:=by
 have c1:=iC hn
 obtain⟨f1,f2,f3,f4,f5,f6⟩:=gY hc
 have k0:=Dr w0 X p l b hl hp hb
 have hw:=oZ w0
 unfold rQ at hw
 unfold dr at h
 have z:((3:Nat):Int)=3:=rfl
 clear hl hp hb hn hc
 obtain⟨s0,utf,pv,fn,pars,inter,text,bad⟩:=p
 simp only at hs c1
 subst hs
 simp only at h
 have H:=ab h
 clear h
 simp only [aQ,dL,dU,z] at k0
 simp only [z] at c1
 clear c1
 refine eN func82 rfl ntmps82 fun hO=>?_
 have HO:=ab hO
 clear hO
 simp only [aQ,dL,dU,z]
 repeat' ((fail_if_success (apply ci 20));first|refine st ?_|(refine br ?_ ?_<;>intro hb)|fail)
 refine gy (n:=10) mixed rfl ?_
 refine lV [(135,.agg [.fn (.func 216) [] [],.fn (.func 217) [] [],.fn (.func 218) [] [],.fn (.func 219) [] [],.fn (.func 220) [] [],.fn (.func 221) [] [],.fnil,.fnil,.fn (.func 219) [] [],.fn (.func 220) [] [],.fn (.func 221) [] [],.fnil,.fnil,.fnil,.fnil]),(136,(.own X.length 0)),(137,(.own X.length 0)),(138,(.own X.length 0)),(139,(.own X.length 0)),(140,.int .i64 3),(141,.fn (.func 219) [] []),(142,(.own X.length 0)),(143,.int .u8 b)] rfl rfl rfl (by decide +kernel) (by decide +kernel) ⟨?s0, ?s1, ?s2, ?s3, ?s4, ?s5, ?s6, ?s7, ?s8,trivial⟩ ?z
 case s0|s1|s7|s8 =>
  intro env hd
  have q0:=hd.2 0 rfl
  have q1:=hd.2 1 rfl
  simp only [go_sem, *] at q0 q1
  clear hd
  refine Δ1 hw ?_
  first|exact⟨trivial,trivial⟩|exact⟨rfl,rfl⟩
 case s2 =>
  intro env hd
  have q0:=hd.2 0 rfl
  have q1:=hd.2 1 rfl
  simp only [go_sem, *] at q0 q1
  have r1:=hd.1 1 (by decide +kernel) _ _ rfl
  clear hd
  refine Δ1 hw ?_
  first|exact⟨trivial,trivial⟩|exact⟨rfl,rfl⟩
 case s3 =>
  intro env hd
  have q0:=hd.2 0 rfl
  have q1:=hd.2 1 rfl
  simp only [go_sem, *] at q0 q1
  have r2:=hd.1 2 (by decide +kernel) _ _ rfl
  clear hd
  refine Δ1 hw ?_
  first|exact⟨trivial,trivial⟩|exact⟨rfl,rfl⟩
 case s4 =>
  intro env hd
  have q0:=hd.2 0 rfl
  have q1:=hd.2 1 rfl
  simp only [go_sem, *] at q0 q1
  have r3:=hd.1 3 (by decide +kernel) _ _ rfl
  clear hd
  refine Δ1 hw ?_
  first|exact⟨trivial,trivial⟩|exact⟨rfl,rfl⟩
 case s5 =>
  intro env hd
  have q0:=hd.2 0 rfl
  have q1:=hd.2 1 rfl
  simp only [go_sem, *] at q0 q1
  have r4:=hd.1 4 (by decide +kernel) _ _ rfl
  clear hd
  refine Δ1 hw ?_
  first|exact⟨trivial,trivial⟩|exact⟨rfl,rfl⟩
 case s6 =>
  intro env hd
  have q0:=hd.2 0 rfl
  have q1:=hd.2 1 rfl
  simp only [go_sem, *] at q0 q1
  have r0:=hd.1 0 (by decide +kernel) _ _ rfl
  have r5:=hd.1 5 (by decide +kernel) _ _ rfl
  clear hd
  refine Δ1 hw ?_
  first|exact⟨trivial,trivial⟩|exact⟨rfl,rfl⟩
 case z =>
  intro env hs hk
  have r6:=hs 6 _ _ rfl
  have r7:=hs 7 _ _ rfl
  have r8:=hs 8 _ _ rfl
  have q5:=hk 1000000 rfl
  clear hs hk
  simp only [go_sem] at q5
  refine Δ1 k0 ?_
  (apply bS HO.out H.out;(· simp);(· (simp only [go_sem, *];try rfl));(· (simp only [go_sem, *];try rfl));(· (simp only [go_sem, *,results82];try rfl)))
theorem FT(w0:World)(X:List aH)(p:Ps)(l:List Ev)(b:Nat)(hl:l.length≤1000000)(hp:fj p)(hb:b<256)(hn:dQ p b)(hs:p.st=4)(hc:32≤b∧b<127)(R:Rt)(h:R (.ret (.tup [])) (aQ X (dr p b).1 (l++(dr p b).2))):ao prog w0 82 [.own X.length 0,.int .u8 b] (aQ X p l) R:=by
 have c1:=iC hn
 obtain⟨f1,f2,f3,f4,f5,f6⟩:=gY hc
 have k0:=Au w0 X p l b hl hp hb
 have hw:=oZ w0
 unfold rQ at hw
 unfold dr at h
 have z:((4:Nat):Int)=4:=rfl
 clear hl hp hb hn hc
 obtain⟨s0,utf,pv,fn,pars,inter,text,bad⟩:=p
 simp only at hs c1
 subst hs
 simp only at h
 have H:=ab h
 clear h
 simp only [aQ,dL,dU,z] at k0
 simp only [z] at c1
 clear c1
 refine eN func82 rfl ntmps82 fun hO=>?_
 have HO:=ab hO
 clear hO
 simp only [aQ,dL,dU,z]
 repeat' ((fail_if_success (apply ci 20));first|refine st ?_|(refine br ?_ ?_<;>intro hb)|fail)
 refine gy (n:=10) mixed rfl ?_
 refine lV [(135,.agg [.fn (.func 216) [] [],.fn (.func 217) [] [],.fn (.func 218) [] [],.fn (.func 219) [] [],.fn (.func 220) [] [],.fn (.func 221) [] [],.fnil,.fnil,.fn (.func 219) [] [],.fn (.func 220) [] [],.fn (.func 221) [] [],.fnil,.fnil,.fnil,.fnil]),(136,(.own X.length 0)),(137,(.own X.length 0)),(138,(.own X.length 0)),(139,(.own X.length 0)),(140,.int .i64 4),(141,.fn (.func 220) [] []),(142,(.own X.length 0)),(143,.int .u8 b)] rfl rfl rfl (by decide +kernel) (by decide +kernel) ⟨?s0, ?s1, ?s2, ?s3, ?s4, ?s5, ?s6, ?s7, ?s8,trivial⟩ ?z
 case s0|s1|s7|s8 =>
  intro env hd
  have q0:=hd.2 0 rfl
  have q1:=hd.2 1 rfl
  simp only [go_sem, *] at q0 q1
  clear hd
  refine Δ1 hw ?_
  first|exact⟨trivial,trivial⟩|exact⟨rfl,rfl⟩
 case s2 =>
  intro env hd
  have q0:=hd.2 0 rfl
  have q1:=hd.2 1 rfl
  simp only [go_sem, *] at q0 q1
  have r1:=hd.1 1 (by decide +kernel) _ _ rfl
  clear hd
  refine Δ1 hw ?_
  first|exact⟨trivial,trivial⟩|exact⟨rfl,rfl⟩
 case s3 =>
  intro env hd
  have q0:=hd.2 0 rfl
  have q1:=hd.2 1 rfl
  simp only [go_sem, *] at q0 q1
  have r2:=hd.1 2 (by decide +kernel) _ _ rfl
  clear hd
  refine Δ1 hw ?_
  first|exact⟨trivial,trivial⟩|exact⟨rfl,rfl⟩
 case s4 =>
  intro env hd
  have q0:=hd.2 0 rfl
  have q1:=hd.2 1 rfl
  simp only [go_sem, *] at q0 q1
  have r3:=hd.1 3 (by decide +kernel) _ _ rfl
  clear hd
  refine Δ1 hw ?_
  first|exact⟨trivial,trivial⟩|exact⟨rfl,rfl⟩
 case s5 =>
  intro env hd
  have q0:=hd.2 0 rfl
  have q1:=hd.2 1 rfl
  simp only [go_sem, *] at q0 q1
  have r4:=hd.1 4 (by decide +kernel) _ _ rfl
  clear hd
  refine Δ1 hw ?_
  first|exact⟨trivial,trivial⟩|exact⟨rfl,rfl⟩
 case s6 =>
  intro env hd
  have q0:=hd.2 0 rfl
  have q1:=hd.2 1 rfl
  simp only [go_sem, *] at q0 q1
  have r0:=hd.1 0 (by decide +kernel) _ _ rfl
  have r5:=hd.1 5 (by decide +kernel) _ _ rfl
  clear hd
  refine Δ1 hw ?_
  first|exact⟨trivial,trivial⟩|exact⟨rfl,rfl⟩
 case z =>
  intro env hs hk
  have r6:=hs 6 _ _ rfl
  have r7:=hs 7 _ _ rfl
  have r8:=hs 8 _ _ rfl
  have q5:=hk 1000000 rfl
  clear hs hk
  simp only [go_sem] at q5
  refine Δ1 k0 ?_
  (apply bS HO.out H.out;(· simp);(· (simp only [go_sem, *];try rfl));(· (simp only [go_sem, *];try rfl));(· (simp only [go_sem, *,results82];try rfl)))
theorem FS(w0:World)(X:List aH)(p:Ps)(l:List Ev)(b:Nat)(hl:l.length≤1000000)(hp:fj p)(hb:b<256)(hn:dQ p b)(hs:p.st=5)(hc:32≤b∧b<127)(R:Rt)(h:R (.ret (.tup [])) (aQ X (dr p b).1 (l++(dr p b).2))):ao prog w0 82 [.own X.length 0,.int .u8 b] (aQ X p l) R:=by
 have c1:=iC hn
 obtain⟨f1,f2,f3,f4,f5,f6⟩:=gY hc
 have k0:=Av w0 X p l b hl hp hb
 have hw:=oZ w0
 unfold rQ at hw
 unfold dr at h
 have z:((5:Nat):Int)=5:=rfl
 clear hl hp hb hn hc
 obtain⟨s0,utf,pv,fn,pars,inter,text,bad⟩:=p
 simp only at hs c1
 subst hs
 simp only at h
 have H:=ab h
 clear h
 simp only [aQ,dL,dU,z] at k0
 simp only [z] at c1
 clear c1
 refine eN func82 rfl ntmps82 fun hO=>?_
 have HO:=ab hO
 clear hO
 simp only [aQ,dL,dU,z]
 repeat' ((fail_if_success (apply ci 20));first|refine st ?_|(refine br ?_ ?_<;>intro hb)|fail)
 refine gy (n:=10) mixed rfl ?_
 refine lV [(135,.agg [.fn (.func 216) [] [],.fn (.func 217) [] [],.fn (.func 218) [] [],.fn (.func 219) [] [],.fn (.func 220) [] [],.fn (.func 221) [] [],.fnil,.fnil,.fn (.func 219) [] [],.fn (.func 220) [] [],.fn (.func 221) [] [],.fnil,.fnil,.fnil,.fnil]),(136,(.own X.length 0)),(137,(.own X.length 0)),(138,(.own X.length 0)),(139,(.own X.length 0)),(140,.int .i64 5),(141,.fn (.func 221) [] []),(142,(.own X.length 0)),(143,.int .u8 b)] rfl rfl rfl (by decide +kernel) (by decide +kernel) ⟨?s0, ?s1, ?s2, ?s3, ?s4, ?s5, ?s6, ?s7, ?s8,trivial⟩ ?z
 case s0|s1|s7|s8 =>
  intro env hd
  have q0:=hd.2 0 rfl
  have q1:=hd.2 1 rfl
  simp only [go_sem, *] at q0 q1
  clear hd
  refine Δ1 hw ?_
  first|exact⟨trivial,trivial⟩|exact⟨rfl,rfl⟩
 case s2 =>
  intro env hd
  have q0:=hd.2 0 rfl
  have q1:=hd.2 1 rfl
  simp only [go_sem, *] at q0 q1
  have r1:=hd.1 1 (by decide +kernel) _ _ rfl
  clear hd
  refine Δ1 hw ?_
  first|exact⟨trivial,trivial⟩|exact⟨rfl,rfl⟩
 case s3 =>
  intro env hd
  have q0:=hd.2 0 rfl
  have q1:=hd.2 1 rfl
  simp only [go_sem, *] at q0 q1
  have r2:=hd.1 2 (by decide +kernel) _ _ rfl
  clear hd
  refine Δ1 hw ?_
  first|exact⟨trivial,trivial⟩|exact⟨rfl,rfl⟩
 case s4 =>
  intro env hd
  have q0:=hd.2 0 rfl
  have q1:=hd.2 1 rfl
  simp only [go_sem, *] at q0 q1
  have r3:=hd.1 3 (by decide +kernel) _ _ rfl
  clear hd
  refine Δ1 hw ?_
  first|exact⟨trivial,trivial⟩|exact⟨rfl,rfl⟩
 case s5 =>
  intro env hd
  have q0:=hd.2 0 rfl
  have q1:=hd.2 1 rfl
  simp only [go_sem, *] at q0 q1
  have r4:=hd.1 4 (by decide +kernel) _ _ rfl
  clear hd
  refine Δ1 hw ?_
  first|exact⟨trivial,trivial⟩|exact⟨rfl,rfl⟩
 case s6 =>
  intro env hd
  have q0:=hd.2 0 rfl
  have q1:=hd.2 1 rfl
  simp only [go_sem, *] at q0 q1
  have r0:=hd.1 0 (by decide +kernel) _ _ rfl
  have r5:=hd.1 5 (by decide +kernel) _ _ rfl
  clear hd
  refine Δ1 hw ?_
  first|exact⟨trivial,trivial⟩|exact⟨rfl,rfl⟩
 case z =>
  intro env hs hk
  have r6:=hs 6 _ _ rfl
  have r7:=hs 7 _ _ rfl
  have r8:=hs 8 _ _ rfl
  have q5:=hk 1000000 rfl
  clear hs hk
  simp only [go_sem] at q5
  refine Δ1 k0 ?_
  (apply bS HO.out H.out;(· simp);(· (simp only [go_sem, *];try rfl));(· (simp only [go_sem, *];try rfl));(· (simp only [go_sem, *,results82];try rfl)))
theorem FQ(w0:World)(X:List aH)(p:Ps)(l:List Ev)(b:Nat)(hl:l.length≤1000000)(hp:fj p)(hb:b<256)(hn:dQ p b)(hs:p.st=8)(hc:32≤b∧b<127)(R:Rt)(h:R (.ret (.tup [])) (aQ X (dr p b).1 (l++(dr p b).2))):ao prog w0 82 [.own X.length 0,.int .u8 b] (aQ X p l) R:=by
 have c1:=iC hn
 obtain⟨f1,f2,f3,f4,f5,f6⟩:=gY hc
 have k0:=Dr w0 X p l b hl hp hb
 have hw:=oZ w0
 unfold rQ at hw
 unfold dr at h
 have z:((8:Nat):Int)=8:=rfl
 clear hl hp hb hn hc
 obtain⟨s0,utf,pv,fn,pars,inter,text,bad⟩:=p
 simp only at hs c1
 subst hs
 simp only at h
 have H:=ab h
 clear h
 simp only [aQ,dL,dU,z] at k0
 simp only [z] at c1
 clear c1
 refine eN func82 rfl ntmps82 fun hO=>?_
 have HO:=ab hO
 clear hO
 simp only [aQ,dL,dU,z]
 repeat' ((fail_if_success (apply ci 20));first|refine st ?_|(refine br ?_ ?_<;>intro hb)|fail)
 refine gy (n:=10) mixed rfl ?_
 refine lV [(135,.agg [.fn (.func 216) [] [],.fn (.func 217) [] [],.fn (.func 218) [] [],.fn (.func 219) [] [],.fn (.func 220) [] [],.fn (.func 221) [] [],.fnil,.fnil,.fn (.func 219) [] [],.fn (.func 220) [] [],.fn (.func 221) [] [],.fnil,.fnil,.fnil,.fnil]),(136,(.own X.length 0)),(137,(.own X.length 0)),(138,(.own X.length 0)),(139,(.own X.length 0)),(140,.int .i64 8),(141,.fn (.func 219) [] []),(142,(.own X.length 0)),(143,.int .u8 b)] rfl rfl rfl (by decide +kernel) (by decide +kernel) ⟨?s0, ?s1, ?s2, ?s3, ?s4, ?s5, ?s6, ?s7, ?s8,trivial⟩ ?z
 case s0|s1|s7|s8 =>
  intro env hd
  have q0:=hd.2 0 rfl
  have q1:=hd.2 1 rfl
  simp only [go_sem, *] at q0 q1
  clear hd
  refine Δ1 hw ?_
  first|exact⟨trivial,trivial⟩|exact⟨rfl,rfl⟩
 case s2 =>
  intro env hd
  have q0:=hd.2 0 rfl
  have q1:=hd.2 1 rfl
  simp only [go_sem, *] at q0 q1
  have r1:=hd.1 1 (by decide +kernel) _ _ rfl
  clear hd
  refine Δ1 hw ?_
  first|exact⟨trivial,trivial⟩|exact⟨rfl,rfl⟩
 case s3 =>
  intro env hd
  have q0:=hd.2 0 rfl
  have q1:=hd.2 1 rfl
  simp only [go_sem, *] at q0 q1
  have r2:=hd.1 2 (by decide +kernel) _ _ rfl
  clear hd
  refine Δ1 hw ?_
  first|exact⟨trivial,trivial⟩|exact⟨rfl,rfl⟩
 case s4 =>
  intro env hd
  have q0:=hd.2 0 rfl
  have q1:=hd.2 1 rfl
  simp only [go_sem, *] at q0 q1
  have r3:=hd.1 3 (by decide +kernel) _ _ rfl
  clear hd
  refine Δ1 hw ?_
  first|exact⟨trivial,trivial⟩|exact⟨rfl,rfl⟩
 case s5 =>
  intro env hd
  have q0:=hd.2 0 rfl
  have q1:=hd.2 1 rfl
  simp only [go_sem, *] at q0 q1
  have r4:=hd.1 4 (by decide +kernel) _ _ rfl
  clear hd
  refine Δ1 hw ?_
  first|exact⟨trivial,trivial⟩|exact⟨rfl,rfl⟩
 case s6 =>
  intro env hd
  have q0:=hd.2 0 rfl
  have q1:=hd.2 1 rfl
  simp only [go_sem, *] at q0 q1
  have r0:=hd.1 0 (by decide +kernel) _ _ rfl
  have r5:=hd.1 5 (by decide +kernel) _ _ rfl
  clear hd
  refine Δ1 hw ?_
  first|exact⟨trivial,trivial⟩|exact⟨rfl,rfl⟩
 case z =>
  intro env hs hk
  have r6:=hs 6 _ _ rfl
  have r7:=hs 7 _ _ rfl
  have r8:=hs 8 _ _ rfl
  have q5:=hk 1000000 rfl
  clear hs hk
  simp only [go_sem] at q5
  refine Δ1 k0 ?_
  (apply bS HO.out H.out;(· simp);(· (simp only [go_sem, *];try rfl));(· (simp only [go_sem, *];try rfl));(· (simp only [go_sem, *,results82];try rfl)))
theorem FP(w0:World)(X:List aH)(p:Ps)(l:List Ev)(b:Nat)(hl:l.length≤1000000)(hp:fj p)(hb:b<256)(hn:dQ p b)(hs:p.st=9)(hc:32≤b∧b<127)(R:Rt)(h:R (.ret (.tup [])) (aQ X (dr p b).1 (l++(dr p b).2))):ao prog w0 82 [.own X.length 0,.int .u8 b] (aQ X p l) R:=by
 have c1:=iC hn
 obtain⟨f1,f2,f3,f4,f5,f6⟩:=gY hc
 have k0:=Au w0 X p l b hl hp hb
 have hw:=oZ w0
 unfold rQ at hw
 unfold dr at h
 have z:((9:Nat):Int)=9:=rfl
 clear hl hp hb hn hc
 obtain⟨s0,utf,pv,fn,pars,inter,text,bad⟩:=p
 simp only at hs c1
 subst hs
 simp only at h
 have H:=ab h
 clear h
 simp only [aQ,dL,dU,z] at k0
 simp only [z] at c1
 clear c1
 refine eN func82 rfl ntmps82 fun hO=>?_
 have HO:=ab hO
 clear hO
 simp only [aQ,dL,dU,z]
 repeat' ((fail_if_success (apply ci 20));first|refine st ?_|(refine br ?_ ?_<;>intro hb)|fail)
 refine gy (n:=10) mixed rfl ?_
 refine lV [(135,.agg [.fn (.func 216) [] [],.fn (.func 217) [] [],.fn (.func 218) [] [],.fn (.func 219) [] [],.fn (.func 220) [] [],.fn (.func 221) [] [],.fnil,.fnil,.fn (.func 219) [] [],.fn (.func 220) [] [],.fn (.func 221) [] [],.fnil,.fnil,.fnil,.fnil]),(136,(.own X.length 0)),(137,(.own X.length 0)),(138,(.own X.length 0)),(139,(.own X.length 0)),(140,.int .i64 9),(141,.fn (.func 220) [] []),(142,(.own X.length 0)),(143,.int .u8 b)] rfl rfl rfl (by decide +kernel) (by decide +kernel) ⟨?s0, ?s1, ?s2, ?s3, ?s4, ?s5, ?s6, ?s7, ?s8,trivial⟩ ?z
 case s0|s1|s7|s8 =>
  intro env hd
  have q0:=hd.2 0 rfl
  have q1:=hd.2 1 rfl
  simp only [go_sem, *] at q0 q1
  clear hd
  refine Δ1 hw ?_
  first|exact⟨trivial,trivial⟩|exact⟨rfl,rfl⟩
 case s2 =>
  intro env hd
  have q0:=hd.2 0 rfl
  have q1:=hd.2 1 rfl
  simp only [go_sem, *] at q0 q1
  have r1:=hd.1 1 (by decide +kernel) _ _ rfl
  clear hd
  refine Δ1 hw ?_
  first|exact⟨trivial,trivial⟩|exact⟨rfl,rfl⟩
 case s3 =>
  intro env hd
  have q0:=hd.2 0 rfl
  have q1:=hd.2 1 rfl
  simp only [go_sem, *] at q0 q1
  have r2:=hd.1 2 (by decide +kernel) _ _ rfl
  clear hd
  refine Δ1 hw ?_
  first|exact⟨trivial,trivial⟩|exact⟨rfl,rfl⟩
 case s4 =>
  intro env hd
  have q0:=hd.2 0 rfl
  have q1:=hd.2 1 rfl
  simp only [go_sem, *] at q0 q1
  have r3:=hd.1 3 (by decide +kernel) _ _ rfl
  clear hd
  refine Δ1 hw ?_
  first|exact⟨trivial,trivial⟩|exact⟨rfl,rfl⟩
 case s5 =>
  intro env hd
  have q0:=hd.2 0 rfl
  have q1:=hd.2 1 rfl
  simp only [go_sem, *] at q0 q1
  have r4:=hd.1 4 (by decide +kernel) _ _ rfl
  clear hd
  refine Δ1 hw ?_
  first|exact⟨trivial,trivial⟩|exact⟨rfl,rfl⟩
 case s6 =>
  intro env hd
  have q0:=hd.2 0 rfl
  have q1:=hd.2 1 rfl
  simp only [go_sem, *] at q0 q1
  have r0:=hd.1 0 (by decide +kernel) _ _ rfl
  have r5:=hd.1 5 (by decide +kernel) _ _ rfl
  clear hd
  refine Δ1 hw ?_
  first|exact⟨trivial,trivial⟩|exact⟨rfl,rfl⟩
 case z =>
  intro env hs hk
  have r6:=hs 6 _ _ rfl
  have r7:=hs 7 _ _ rfl
  have r8:=hs 8 _ _ rfl
  have q5:=hk 1000000 rfl
  clear hs hk
  simp only [go_sem] at q5
  refine Δ1 k0 ?_
  (apply bS HO.out H.out;(· simp);(· (simp only [go_sem, *];try rfl));(· (simp only [go_sem, *];try rfl));(· (simp only [go_sem, *,results82];try rfl)))
theorem Df(w0:World)(X:List aH)(p:Ps)(l:List Ev)(b:Nat)(hl:l.length≤1000000)(hp:fj p)(hb:b<256)(hn:dQ p b)(hs:p.st=10)(hc:32≤b∧b<127)(R:Rt)(h:R (.ret (.tup [])) (aQ X (dr p b).1 (l++(dr p b).2))):ao prog w0 82 [.own X.length 0,.int .u8 b] (aQ X p l) R:=by
 have c1:=iC hn
 obtain⟨f1,f2,f3,f4,f5,f6⟩:=gY hc
 have k0:=Av w0 X p l b hl hp hb
 have hw:=oZ w0
 unfold rQ at hw
 unfold dr at h
 have z:((10:Nat):Int)=10:=rfl
 clear hl hp hb hn hc
 obtain⟨s0,utf,pv,fn,pars,inter,text,bad⟩:=p
 simp only at hs c1
 subst hs
 simp only at h
 have H:=ab h
 clear h
 simp only [aQ,dL,dU,z] at k0
 simp only [z] at c1
 clear c1
 refine eN func82 rfl ntmps82 fun hO=>?_
 have HO:=ab hO
 clear hO
 simp only [aQ,dL,dU,z]
 repeat' ((fail_if_success (apply ci 20));first|refine st ?_|(refine br ?_ ?_<;>intro hb)|fail)
 refine gy (n:=10) mixed rfl ?_
 refine lV [(135,.agg [.fn (.func 216) [] [],.fn (.func 217) [] [],.fn (.func 218) [] [],.fn (.func 219) [] [],.fn (.func 220) [] [],.fn (.func 221) [] [],.fnil,.fnil,.fn (.func 219) [] [],.fn (.func 220) [] [],.fn (.func 221) [] [],.fnil,.fnil,.fnil,.fnil]),(136,(.own X.length 0)),(137,(.own X.length 0)),(138,(.own X.length 0)),(139,(.own X.length 0)),(140,.int .i64 10),(141,.fn (.func 221) [] []),(142,(.own X.length 0)),(143,.int .u8 b)] rfl rfl rfl (by decide +kernel) (by decide +kernel) ⟨?s0, ?s1, ?s2, ?s3, ?s4, ?s5, ?s6, ?s7, ?s8,trivial⟩ ?z
 case s0|s1|s7|s8 =>
  intro env hd
  have q0:=hd.2 0 rfl
  have q1:=hd.2 1 rfl
  simp only [go_sem, *] at q0 q1
  clear hd
  refine Δ1 hw ?_
  first|exact⟨trivial,trivial⟩|exact⟨rfl,rfl⟩
 case s2 =>
  intro env hd
  have q0:=hd.2 0 rfl
  have q1:=hd.2 1 rfl
  simp only [go_sem, *] at q0 q1
  have r1:=hd.1 1 (by decide +kernel) _ _ rfl
  clear hd
  refine Δ1 hw ?_
  first|exact⟨trivial,trivial⟩|exact⟨rfl,rfl⟩
 case s3 =>
  intro env hd
  have q0:=hd.2 0 rfl
  have q1:=hd.2 1 rfl
  simp only [go_sem, *] at q0 q1
  have r2:=hd.1 2 (by decide +kernel) _ _ rfl
  clear hd
  refine Δ1 hw ?_
  first|exact⟨trivial,trivial⟩|exact⟨rfl,rfl⟩
 case s4 =>
  intro env hd
  have q0:=hd.2 0 rfl
  have q1:=hd.2 1 rfl
  simp only [go_sem, *] at q0 q1
  have r3:=hd.1 3 (by decide +kernel) _ _ rfl
  clear hd
  refine Δ1 hw ?_
  first|exact⟨trivial,trivial⟩|exact⟨rfl,rfl⟩
 case s5 =>
  intro env hd
  have q0:=hd.2 0 rfl
  have q1:=hd.2 1 rfl
  simp only [go_sem, *] at q0 q1
  have r4:=hd.1 4 (by decide +kernel) _ _ rfl
  clear hd
  refine Δ1 hw ?_
  first|exact⟨trivial,trivial⟩|exact⟨rfl,rfl⟩
 case s6 =>
  intro env hd
  have q0:=hd.2 0 rfl
  have q1:=hd.2 1 rfl
  simp only [go_sem, *] at q0 q1
  have r0:=hd.1 0 (by decide +kernel) _ _ rfl
  have r5:=hd.1 5 (by decide +kernel) _ _ rfl
  clear hd
  refine Δ1 hw ?_
  first|exact⟨trivial,trivial⟩|exact⟨rfl,rfl⟩
 case z =>
  intro env hs hk
  have r6:=hs 6 _ _ rfl
  have r7:=hs 7 _ _ rfl
  have r8:=hs 8 _ _ rfl
  have q5:=hk 1000000 rfl
  clear hs hk
  simp only [go_sem] at q5
  refine Δ1 k0 ?_
  (apply bS HO.out H.out;(· simp);(· (simp only [go_sem, *];try rfl));(· (simp only [go_sem, *];try rfl));(· (simp only [go_sem, *,results82];try rfl)))
theorem Dg(w0:World)(X:List aH)(p:Ps)(l:List Ev)(b:Nat)(hl:l.length≤1000000)(hp:fj p)(hb:b<256)(hn:dQ p b)(he:gS p.st=true→b=24∨b=26∨b=27)(ht:dR p.st=true∨b<128∨b=24∨b=26∨b=27)(R:Rt)(h:R (.ret (.tup [])) (aQ X (take1 p b).1 (l++(take1 p b).2))):ao prog w0 82 [.own X.length 0,.int .u8 b] (aQ X p l) R:=by
 have hnn:=hn
 unfold dQ at hnn
 unfold take1 at h
 rw [if_neg hnn] at h
 by_cases c1:b=24∨b=26
 ·rw [if_pos c1] at h
  simp only [aG] at h
  exact F3 w0 X p l b hl hp hb hn c1 R h
 rw [if_neg c1] at h
 by_cases c2:b=27
 ·rw [if_pos c2] at h
  cases hx:dR p.st with
  | true =>
   rw [hx] at h
   simp only [if_true,aG] at h
   exact F2 w0 X p l b hl hp hb hn c2 hx R h
  | false =>
   rw [hx] at h
   simp only [aZ,if_false,aG] at h
   exact F1 w0 X p l b hl hp hb hn c2 hx R h
 rw [if_neg c2] at h
 have c3:b≠24∧b≠26∧b≠27:=ω
 have he':gS p.st=false:=by
  cases hx:gS p.st with
  | false=>rfl
  | true=>have:=he hx;omega
 cases hx:dR p.st with
 | true =>
  rw [hx] at h
  simp only [if_true] at h
  exact F0 w0 X p l b hl hp hb hn c3 hx R h
 | false =>
  have hb1:b<128:=by
   rcases ht with ht|ht
   ·rw [hx] at ht;cases ht
   ·omega
  rw [hx,if_neg δ,if_neg ω] at h
  by_cases c4:b<32
  ·rw [if_pos c4] at h
   exact FZ w0 X p l b hl hp hb hn c3 c4 hx he' R h
  rw [if_neg c4] at h
  by_cases c5:b=127
  ·rw [if_pos c5] at h
   simp only [aG] at h
   exact FY w0 X p l b hl hp hb hn c5 hx he' R h
  rw [if_neg c5] at h
  have hs:=hp.st
  have hc:32≤b∧b<127:=ω
  have hst:p.st=0∨p.st=1∨p.st=2∨p.st=3∨p.st=4∨p.st=5∨p.st=8∨p.st=9∨p.st=10:=by
   unfold dR at hx
   unfold gS at he'
   simp only [cF,beq_eq_false_iff_ne] at hx he'
   omega
  rcases hst with hst|hst|hst|hst|hst|hst|hst|hst|hst
  ·exact FX w0 X p l b hl hp hb hn hst hc R h
  ·exact FW w0 X p l b hl hp hb hn hst hc R h
  ·exact FV w0 X p l b hl hp hb hn hst hc R h
  ·exact FU w0 X p l b hl hp hb hn hst hc R h
  ·exact FT w0 X p l b hl hp hb hn hst hc R h
  ·exact FS w0 X p l b hl hp hb hn hst hc R h
  ·exact FQ w0 X p l b hl hp hb hn hst hc R h
  ·exact FP w0 X p l b hl hp hb hn hst hc R h
  ·exact Df w0 X p l b hl hp hb hn hst hc R h
theorem EJ{c:Nat}(h:c<32∨c=127):take1 (bp 0) c=m4 c:=by
 have e:(bp 0).st=0:=rfl
 have e2:(bp 0).utf=[]:=rfl
 unfold take1 m4
 rw [e,e2,if_neg κ]
 split
 ·rfl
 ·next h1 =>
  split
  ·rfl
  ·next h2 =>
   rw [if_neg δ,if_neg ω]
   split
   ·rfl
   ·next h3=>rw [if_pos ω]
theorem Nw(w0:World)(X:List aH)(l:List Ev)(c:Nat)(hl:l.length≤1000000)(hc:c<32∨c=127)(R:Rt)(h:R (.ret (.tup [])) (aQ X (m4 c).1 (l++(m4 c).2))):ao prog w0 82 [.own X.length 0,.int .u8 c] (aQ X (bp 0) l) R:=by
 rw [← EJ hc] at h
 refine Dg w0 X (bp 0) l c hl (fj.beg δ) ω ?_ (fun h=>by cases h) ω R h
 unfold dQ
 have e2:(bp 0).utf=[]:=rfl
 rw [e2]
 simp
 omega
theorem Ln{p:List Nat}{b i c:Nat}(h:(dN p b).2[i]? = some c)(hc:c<32∨c=127):(((dN p b).2.take i).foldl en ({ bp 0 with utf:=(dN p b).1 },[])).1=bp 0:=by
 have key:∀ (q:List Nat × List Nat),q.2[i]? = some c→(q.1=[]∧(q.2=[c]∨q.2=[65533,c]))→((q.2.take i).foldl en ({ bp 0 with utf:=q.1 },[])).1=bp 0:=by
  rintro q hq ⟨h1,h2|h2⟩
  ·rw [h2] at hq ⊢
   match i,hq with
   | 0,_=>rw [h1];rfl
   | n+1,hq=>simp at hq
  ·rw [h2] at hq ⊢
   match i,hq with
   | 0,hq=>simp at hq;omega
   | 1,_=>rw [h1];rfl
   | n+2,hq=>simp at hq
 refine key _ h ?_
 have one:∀ {x:Nat},[x][i]? = some c→x=c:=by
  intro x hx
  match i,hx with
  | 0,hx=>simpa using hx
  | n+1,hx=>simp at hx
 revert h
 unfold dN
 split
 ·intro h;exact⟨rfl,.inl (by rw [one h])⟩
 ·split
  ·intro h;simp at h
  ·split
   ·intro h;have:=one h;omega
   ·unfold gR
    split
    ·intro h
     refine⟨rfl,.inr ?_⟩
     simp only at h
     match i,h with
     | 0,h=>simp at h;omega
     | 1,h=>simp at h;rw [h]
     | n+2,h=>simp at h
    ·split
     ·intro h;have:=one h;omega
     ·intro h
      simp only at h
      match i,h with
      | 0,h=>simp at h;omega
      | 1,h=>simp at h;omega
      | n+2,h=>simp at h
theorem Dj(a b c:Int)(R:Rt)(h:R (.ret (.bool (decide (a<b)||decide (c<a)))) S):ao prog w0 165 [.int .u8 a,.int .u8 b,.int .u8 c] S R:=by
 cases d:decide (a<b)<;>rw [d] at h
 all_goals
  refine γR0 func165 ntmps165 results165 ?_
  first|exact h|(simpa using h)
end Go.Proofs.YthdbijpefkapnaaGreatDoor
