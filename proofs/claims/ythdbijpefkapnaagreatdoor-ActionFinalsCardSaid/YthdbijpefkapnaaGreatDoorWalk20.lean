/- YthdbijpefkapnaaGreatDoorWalk20: a part of the proof. -/
import Derived.Test.YthdbijpefkapnaaGreatDoorWalk19
import Derived.Test.YthdbijpefkapnaaGreatDoorWalk16
import Derived.Test.YthdbijpefkapnaaGreatDoorCore4
set_option linter.all false
set_option maxHeartbeats 40000000
open And renaming intro → a6
open BitVec renaming ofInt → ar
open Bool renaming not_eq_false' → aE, not_eq_true' → aw, or_eq_false_iff → ct, or_eq_true → eF
open Go.IntKind renaming i64 → ae, u8 → aX
open Go.IntWalk renaming i64_in → ah, u8_in → di
open Go.Lib renaming hid → ab
open List renaming append_assoc → aN, append_nil → aG, cons_append → ft, foldl_cons → gI, getElem?_append_right → aD, getElem?_eq_getElem → al, length_append → ai, length_cons → aB, length_eq_zero_iff → j_, length_nil → aL, map_nil → aq, mem_cons_of_mem → gY, mem_of_getElem? → ax, nil_append → fS, take_add_one → sC, take_of_length_le → dV, take_zero → aP
open Nat renaming le_trans → eT, zero_add → bC, zero_le → bf
namespace Go.Proofs.YthdbijpefkapnaaGreatDoor
open Go Go.Fen Go.Proofs.Tryz
attribute [local irreducible] aW WP aj dS jl cQ aV cV
set_option maxRecDepth 8000
variable (w0:World) (S:List aH)
theorem Bh(q:Ps × List Ev)(c:Nat):(ik q c).2.length≤q.2.length+1:=by
 unfold ik vn
 repeat' split
 all_goals simp
theorem pS:∀ (l:List Nat) (q:Ps × List Ev),(l.foldl ik q).2.length≤q.2.length+l.length
 | [],_=>by simp
 | c::l,q=>by
  have:=pS l (ik q c)
  have:=Bh q c
  simp only [gI,aB];omega
theorem A0{l:List Nat}{i c:Nat}(q:Ps × List Ev)(h:l[i]? = some c):(l.take (i+1)).foldl ik q=ik ((l.take i).foldl ik q) c:=by
 rw [sC,h]
 simp
theorem Cn(w0:World)(X:List aH)(p:Ps)(l:List Ev)(b:Nat)(hl:l.length≤900000)(hp:fF p)(hb:b<256)(R:Rt)(h:R (.ret (.tup [])) (aO X (iG p b).1 (l++(iG p b).2))):aj prog w0 166 [.own X.length 0,.int .u8 b] (aO X p l) R:=by
 have hst:=fun S'=>G0 w0 S' p.utf b hb hp.utf hp.byt
 have k0:=gu w0 X p l 0
 have hq2:=jR p.utf b
 have hctl:=fun i c=>JW (p:=p.utf) (b:=b) (i:=i) (c:=c)
 unfold iG at h
 generalize dP p.utf b=q at h hst hq2 hctl
 obtain⟨q1,q2⟩:=q
 unfold h_ at hst
 simp only at h hst hq2 hctl
 simp only [aO,dE,dJ] at k0
 have H:=ab h
 have Hq:=ab hq2
 have Hc:=ab hctl
 have Hl:=ab hl
 clear h hp hb hq2 hctl hl
 refine eN func166 rfl ntmps166 fun hO=>?_
 have HO:=ab hO
 clear hO
 unfold aO dE dJ
 repeat' first|refine st ?_|(refine ca ?_;first|apply hst|apply k0)|(refine br ?_ ?_<;>intro hb)|fail
 refine cW (fun (i:Nat) env S'=>i≤q2.length∧env 1000000=.dfr []∧env 0=.own X.length 0∧env 25=.sval false (q2.map Co)∧env 26=.int .i64 q2.length∧env 27=.int .i64 (i:Int)∧S'=aO X ((q2.take i).foldl ik ({ dg 0 with utf:=q1 },[])).1 (l++((q2.take i).foldl ik ({ dg 0 with utf:=q1 },[])).2)) (fun i=>q2.length - i) 0 ?_ ?_
 ·exact⟨bf _,ss,ss,ss,ss,ss,by simp only [aP,List.foldl_nil,aG];rfl⟩
 ·rintro i env S' ⟨hi,e0,f0,f25,f26,f27,rfl⟩ IH
  have HI:=ab IH
  clear IH hst k0
  by_cases hlt:i<q2.length
  ·obtain⟨c,hx⟩:∃ c,q2[i]? = some c:=⟨_,al hlt⟩
   have h1:decide ((i:Int)<(q2.length:Int))=true:=by simpa using hlt
   have hco:Co c=.int .i64 c:=rfl
   have hq:=Hq.out
   have hc21:=hq.1 c (ax hx)
   have hw:ae.wrap ((i:Int)+1)=((i+1:Nat):Int):=by rw [ah _ (by omega)];omega
   have hsu:=A0 ({ dg 0 with utf:=q1 },[]) hx
   have hct:=Hc.out i c hx
   have hcl:=pS (q2.take i) ({ dg 0 with utf:=q1 },[])
   have htk:(q2.take i).length≤i:=List.length_take_le _ _
   simp only [aL,bC] at hcl
   generalize (q2.take i).foldl ik ({ dg 0 with utf:=q1 },[])=y at hsu hct hcl
   obtain⟨y1,y2⟩:=y
   simp only at hct hcl
   have hl2:(l++y2).length≤1000000:=by have:=Hl.out;rw [ai];omega
   have Hsu:=ab hsu
   by_cases hcc:c<32∨c=127
   ·have hy:y1=dg 0:=hct hcc
    subst hy
    have k1:=L7 w0 X (l++y2) c hl2 hcc
    simp only [aO,dE,dJ] at k1 ⊢
    have hw8:aX.wrap (c:Int)=(c:Int):=di _ (by omega)
    have hd:decide ((c:Int)<32)=true∨decide ((c:Int)<32)=false∧((c:Int)==127)=true:=by simp only [decide_eq_true_eq,decide_eq_false_iff_not,beq_iff_eq];omega
    have Hlt:=ab (a6 hlt hcc)
    clear hlt hq hc21 hsu hct hcl hl2 hcc hi htk
    rcases hd with d1|⟨d1,d2⟩
    all_goals
     repeat' first|refine st ?_|(refine ca ?_;apply k1)|(refine br ?_ ?_<;>intro hb)|fail
     refine HI.out (i+1) _ _ (by have:=Hlt.out.1;omega) ⟨by have:=Hlt.out.1;omega, ?_, ?_, ?_, ?_, ?_, ?_⟩
     ·(simp only [go_sem, *];try rfl)
     ·(simp only [go_sem, *];try rfl)
     ·(simp only [go_sem, *];try rfl)
     ·(simp only [go_sem, *];try rfl)
     ·(simp only [go_sem, *];try rfl)
     ·rw [Hsu.out]
      unfold ik
      rw [if_pos Hlt.out.2]
      simp only [aO,dE,dJ,aN]
   ·have d1:decide ((c:Int)<32)=false:=by simp;omega
    have d2:((c:Int)==127)=false:=by rw [beq_eq_false_iff_ne];omega
    obtain⟨m,hm⟩:∃ m:Int,(if (255:Int)<(c:Int) then 255 else (c:Int))=m:=⟨_,rfl⟩
    have hm2:0≤m∧m≤255∧((m<127∨159<m)↔(c<127∨159<c)):=by subst hm;split<;>omega
    have hw8:aX.wrap m=m:=di _ (by omega)
    have ho:=fun S'=>Cp w0 S' m 127 159
    have k1:=zk w0 X y1 (l++y2) (lr c) hl2
    rw [show (lr c).av=.agg [.int .i64 1,.int .i64 c,.int .u8 0,.int .u8 0,.sval false [],.str [],.str []] from rfl] at k1
    simp only [aO,dE,dJ] at k1 ⊢
    have Hlt:=ab (a6 hlt hcc)
    by_cases hcd:c<127∨159<c
    ·have ho2:(decide (m<127)||decide (159<m))=true:=by simp only [eF,decide_eq_true_eq];exact hm2.2.2.2 hcd
     rw [ho2] at ho
     have Hcd:=ab hcd
     clear hlt hq hc21 hsu hct hcl hl2 hcc hi htk hm2 ho2 hcd
     repeat' first|refine st ?_|(refine ca ?_;first|apply k1|apply ho)|(refine br ?_ ?_<;>intro hb)|fail
     refine HI.out (i+1) _ _ (by have:=Hlt.out.1;omega) ⟨by have:=Hlt.out.1;omega, ?_, ?_, ?_, ?_, ?_, ?_⟩
     ·(simp only [go_sem, *];try rfl)
     ·(simp only [go_sem, *];try rfl)
     ·(simp only [go_sem, *];try rfl)
     ·(simp only [go_sem, *];try rfl)
     ·(simp only [go_sem, *];try rfl)
     ·rw [Hsu.out]
      unfold ik
      rw [if_neg Hlt.out.2,if_pos Hcd.out]
      simp only [aO,dE,dJ,aN]
    ·have ho2:(decide (m<127)||decide (159<m))=false:=by
      have:¬ (m<127∨159<m):=fun hh=>hcd (hm2.2.2.1 hh)
      rw [not_or] at this
      simp only [ct,decide_eq_false_iff_not]
      exact this
     rw [ho2] at ho
     have Hcd:=ab hcd
     clear hlt hq hc21 hsu hct hcl hl2 hcc hi htk hm2 ho2 hcd
     repeat' first|refine st ?_|(refine ca ?_;apply ho)|(refine br ?_ ?_<;>intro hb)|fail
     refine HI.out (i+1) _ _ (by have:=Hlt.out.1;omega) ⟨by have:=Hlt.out.1;omega, ?_, ?_, ?_, ?_, ?_, ?_⟩
     ·(simp only [go_sem, *];try rfl)
     ·(simp only [go_sem, *];try rfl)
     ·(simp only [go_sem, *];try rfl)
     ·(simp only [go_sem, *];try rfl)
     ·(simp only [go_sem, *];try rfl)
     ·rw [Hsu.out]
      unfold ik
      rw [if_neg Hlt.out.2,if_neg Hcd.out]
      simp only [aO,dE,dJ]
  ·have h1:decide ((i:Int)<(q2.length:Int))=false:=by simpa using hlt
   have hie:i=q2.length:=by omega
   have htk:q2.take i=q2:=dV (by omega)
   rw [htk]
   clear hlt hi hie htk HI
   repeat' first|refine st ?_|(refine br ?_ ?_<;>intro hb)|fail
   (apply bN HO.out H.out;(· simp);(· (simp only [go_sem, *];try rfl));(· (simp only [go_sem, *];try rfl));(· (simp only [go_sem, *,results166];try rfl)))
theorem IB(w0:World)(X:List aH)(p:Ps)(l:List Ev)(b:Nat)(hl:l.length≤900000)(hp:fF p)(hb:b<256)(hn:p.st=0∧(p.utf≠[]∨128≤b))(R:Rt)(h:R (.ret (.tup [])) (aO X (iG p b).1 (l++(iG p b).2))):aj prog w0 82 [.own X.length 0,.int .u8 b] (aO X p l) R:=by
 have k0:=Cn w0 X p l b hl hp hb
 simp only [aO,dE,dJ] at k0
 have z:((0:Nat):Int)=0:=rfl
 have c0:decide ((0:Int)<(p.utf.length:Int))=true∨decide ((0:Int)<(p.utf.length:Int))=false∧decide ((128:Int)≤(b:Int))=true:=by
  simp only [decide_eq_true_eq,decide_eq_false_iff_not]
  by_cases hu:p.utf=[]
  ·right
   have h3:p.utf.length=0:=by rw [hu];rfl
   have h4:=hn.2.resolve_left (fun hh=>hh hu)
   omega
  ·left
   have:p.utf.length≠0:=fun hh=>hu (j_.1 hh)
   omega
 have hst:=hn.1
 have H:=ab h
 clear h hl hp hb hn
 have e0:((p.st:Int)==0)=true:=by rw [hst];rfl
 have e6:((p.st:Int)==6)=false:=by rw [hst];rfl
 have e11:((p.st:Int)==11)=false:=by rw [hst];rfl
 have e13:((p.st:Int)==13)=false:=by rw [hst];rfl
 clear hst z
 rcases c0 with c0|⟨c0,c1⟩
 all_goals
  refine eN func82 rfl ntmps82 fun hO=>?_
  have HO:=ab hO
  clear hO
  unfold aO dE dJ
  repeat' first|refine st ?_|(refine ca ?_;apply k0)|(refine br ?_ ?_<;>intro hb)|fail
  (apply bN HO.out H.out;(· simp);(· (simp only [go_sem, *];try rfl));(· (simp only [go_sem, *];try rfl));(· (simp only [go_sem, *,results82];try rfl)))
theorem IC(w0:World)(X:List aH)(p:Ps)(l:List Ev)(b:Nat)(hl:l.length≤900000)(hb:b<256)(hn:dH p b)(ht:gg p.st=false)(he:jY p.st=false)(hh:128≤b)(R:Rt)(h:R (.ret (.tup [])) (aO X (iG (dg 0) b).1 (l++(iG (dg 0) b).2))):aj prog w0 82 [.own X.length 0,.int .u8 b] (aO X p l) R:=by
 have k0:=gu w0 X p l 0
 have k1:=Cn w0 X (dg 0) l b hl (fF.beg (by decide)) hb
 simp only [aO,dE,dJ] at k0 k1
 have c1:((p.st:Int)==0)=false:=by
  rcases ia hn with⟨_,_,c,_⟩|c
  ·simp at c;omega
  ·exact c
 have c2:=jQ p.st
 obtain⟨q2,q3,q4⟩:=vj he
 rcases c2 with⟨c2,_⟩|⟨_,c5,c6,c7⟩
 ·rw [ht] at c2;cases c2
 have e24:((b:Int)==24)=false:=by rw [beq_eq_false_iff_ne];omega
 have e26:((b:Int)==26)=false:=by rw [beq_eq_false_iff_ne];omega
 have e27:((b:Int)==27)=false:=by rw [beq_eq_false_iff_ne];omega
 have d128:decide ((128:Int)≤(b:Int))=true:=by simp;omega
 have H:=ab h
 clear h hl hb hn hh
 refine eN func82 rfl ntmps82 fun hO=>?_
 have HO:=ab hO
 clear hO
 unfold aO dE dJ
 repeat' first|refine st ?_|(refine ca ?_;first|apply k0|apply k1)|(refine br ?_ ?_<;>intro hb)|fail
 (apply bN HO.out H.out;(· simp);(· (simp only [go_sem, *];try rfl));(· (simp only [go_sem, *];try rfl));(· (simp only [go_sem, *,results82];try rfl)))
theorem Cm(w0:World)(X:List aH)(p:Ps)(l:List Ev)(b:Nat)(hl:l.length≤900000)(hp:fF p)(hb:b<256)(he:jY p.st=true→b=24∨b=26∨b=27)(R:Rt)(h:R (.ret (.tup [])) (aO X (take1 p b).1 (l++(take1 p b).2))):aj prog w0 82 [.own X.length 0,.int .u8 b] (aO X p l) R:=by
 by_cases hn:p.st=0∧(p.utf≠[]∨128≤b)
 ·unfold take1 at h
  rw [if_pos hn] at h
  exact IB w0 X p l b hl hp hb hn R h
 by_cases ht:gg p.st=true∨b<128∨b=24∨b=26∨b=27
 ·exact Cl w0 X p l b (by omega) hp hb hn he ht R h
 ·rw [not_or,not_or] at ht
  obtain⟨h1,h2,h3⟩:=ht
  have h1:gg p.st=false:=by simpa using h1
  have he':jY p.st=false:=by
   cases hx:jY p.st with
   | false=>rfl
   | true=>have:=he hx;omega
  unfold take1 at h
  rw [if_neg hn,if_neg (by omega),if_neg (by omega),h1,if_neg (by decide),if_pos (by omega)] at h
  exact IC w0 X p l b hl hb hn h1 he' (by omega) R h
theorem L6(w0:World)(X:List aH)(p:Ps)(l:List Ev)(b:Nat)(hl:l.length≤900000)(hp:fF p)(hb:b<256)(R:Rt)(h:R (.ret (.tup [])) (aO X (wZ p b).1 (l++(wZ p b).2))):aj prog w0 168 [.own X.length 0,.int .u8 b] (aO X p l) R:=by
 unfold wZ at h
 by_cases c:b≠92
 ·rw [if_pos c] at h
  have k0:=gu w0 X p l 1
  have k1:=Cm w0 X (dg 1) l b hl (fF.beg (by decide)) hb (fun hh=>by cases hh)
  simp only [aO,dE,dJ] at k0 k1
  have e92:((b:Int) != 92)=true:=by rw [bne_iff_ne];omega
  have H:=ab h
  clear h hl hp hb c
  refine eN func168 rfl ntmps168 fun hO=>?_
  have HO:=ab hO
  clear hO
  unfold aO dE dJ
  repeat' first|refine st ?_|(refine ca ?_;first|apply k0|apply k1)|(refine br ?_ ?_<;>intro hb)|fail
  (apply nL HO.out H.out;(· simp);(· (simp only [go_sem, *];try rfl));(· (simp only [go_sem, *];try rfl));(· (simp only [go_sem, *,results168];try rfl)))
 rw [if_neg c] at h
 have e92:((b:Int) != 92)=false:=by
  have:b=92:=by omega
  rw [this];rfl
 by_cases c7:p.st=7
 ·rw [if_pos c7] at h
  have e7:((p.st:Int)==7)=true:=by rw [c7];rfl
  have k0:=tj w0 X p l (tS p) (by omega)
  rw [show (tS p).av=.agg [.int .i64 5,.int .i64 0,.int .u8 0,.int .u8 0,.sval false [],.str [],.str p.text] from rfl] at k0
  simp only [aO,dE,dJ] at k0
  have H:=ab h
  clear h hl hp hb c c7
  refine eN func168 rfl ntmps168 fun hO=>?_
  have HO:=ab hO
  clear hO
  unfold aO dE dJ
  repeat' ((fail_if_success (apply dp 16 rfl));first|refine st ?_|(refine br ?_ ?_<;>intro hb)|fail)
  refine qW 4 [0,1,4] rfl HO.out (by simp) ss ss ss ?_
  repeat' first|refine st ?_|(refine ca ?_;apply k0)|(refine br ?_ ?_<;>intro hb)|fail
  (apply bN HO.out H.out;(· simp);(· (simp only [go_sem, *];try rfl));(· (simp only [go_sem, *];try rfl));(· (simp only [go_sem, *,results168];try rfl)))
 rw [if_neg c7] at h
 have e7:((p.st:Int)==7)=false:=by rw [beq_eq_false_iff_ne];omega
 by_cases c12:p.st=12
 ·rw [if_pos c12] at h
  have e12:((p.st:Int)==12)=true:=by rw [c12];rfl
  have k0:=tj w0 X p l (DA p) (by omega)
  rw [show (DA p).av=.agg [.int .i64 6,.int .i64 0,.int .u8 p.pv,.int .u8 p.fn,.sval false (p.pars.map cB),.str p.inter,.str p.text] from rfl] at k0
  simp only [aO,dE,dJ] at k0
  have H:=ab h
  clear h hl hp hb c c7 c12
  refine eN func168 rfl ntmps168 fun hO=>?_
  have HO:=ab hO
  clear hO
  unfold aO dE dJ
  repeat' ((fail_if_success (apply dp 16 rfl));first|refine st ?_|(refine br ?_ ?_<;>intro hb)|fail)
  refine qW 4 [0,1,4] rfl HO.out (by simp) ss ss ss ?_
  repeat' first|refine st ?_|(refine ca ?_;apply k0)|(refine br ?_ ?_<;>intro hb)|fail
  (apply bN HO.out H.out;(· simp);(· (simp only [go_sem, *];try rfl));(· (simp only [go_sem, *];try rfl));(· (simp only [go_sem, *,results168];try rfl)))
 rw [if_neg c12] at h
 simp only [aG] at h
 have e12:((p.st:Int)==12)=false:=by rw [beq_eq_false_iff_ne];omega
 have k0:=gu w0 X p l 0
 simp only [aO,dE,dJ] at k0
 have H:=ab h
 clear h hl hp hb c c7 c12
 refine eN func168 rfl ntmps168 fun hO=>?_
 have HO:=ab hO
 clear hO
 unfold aO dE dJ
 repeat' ((fail_if_success (apply dp 16 rfl));first|refine st ?_|(refine br ?_ ?_<;>intro hb)|fail)
 refine qW 4 [0,1,4] rfl HO.out (by simp) ss ss ss ?_
 repeat' first|refine st ?_|(refine ca ?_;apply k0)|(refine br ?_ ?_<;>intro hb)|fail
 (apply bN HO.out H.out;(· simp);(· (simp only [go_sem, *];try rfl));(· (simp only [go_sem, *];try rfl));(· (simp only [go_sem, *,results168];try rfl)))
theorem IE(w0:World)(X:List aH)(p:Ps)(l:List Ev)(b:Nat)(hl:l.length≤900000)(hp:fF p)(hb:b<256)(he:jY p.st=true)(hc:¬ (b=24∨b=26∨b=27))(R:Rt)(h:R (.ret (.tup [])) (aO X (wZ p b).1 (l++(wZ p b).2))):aj prog w0 82 [.own X.length 0,.int .u8 b] (aO X p l) R:=by
 have k0:=L6 w0 X p l b hl hp hb
 simp only [aO,dE,dJ] at k0
 have e24:((b:Int)==24)=false:=by rw [beq_eq_false_iff_ne];omega
 have e26:((b:Int)==26)=false:=by rw [beq_eq_false_iff_ne];omega
 have e27:((b:Int)==27)=false:=by rw [beq_eq_false_iff_ne];omega
 unfold jY at he
 simp only [eF,beq_iff_eq] at he
 have e0:((p.st:Int)==0)=false:=by rw [beq_eq_false_iff_ne];omega
 have e6:((p.st:Int)==6)=false:=by rw [beq_eq_false_iff_ne];omega
 have e11:((p.st:Int)==11)=false:=by rw [beq_eq_false_iff_ne];omega
 have e13:((p.st:Int)==13)=false:=by rw [beq_eq_false_iff_ne];omega
 have c0:((p.st:Int)==7)=true∨(((p.st:Int)==7)=false∧((p.st:Int)==12)=true)∨(((p.st:Int)==7)=false∧((p.st:Int)==12)=false∧((p.st:Int)==14)=true):=by simp only [beq_iff_eq,beq_eq_false_iff_ne];omega
 have H:=ab h
 clear h hl hp hb he hc
 rcases c0 with c0|⟨c0,c1⟩|⟨c0,c1,c2⟩
 all_goals
  refine eN func82 rfl ntmps82 fun hO=>?_
  have HO:=ab hO
  clear hO
  unfold aO dE dJ
  repeat' first|refine st ?_|(refine ca ?_;apply k0)|(refine br ?_ ?_<;>intro hb)|fail
  (apply bN HO.out H.out;(· simp);(· (simp only [go_sem, *];try rfl));(· (simp only [go_sem, *];try rfl));(· (simp only [go_sem, *,results82];try rfl)))
theorem Kn(w0:World)(X:List aH)(p:Ps)(l:List Ev)(b:Nat)(hl:l.length≤900000)(hp:fF p)(hb:b<256)(R:Rt)(h:R (.ret (.tup [])) (aO X (gJ p b).1 (l++(gJ p b).2))):aj prog w0 82 [.own X.length 0,.int .u8 b] (aO X p l) R:=by
 unfold gJ at h
 split at h
 ·next hc=>exact IE w0 X p l b hl hp hb hc.1 hc.2 R h
 ·next hc =>
  refine Cm w0 X p l b hl hp hb (fun he=>?_) R h
  by_cases h2:b=24∨b=26∨b=27
  ·exact h2
  ·exact absurd ⟨he,h2⟩ hc
theorem rR:∀ (s:List Nat) (q:Ps × List Ev),s.foldl (fun q b=>((gJ q.1 b).1,q.2++(gJ q.1 b).2)) q=((ez q.1 s).1,q.2++(ez q.1 s).2)
 | [],q=>by simp [ez]
 | b::s,q=>by
  unfold ez
  rw [gI,gI,rR s,rR s]
  simp [ez]
theorem rP(p:Ps):ez p []=(p,[]):=rfl
theorem kS(p:Ps)(b:Nat)(s:List Nat):ez p (b::s)=((ez (gJ p b).1 s).1,(gJ p b).2++(ez (gJ p b).1 s).2):=by
 have:=rR s ((gJ p b).1,[]++(gJ p b).2)
 simp only [fS] at this
 exact this
theorem wV:∀ (s t:List Nat) (p:Ps),ez p (s++t)=((ez (ez p s).1 t).1,(ez p s).2++(ez (ez p s).1 t).2)
 | [],t,p=>by simp [rP]
 | b::s,t,p=>by
  rw [ft,kS,wV s t,kS]
  simp
theorem zK:∀ (s:List Nat) (p:Ps),fF p→(∀ b∈s,b<256)→fF (ez p s).1
 | [],p,h,_=>h
 | b::s,p,h,hb=>by
  rw [kS]
  exact zK s _ (h.take (hb b (by simp))) fun x hx=>hb x (gY _ hx)
theorem B9(p:Ps)(b:Nat):(gJ p b).2.length≤2:=by
 have hd:∀ p e,(kW p e).2.length≤2:=fun p e=>eT (tV p e) (by decide)
 have hp:∀ q b,(iG q b).2.length≤2:=fun q b=>by
  unfold iG
  have h1:=pS (dP q.utf b).2 ({ dg 0 with utf:=(dP q.utf b).1 },[])
  have h2:=(jR q.utf b).2
  exact eT h1 (by simpa using h2)
 have hla:∀ p b,(mq p b).2.length≤2:=fun p b=>eT (Dl p b) (by decide)
 have h1:∀ p b,(take1 p b).2.length≤2:=fun p b=>by
  unfold take1
  split
  ·exact hp _ _
  ·split
   ·simp
   ·split
    ·split<;>simp
    ·split
     ·unfold jA
      repeat' split
      all_goals first|exact hd _ _|simp
     ·split
      ·exact hp _ _
      ·split
       ·split<;>simp
       ·split
        ·simp
        ·unfold eY
         split
         ·simp
         ·unfold A8
          repeat' split
          all_goals first|exact hd _ _|simp
         ·unfold px
          split
          ·simp
          ·exact hd _ _
         ·unfold mz
          repeat' split
          all_goals first|exact hla _ _|simp
         ·unfold mz
          repeat' split
          all_goals first|exact hla _ _|simp
         ·unfold kp
          repeat' split
          all_goals first|exact hla _ _|simp
         ·unfold kp
          repeat' split
          all_goals first|exact hla _ _|simp
         ·unfold kv
          repeat' split
          all_goals first|exact hla _ _|simp
         ·unfold kv
          repeat' split
          all_goals first|exact hla _ _|simp
         ·simp
 unfold gJ
 split
 ·unfold wZ
  repeat' split
  ·exact h1 _ _
  ·exact hd _ _
  ·exact hd _ _
  ·simp
 ·exact h1 _ _
theorem rQ:∀ (s:List Nat) (p:Ps),(ez p s).2.length≤2 * s.length
 | [],p=>by simp [rP]
 | b::s,p=>by
  rw [kS]
  have h1:=rQ s (gJ p b).1
  have h2:=B9 p b
  simp only [ai,aB];omega
theorem A5{s:List Nat}{i b:Nat}(p:Ps)(h:s[i]? = some b):ez p (s.take (i+1))=((gJ (ez p (s.take i)).1 b).1,(ez p (s.take i)).2++(gJ (ez p (s.take i)).1 b).2):=by
 rw [sC,h]
 show ez p (s.take i++[b])=_
 rw [wV,kS,rP]
 simp
theorem Eb(e:Ev):(Ev.av e).plain=true:=by simp only [Ev.av,go_sem,cB.plainL]
@[go_sem] theorem Ev.plainL(l:List Ev):plainL (l.map Ev.av)=true:=fA Eb l
theorem IA(B C:aH)(p:Ps)(l:List Ev)(b:Nat)(hl:l.length≤900000)(hp:fF p)(hb:b<256)(R:Rt)(h:R (.ret (.tup [])) (S++[B,C,dE (gJ p b).1 (S.length+3) (l++(gJ p b).2).length,dJ (l++(gJ p b).2)])) :
  aj prog w0 82 [.own (S.length+2) 0,.int .u8 b] (S++[B,C,dE p (S.length+3) l.length,dJ l]) R:=by
 have k:=Kn w0 (S++[B,C]) p l b hl hp hb R
 have e:(S++[B,C]).length=S.length+2:=by simp
 unfold aO at k
 rw [e] at k
 simp only [aN,ft,fS] at k
 exact k h
theorem Kq(p:Ps)(s:List Nat)(hp:fF p)(hs:s.length≤4096)(hb:∀ b∈s,b<256)(hck:∀ (S':List aH) (R:Rt),R (.ret (.int .i64 0)) S'→aj prog w0 81 [p.av] S' R)(R:Rt)
  (h:R (.ret (.tup [(ez p s).1.av,.sval false ((ez p s).2.map Ev.av),.int .i64 0])) S):aj prog w0 37 [p.av,.sval false (s.map By)] S R:=by
 have hgt:decide ((4096:Int)<(s.length:Int))=false:=by simp;omega
 have Hp:=ab hp
 have Hb:=ab hb
 have H:=ab h
 clear hp hb h
 unfold Ps.av at hck ⊢
 refine eN func37 rfl ntmps37 fun hO=>?_
 repeat' first|refine st ?_|(refine ca ?_;apply hck)|(refine br ?_ ?_<;>intro hb)|fail
 refine mL (a:=S.length+2) (j:=8) 40 7 ss ss (by decide) ?_
 simp only [go_sem, *]
 refine cW (fun (i:Nat) env S'=>i≤s.length∧env 1000000=.dfr []∧env 4=.own (S.length+1) 0∧env 8=.own (S.length+2) 0∧env 24=.sval false (s.map By)∧env 25=.int .i64 s.length∧env 26=.int .i64 (i:Int) ∧
  S'=S++[aH.cells [.int .i64 p.st,.sval false (p.utf.map By),.int .u8 p.pv,.int .u8 p.fn,.sval false (p.pars.map cB),.str p.inter,.str p.text,.bool p.bad],aH.cells [.int .i64 0,.snil,.int .u8 0,.int .u8 0,.snil,.str [],.str [],.bool false],dE (ez p (s.take i)).1 (S.length+3) (ez p (s.take i)).2.length,dJ (ez p (s.take i)).2]) (fun i=>s.length - i) 0 ?_ ?_
 ·exact⟨bf _,ss,ss,ss,ss,ss,ss,rfl⟩
 ·rintro i env S' ⟨hi,e0,f4,f8,f24,f25,f26,rfl⟩ IH
  have HI:=ab IH
  clear IH hck
  by_cases hlt:i<s.length
  ·obtain⟨b,hx⟩:∃ b,s[i]? = some b:=⟨_,al hlt⟩
   have h1:decide ((i:Int)<(s.length:Int))=true:=by simpa using hlt
   have hw:ae.wrap ((i:Int)+1)=((i+1:Nat):Int):=by rw [ah _ (by omega)];omega
   have hco:By b=.int .u8 b:=rfl
   have hpi:fF (ez p (s.take i)).1:=zK _ _ Hp.out fun x hx=>Hb.out x (List.mem_of_mem_take hx)
   have hsu:=A5 p hx
   have hle:=rQ (s.take i) p
   have htk:(s.take i).length≤i:=List.length_take_le _ _
   generalize ez p (s.take i)=y at hsu hpi hle
   obtain⟨y1,y2⟩:=y
   simp only at hpi hle hsu
   have k1:=IA w0 S (aH.cells [.int .i64 p.st,.sval false (p.utf.map By),.int .u8 p.pv,.int .u8 p.fn,.sval false (p.pars.map cB),.str p.inter,.str p.text,.bool p.bad]) (aH.cells [.int .i64 0,.snil,.int .u8 0,.int .u8 0,.snil,.str [],.str [],.bool false]) y1 y2 b (by omega) hpi (Hb.out b (ax hx))
   have Hsu:=ab hsu
   have Hlt:=ab hlt
   clear hsu hlt hpi hle htk hi
   simp only [dE,dJ] at k1 ⊢
   repeat' first|refine st ?_|(refine ca ?_;apply k1)|(refine br ?_ ?_<;>intro hb)|fail
   refine HI.out (i+1) _ _ (by have:=Hlt.out;omega) ⟨Hlt.out, ?_, ?_, ?_, ?_, ?_, ?_, ?_⟩
   ·(simp only [go_sem, *];try rfl)
   ·(simp only [go_sem, *];try rfl)
   ·(simp only [go_sem, *];try rfl)
   ·(simp only [go_sem, *];try rfl)
   ·(simp only [go_sem, *];try rfl)
   ·(simp only [go_sem, *];try rfl)
   ·rw [Hsu.out]
    rfl
  ·have h1:decide ((i:Int)<(s.length:Int))=false:=by simpa using hlt
   have hie:i=s.length:=by omega
   have htk:s.take i=s:=dV (by omega)
   rw [htk]
   have hh:=H.out
   generalize ez p s=y at hh
   obtain⟨y1,y2⟩:=y
   unfold Ps.av at hh
   simp only at hh
   have H2:=ab hh
   clear hlt hi hie htk HI hh H
   simp only [dE,dJ]
   repeat' first|refine st ?_|(refine br ?_ ?_<;>intro hb)|refine sd ?_|refine sx ?_|apply au|(apply aF;(· decide +kernel))|refine bd ?_ ?_|fail
   all_goals refine fR results37 ?_
   all_goals exact H2.out
theorem Cs(R:Rt)(h:R (.ret (.agg [.int .i64 1,.int .i64 0,.int .i64 130,.int .i64 0,.int .i64 136,.int .i64 146,.int .i64 192,.int .i64 192,.int .i64 0,.int .i64 136,.int .i64 146,.int .i64 244,.int .i64 244,.int .i64 0,.int .i64 0])) S):aj prog w0 161 [] S R:=by
 have H:=ab h
 clear h
 refine eN func161 rfl ntmps161 fun hO=>?_
 repeat' first|refine st ?_|(refine br ?_ ?_<;>intro hb)|fail
 refine fR results161 ?_
 exact H.out
theorem Cr(a:Nat)(what:Int)(R:Rt)(hw:(ae.wrap ((ar 64 1 &&& ar 64 what).toNat:Int) != 0)=false)(ha:S[a]? = some (.cells [.int .i64 1] none))(h:R (.ret (.bool false)) S):aj prog w0 162 [.int .i64 what,.own a 0] S R:=by
 refine eN func162 rfl ntmps162 fun hO=>?_
 repeat' first|refine st ?_|(refine br ?_ ?_<;>intro hb)|fail
 refine fR results162 ?_
 exact(congrArg (fun z=>R (.ret (.bool z)) S) hw).mpr h
theorem Fh(R:Rt)(h:R (.ret (.int .i64 0)) S):aj prog w0 81 [(dg 0).av] S R:=by
 have hg:=Cs w0
 have hu:=fun S'=>xP w0 S' [] (by decide)
 have hpc:=fun S'=>ry w0 S' [] ⟨by decide,by simp⟩
 have e1:fc []=true:=rfl
 have e2:oz []=0:=by decide
 rw [e1] at hu
 rw [e2] at hpc
 simp only [aq] at hu hpc
 have H:=ab h
 clear h e1 e2
 rw [show (dg 0).av=.agg [.int .i64 0,.sval false [],.int .u8 0,.int .u8 0,.sval false [],.str [],.str [],.bool false] from rfl]
 refine eN func81 rfl ntmps81 fun hO=>?_
 refine share ?K1 ?hK1 fun key1=>?main1
 case main1 =>
  repeat' ((fail_if_success (apply cq 3));first|refine st ?_|(refine br ?_ ?_<;>intro hb)|fail)
  repeat' ((fail_if_success (apply cq 9));first|refine st ?_|(refine ca ?_;apply hg)|(refine br ?_ ?_<;>intro hb)|refine sd ?_|apply au|(apply aF;(· decide +kernel))|refine bd ?_ ?_|(refine cd ?_;apply hg)|fail)
  all_goals
   refine gM [1000000,1,4] ?_
   simp only [eS,go_sem]
   exact key1
 case hK1 =>
  rintro env ⟨e0,e1,e4⟩
  have h8:=fun R=>Cr w0 (S++[aH.cells [.int .i64 0,.sval false [],.int .u8 0,.int .u8 0,.sval false [],.str [],.str [],.bool false],aH.cells [.int .i64 1]]) (S.length+1) 8 R (by decide) (by rw [aD (by omega)];simp)
  have h32:=fun R=>Cr w0 (S++[aH.cells [.int .i64 0,.sval false [],.int .u8 0,.int .u8 0,.sval false [],.str [],.str [],.bool false],aH.cells [.int .i64 1]]) (S.length+1) 32 R (by decide) (by rw [aD (by omega)];simp)
  have h2:=fun R=>Cr w0 (S++[aH.cells [.int .i64 0,.sval false [],.int .u8 0,.int .u8 0,.sval false [],.str [],.str [],.bool false],aH.cells [.int .i64 1]]) (S.length+1) 2 R (by decide) (by rw [aD (by omega)];simp)
  simp only [List.append_eq,ft,fS]
  refine gi (n:=120) mixed rfl ?_;refine xd 120 0 rfl (by decide +kernel) (by decide +kernel) (by decide +kernel) ?_
  repeat' first|refine st ?_|(refine ca ?_;first|apply h8|apply h32|apply h2|apply hu|apply hpc)|(refine br ?_ ?_<;>intro hb)|refine sq ?_|(apply ro;(iterate 2 (· simp only [go_sem, *];try rfl));(· rfl);(· simp only [go_sem, *];try rfl);(· rfl);(· rfl);(· simp only [go_sem, *];try rfl);(· intro R hR;(first|apply h8|apply h32|apply h2|apply hu|apply hpc);exact hR))|(refine bq ?_ ?_;all_goals (intro hb;try simp only [aw,aE] at hb))|fail
  clear h8 h32 h2 hu hpc
  apply n9
  ·(simp only [go_sem, *];try rfl)
  ·rfl
  ·(simp only [go_sem, *];try rfl)
  ·(simp only [go_sem, *];try rfl)
  ·(simp only [go_sem, *];try rfl)
  ·(simp only [go_sem, *];try rfl)
  ·rfl
  simp only [putA,aq]
  repeat' first|refine st ?_|(refine br ?_ ?_<;>intro hb)|apply cT|apply fZ|fail
  apply n9
  ·(simp only [go_sem, *];try rfl)
  ·rfl
  ·(simp only [go_sem, *];try rfl)
  ·(simp only [go_sem, *];try rfl)
  ·(simp only [go_sem, *];try rfl)
  ·(simp only [go_sem, *];try rfl)
  ·rfl
  simp only [putA,aq]
  repeat' first|refine st ?_|(refine br ?_ ?_<;>intro hb)|apply cT|apply fZ|fail
  refine fR results81 ?_
  exact H.out
theorem KL(R:Rt)(h:R (.ret (.bool true)) S):aj prog w0 172 [.sval false [],.sval false [],.fn (.func 173) [] []] S R:=by
 refine eN func172 rfl ntmps172 fun hO=>?_
 repeat' first|refine st ?_|(refine br ?_ ?_<;>intro hb)|apply cT|apply fZ|fail
 refine fR results172 ?_
 exact h
theorem I7(R:Rt)(h:R (.ret (.bool true)) S):aj prog w0 84 [.sval false [],.sval false []] S R:=by
 have hf:=KL w0
 refine eN func84 rfl ntmps84 fun hO=>?_
 repeat' first|refine st ?_|(refine ca ?_;apply hf)|(refine br ?_ ?_<;>intro hb)|fail
 refine fR results84 ?_
 exact h
theorem GG(R:Rt)(h:R (.ret (.bool true)) S):aj prog w0 83 [.sval false [],.sval false []] S R:=by
 refine eN func83 rfl ntmps83 fun hO=>?_
 repeat' first|refine st ?_|(refine br ?_ ?_<;>intro hb)|fail
 refine fR results83 ?_
 exact h
theorem II(R:Rt)(h:R (.ret (.bool true)) S):aj prog w0 38 [(dg 0).av,(dg 0).av] S R:=by
 have hp:=I7 w0
 have hb:=GG w0
 rw [show (dg 0).av=.agg [.int .i64 0,.sval false [],.int .u8 0,.int .u8 0,.sval false [],.str [],.str [],.bool false] from rfl]
 refine eN func38 rfl ntmps38 fun hO=>?_
 repeat' first|refine st ?_|(refine ca ?_;first|apply hp|apply hb)|(refine br ?_ ?_<;>intro hb)|fail
 refine fR results38 ?_
 exact h
end Go.Proofs.YthdbijpefkapnaaGreatDoor
