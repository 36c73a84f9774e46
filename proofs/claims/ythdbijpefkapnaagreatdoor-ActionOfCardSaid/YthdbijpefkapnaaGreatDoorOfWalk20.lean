/- A part of the proof. -/
import Derived.Test.YthdbijpefkapnaaGreatDoorOfWalk19
set_option linter.all false
set_option maxHeartbeats 40000000
open And renaming intro → a7
open BitVec renaming ofInt → ar
open Bool renaming not_eq_false' → aE, not_eq_true' → ay, or_eq_false_iff → cF, or_eq_true → ef
open Go.IntKind renaming i64 → ae, u8 → a6
open Go.IntWalk renaming i64_in → ai, u8_in → cR
open Go.Lib renaming hid → ab
open List renaming append_assoc → aP, append_nil → aG, cons_append → fQ, foldl_cons → g9, getElem?_append_right → aA, getElem?_eq_getElem → ap, length_append → ah, length_cons → aB, length_eq_zero_iff → kE, length_nil → aI, length_take_le → nl, map_nil → aj, mem_cons_of_mem → iv, mem_of_getElem? → ax, mem_of_mem_take → rh, nil_append → gu, take_add_one → jW, take_of_length_le → dJ, take_zero → aO
open Nat renaming le_trans → fc, zero_add → bG, zero_le → bf
namespace Go.Proofs.YthdbijpefkapnaaGreatDoor
open Go Go.Fen Go.Proofs.Tryz
attribute [local irreducible] aX WP ao dS i7 cJ aU cC
set_option maxRecDepth 8000
variable (w0:World) (S:List aH)
theorem qz(q:Ps × List Ev)(c:Nat):(en q c).2.length≤q.2.length+1:=by
 unfold en m4
 repeat' split
 all_goals simp
theorem qw:∀ (l:List Nat) (q:Ps × List Ev),(l.foldl en q).2.length≤q.2.length+l.length
 | [],_=>χ
 | c::l,q=>by
  have:=qw l (en q c)
  have:=qz q c
  simp only [g9,aB];omega
theorem BX{l:List Nat}{i c:Nat}(q:Ps × List Ev)(h:l[i]? = some c):(l.take (i+1)).foldl en q=en ((l.take i).foldl en q) c:=by
 rw [jW,h]
 simp
theorem Di(w0:World)(X:List aH)(p:Ps)(l:List Ev)(b:Nat)(hl:l.length≤900000)(hp:fj p)(hb:b<256)(R:Rt)(h:R (.ret (.tup [])) (aQ X (f_ p b).1 (l++(f_ p b).2))):ao prog w0 166 [.own X.length 0,.int .u8 b] (aQ X p l) R:=by
 have hst:=fun S'=>IZ w0 S' p.utf b hb hp.utf hp.byt
 have k0:=gJ w0 X p l 0
 have hq2:=jc p.utf b
 have hctl:=fun i c=>Ln (p:=p.utf) (b:=b) (i:=i) (c:=c)
 unfold f_ at h
 generalize dN p.utf b=q at h hst hq2 hctl
 obtain⟨q1,q2⟩:=q
 unfold iB at hst
 simp only at h hst hq2 hctl
 simp only [aQ,dL,dU] at k0
 have H:=ab h
 have Hq:=ab hq2
 have Hc:=ab hctl
 have Hl:=ab hl
 clear h hp hb hq2 hctl hl
 refine eN func166 rfl ntmps166 fun hO=>?_
 have HO:=ab hO
 clear hO
 unfold aQ dL dU
 refine ε2 hst k0 ?_
 refine cD (fun (i:Nat) env S'=>i≤q2.length∧env 1000000=.dfr []∧env 0=.own X.length 0∧env 25=.sval false (q2.map Co)∧env 26=.int .i64 q2.length∧env 27=.int .i64 (i:Int)∧S'=aQ X ((q2.take i).foldl en ({ bp 0 with utf:=q1 },[])).1 (l++((q2.take i).foldl en ({ bp 0 with utf:=q1 },[])).2)) (fun i=>q2.length - i) 0 ?_ ?_
 ·exact⟨bf _,ss,ss,ss,ss,ss,by simp only [aO,List.foldl_nil,aG];rfl⟩
 ·rintro i env S' ⟨hi,e0,f0,f25,f26,f27,rfl⟩ IH
  have HI:=ab IH
  clear IH hst k0
  by_cases hlt:i<q2.length
  ·obtain⟨c,hx⟩:∃ c,q2[i]? = some c:=⟨_,ap hlt⟩
   have h1:decide ((i:Int)<(q2.length:Int))=true:=by simpa using hlt
   have hco:Co c=.int .i64 c:=rfl
   have hq:=Hq.out
   have hc21:=hq.1 c (ax hx)
   have hw:ae.wrap ((i:Int)+1)=((i+1:Nat):Int):=by rw [ai _ ω];omega
   have hsu:=BX ({ bp 0 with utf:=q1 },[]) hx
   have hct:=Hc.out i c hx
   have hcl:=qw (q2.take i) ({ bp 0 with utf:=q1 },[])
   have htk:(q2.take i).length≤i:=nl _ _
   simp only [aI,bG] at hcl
   generalize (q2.take i).foldl en ({ bp 0 with utf:=q1 },[])=y at hsu hct hcl
   obtain⟨y1,y2⟩:=y
   simp only at hct hcl
   have hl2:(l++y2).length≤1000000:=by have:=Hl.out;rw [ah];omega
   have Hsu:=ab hsu
   by_cases hcc:c<32∨c=127
   ·have hy:y1=bp 0:=hct hcc
    subst hy
    have k1:=Nw w0 X (l++y2) c hl2 hcc
    simp only [aQ,dL,dU] at k1 ⊢
    have hw8:a6.wrap (c:Int)=(c:Int):=cR _ ω
    have hd:decide ((c:Int)<32)=true∨decide ((c:Int)<32)=false∧((c:Int)==127)=true:=by simp only [decide_eq_true_eq,decide_eq_false_iff_not,beq_iff_eq];omega
    have Hlt:=ab (a7 hlt hcc)
    clear hlt hq hc21 hsu hct hcl hl2 hcc hi htk
    rcases hd with d1|⟨d1,d2⟩
    all_goals
     refine ε1 k1 ?_
     refine HI.out (i+1) _ _ (by have:=Hlt.out.1;omega) ⟨by have:=Hlt.out.1;omega, ?_, ?_, ?_, ?_, ?_, ?_⟩
     ·exact ss
     ·exact ss
     ·exact ss
     ·exact ss
     ·exact ss
     ·rw [Hsu.out]
      unfold en
      rw [if_pos Hlt.out.2]
      simp only [aQ,dL,dU,aP]
   ·have d1:decide ((c:Int)<32)=false:=κ
    have d2:((c:Int)==127)=false:=ν
    obtain⟨m,hm⟩:∃ m:Int,(if (255:Int)<(c:Int) then 255 else (c:Int))=m:=⟨_,rfl⟩
    have hm2:0≤m∧m≤255∧((m<127∨159<m)↔(c<127∨159<c)):=by subst hm;split<;>omega
    have hw8:a6.wrap m=m:=cR _ ω
    have ho:=fun S'=>Dj w0 S' m 127 159
    have k1:=Ar w0 X y1 (l++y2) (lS c) hl2
    rw [show (lS c).av=.agg [.int .i64 1,.int .i64 c,.int .u8 0,.int .u8 0,.sval false [],.str [],.str []] from rfl] at k1
    simp only [aQ,dL,dU] at k1 ⊢
    have Hlt:=ab (a7 hlt hcc)
    by_cases hcd:c<127∨159<c
    ·have ho2:(decide (m<127)||decide (159<m))=true:=by simp only [ef,decide_eq_true_eq];exact hm2.2.2.2 hcd
     rw [ho2] at ho
     have Hcd:=ab hcd
     clear hlt hq hc21 hsu hct hcl hl2 hcc hi htk hm2 ho2 hcd
     refine ε2 k1 ho ?_
     refine HI.out (i+1) _ _ (by have:=Hlt.out.1;omega) ⟨by have:=Hlt.out.1;omega, ?_, ?_, ?_, ?_, ?_, ?_⟩
     ·exact ss
     ·exact ss
     ·exact ss
     ·exact ss
     ·exact ss
     ·rw [Hsu.out]
      unfold en
      rw [if_neg Hlt.out.2,if_pos Hcd.out]
      simp only [aQ,dL,dU,aP]
    ·have ho2:(decide (m<127)||decide (159<m))=false:=by
      have:¬ (m<127∨159<m):=fun hh=>hcd (hm2.2.2.1 hh)
      rw [not_or] at this
      simp only [cF,decide_eq_false_iff_not]
      exact this
     rw [ho2] at ho
     have Hcd:=ab hcd
     clear hlt hq hc21 hsu hct hcl hl2 hcc hi htk hm2 ho2 hcd
     refine ε1 ho ?_
     refine HI.out (i+1) _ _ (by have:=Hlt.out.1;omega) ⟨by have:=Hlt.out.1;omega, ?_, ?_, ?_, ?_, ?_, ?_⟩
     ·exact ss
     ·exact ss
     ·exact ss
     ·exact ss
     ·exact ss
     ·rw [Hsu.out]
      unfold en
      rw [if_neg Hlt.out.2,if_neg Hcd.out]
      simp only [aQ,dL,dU]
  ·have h1:decide ((i:Int)<(q2.length:Int))=false:=by simpa using hlt
   have hie:i=q2.length:=ω
   have htk:q2.take i=q2:=dJ ω
   rw [htk]
   clear hlt hi hie htk HI
   refine ε0 ?_
   (apply bS HO.out H.out;(· simp);(· (simp only [go_sem, *];try rfl));(· (simp only [go_sem, *];try rfl));(· (simp only [go_sem, *,results166];try rfl)))
theorem JU(w0:World)(X:List aH)(p:Ps)(l:List Ev)(b:Nat)(hl:l.length≤900000)(hp:fj p)(hb:b<256)(hn:p.st=0∧(p.utf≠[]∨128≤b))(R:Rt)(h:R (.ret (.tup [])) (aQ X (f_ p b).1 (l++(f_ p b).2))):ao prog w0 82 [.own X.length 0,.int .u8 b] (aQ X p l) R:=by
 have k0:=Di w0 X p l b hl hp hb
 simp only [aQ,dL,dU] at k0
 have z:((0:Nat):Int)=0:=rfl
 have c0:decide ((0:Int)<(p.utf.length:Int))=true∨decide ((0:Int)<(p.utf.length:Int))=false∧decide ((128:Int)≤(b:Int))=true:=by
  simp only [decide_eq_true_eq,decide_eq_false_iff_not]
  by_cases hu:p.utf=[]
  ·right
   have h3:p.utf.length=0:=by rw [hu];rfl
   have h4:=hn.2.resolve_left (fun hh=>hh hu)
   omega
  ·left
   have:p.utf.length≠0:=fun hh=>hu (kE.1 hh)
   omega
 have hst:=hn.1
 have H:=ab h
 clear h hl hp hb hn
 have e0:((p.st:Int)==0)=true:=by rw [hst];rfl
 have e6:((p.st:Int)==6)=false:=by rw [hst];rfl
 have e11:((p.st:Int)==11)=false:=by rw [hst];rfl
 have e13:((p.st:Int)==13)=false:=by rw [hst];rfl
 clear hst z
 rcases c0 with c0|⟨c0,c1⟩
 all_goals
  refine eN func82 rfl ntmps82 fun hO=>?_
  have HO:=ab hO
  clear hO
  unfold aQ dL dU
  refine ε1 k0 ?_
  (apply bS HO.out H.out;(· simp);(· (simp only [go_sem, *];try rfl));(· (simp only [go_sem, *];try rfl));(· (simp only [go_sem, *,results82];try rfl)))
theorem JV(w0:World)(X:List aH)(p:Ps)(l:List Ev)(b:Nat)(hl:l.length≤900000)(hb:b<256)(hn:dQ p b)(ht:dR p.st=false)(he:gS p.st=false)(hh:128≤b)(R:Rt)(h:R (.ret (.tup [])) (aQ X (f_ (bp 0) b).1 (l++(f_ (bp 0) b).2))):ao prog w0 82 [.own X.length 0,.int .u8 b] (aQ X p l) R:=by
 have k0:=gJ w0 X p l 0
 have k1:=Di w0 X (bp 0) l b hl (fj.beg δ) hb
 simp only [aQ,dL,dU] at k0 k1
 have c1:((p.st:Int)==0)=false:=by
  rcases iC hn with⟨_,_,c,_⟩|c
  ·simp at c;omega
  ·exact c
 have c2:=kp p.st
 obtain⟨q2,q3,q4⟩:=wh he
 rcases c2 with⟨c2,_⟩|⟨_,c5,c6,c7⟩
 ·rw [ht] at c2;cases c2
 have e24:((b:Int)==24)=false:=ν
 have e26:((b:Int)==26)=false:=ν
 have e27:((b:Int)==27)=false:=ν
 have d128:decide ((128:Int)≤(b:Int))=true:=κ
 have H:=ab h
 clear h hl hb hn hh
 refine eN func82 rfl ntmps82 fun hO=>?_
 have HO:=ab hO
 clear hO
 unfold aQ dL dU
 refine ε2 k0 k1 ?_
 (apply bS HO.out H.out;(· simp);(· (simp only [go_sem, *];try rfl));(· (simp only [go_sem, *];try rfl));(· (simp only [go_sem, *,results82];try rfl)))
theorem Dh(w0:World)(X:List aH)(p:Ps)(l:List Ev)(b:Nat)(hl:l.length≤900000)(hp:fj p)(hb:b<256)(he:gS p.st=true→b=24∨b=26∨b=27)(R:Rt)(h:R (.ret (.tup [])) (aQ X (take1 p b).1 (l++(take1 p b).2))):ao prog w0 82 [.own X.length 0,.int .u8 b] (aQ X p l) R:=by
 by_cases hn:p.st=0∧(p.utf≠[]∨128≤b)
 ·unfold take1 at h
  rw [if_pos hn] at h
  exact JU w0 X p l b hl hp hb hn R h
 by_cases ht:dR p.st=true∨b<128∨b=24∨b=26∨b=27
 ·exact Dg w0 X p l b ω hp hb hn he ht R h
 ·rw [not_or,not_or] at ht
  obtain⟨h1,h2,h3⟩:=ht
  have h1:dR p.st=false:=by simpa using h1
  have he':gS p.st=false:=by
   cases hx:gS p.st with
   | false=>rfl
   | true=>have:=he hx;omega
  unfold take1 at h
  rw [if_neg hn,if_neg ω,if_neg ω,h1,if_neg δ,if_pos ω] at h
  exact JV w0 X p l b hl hb hn h1 he' ω R h
theorem Nv(w0:World)(X:List aH)(p:Ps)(l:List Ev)(b:Nat)(hl:l.length≤900000)(hp:fj p)(hb:b<256)(R:Rt)(h:R (.ret (.tup [])) (aQ X (qr p b).1 (l++(qr p b).2))):ao prog w0 168 [.own X.length 0,.int .u8 b] (aQ X p l) R:=by
 unfold qr at h
 by_cases c:b≠92
 ·rw [if_pos c] at h
  have k0:=gJ w0 X p l 1
  have k1:=Dh w0 X (bp 1) l b hl (fj.beg δ) hb (fun hh=>by cases hh)
  simp only [aQ,dL,dU] at k0 k1
  have e92:((b:Int) != 92)=true:=by rw [bne_iff_ne];omega
  have H:=ab h
  clear h hl hp hb c
  refine eN func168 rfl ntmps168 fun hO=>?_
  have HO:=ab hO
  clear hO
  unfold aQ dL dU
  refine ε2 k0 k1 ?_
  (apply oA HO.out H.out;(· simp);(· (simp only [go_sem, *];try rfl));(· (simp only [go_sem, *];try rfl));(· (simp only [go_sem, *,results168];try rfl)))
 rw [if_neg c] at h
 have e92:((b:Int) != 92)=false:=by
  have:b=92:=ω
  rw [this];rfl
 by_cases c7:p.st=7
 ·rw [if_pos c7] at h
  have e7:((p.st:Int)==7)=true:=by rw [c7];rfl
  have k0:=uk w0 X p l (mh p) ω
  rw [show (mh p).av=.agg [.int .i64 5,.int .i64 0,.int .u8 0,.int .u8 0,.sval false [],.str [],.str p.text] from rfl] at k0
  simp only [aQ,dL,dU] at k0
  have H:=ab h
  clear h hl hp hb c c7
  refine eN func168 rfl ntmps168 fun hO=>?_
  have HO:=ab hO
  clear hO
  unfold aQ dL dU
  repeat' ((fail_if_success (apply dk 16 rfl));first|refine st ?_|(refine br ?_ ?_<;>intro hb)|fail)
  refine rP 4 [0,1,4] rfl HO.out χ ss ss ss ?_
  refine ε1 k0 ?_
  (apply bS HO.out H.out;(· simp);(· (simp only [go_sem, *];try rfl));(· (simp only [go_sem, *];try rfl));(· (simp only [go_sem, *,results168];try rfl)))
 rw [if_neg c7] at h
 have e7:((p.st:Int)==7)=false:=ν
 by_cases c12:p.st=12
 ·rw [if_pos c12] at h
  have e12:((p.st:Int)==12)=true:=by rw [c12];rfl
  have k0:=uk w0 X p l (uK p) ω
  rw [show (uK p).av=.agg [.int .i64 6,.int .i64 0,.int .u8 p.pv,.int .u8 p.fn,.sval false (p.pars.map ct),.str p.inter,.str p.text] from rfl] at k0
  simp only [aQ,dL,dU] at k0
  have H:=ab h
  clear h hl hp hb c c7 c12
  refine eN func168 rfl ntmps168 fun hO=>?_
  have HO:=ab hO
  clear hO
  unfold aQ dL dU
  repeat' ((fail_if_success (apply dk 16 rfl));first|refine st ?_|(refine br ?_ ?_<;>intro hb)|fail)
  refine rP 4 [0,1,4] rfl HO.out χ ss ss ss ?_
  refine ε1 k0 ?_
  (apply bS HO.out H.out;(· simp);(· (simp only [go_sem, *];try rfl));(· (simp only [go_sem, *];try rfl));(· (simp only [go_sem, *,results168];try rfl)))
 rw [if_neg c12] at h
 simp only [aG] at h
 have e12:((p.st:Int)==12)=false:=ν
 have k0:=gJ w0 X p l 0
 simp only [aQ,dL,dU] at k0
 have H:=ab h
 clear h hl hp hb c c7 c12
 refine eN func168 rfl ntmps168 fun hO=>?_
 have HO:=ab hO
 clear hO
 unfold aQ dL dU
 repeat' ((fail_if_success (apply dk 16 rfl));first|refine st ?_|(refine br ?_ ?_<;>intro hb)|fail)
 refine rP 4 [0,1,4] rfl HO.out χ ss ss ss ?_
 refine ε1 k0 ?_
 (apply bS HO.out H.out;(· simp);(· (simp only [go_sem, *];try rfl));(· (simp only [go_sem, *];try rfl));(· (simp only [go_sem, *,results168];try rfl)))
theorem JW(w0:World)(X:List aH)(p:Ps)(l:List Ev)(b:Nat)(hl:l.length≤900000)(hp:fj p)(hb:b<256)(he:gS p.st=true)(hc:¬ (b=24∨b=26∨b=27))(R:Rt)(h:R (.ret (.tup [])) (aQ X (qr p b).1 (l++(qr p b).2))):ao prog w0 82 [.own X.length 0,.int .u8 b] (aQ X p l) R:=by
 have k0:=Nv w0 X p l b hl hp hb
 simp only [aQ,dL,dU] at k0
 have e24:((b:Int)==24)=false:=ν
 have e26:((b:Int)==26)=false:=ν
 have e27:((b:Int)==27)=false:=ν
 unfold gS at he
 simp only [ef,beq_iff_eq] at he
 have e0:((p.st:Int)==0)=false:=ν
 have e6:((p.st:Int)==6)=false:=ν
 have e11:((p.st:Int)==11)=false:=ν
 have e13:((p.st:Int)==13)=false:=ν
 have c0:((p.st:Int)==7)=true∨(((p.st:Int)==7)=false∧((p.st:Int)==12)=true)∨(((p.st:Int)==7)=false∧((p.st:Int)==12)=false∧((p.st:Int)==14)=true):=by simp only [beq_iff_eq,beq_eq_false_iff_ne];omega
 have H:=ab h
 clear h hl hp hb he hc
 rcases c0 with c0|⟨c0,c1⟩|⟨c0,c1,c2⟩
 all_goals
  refine eN func82 rfl ntmps82 fun hO=>?_
  have HO:=ab hO
  clear hO
  unfold aQ dL dU
  refine ε1 k0 ?_
  (apply bS HO.out H.out;(· simp);(· (simp only [go_sem, *];try rfl));(· (simp only [go_sem, *];try rfl));(· (simp only [go_sem, *,results82];try rfl)))
theorem LS(w0:World)(X:List aH)(p:Ps)(l:List Ev)(b:Nat)(hl:l.length≤900000)(hp:fj p)(hb:b<256)(R:Rt)(h:R (.ret (.tup [])) (aQ X (eP p b).1 (l++(eP p b).2))):ao prog w0 82 [.own X.length 0,.int .u8 b] (aQ X p l) R:=by
 unfold eP at h
 split at h
 ·next hc=>exact JW w0 X p l b hl hp hb hc.1 hc.2 R h
 ·next hc =>
  refine Dh w0 X p l b hl hp hb (fun he=>?_) R h
  by_cases h2:b=24∨b=26∨b=27
  ·exact h2
  ·exact absurd ⟨he,h2⟩ hc
theorem sP:∀ (s:List Nat) (q:Ps × List Ev),s.foldl (fun q b=>((eP q.1 b).1,q.2++(eP q.1 b).2)) q=((dj q.1 s).1,q.2++(dj q.1 s).2)
 | [],q=>by simp [dj]
 | b::s,q=>by
  unfold dj
  rw [g9,g9,sP s,sP s]
  simp [dj]
theorem py(p:Ps):dj p []=(p,[]):=rfl
theorem ki(p:Ps)(b:Nat)(s:List Nat):dj p (b::s)=((dj (eP p b).1 s).1,(eP p b).2++(dj (eP p b).1 s).2):=by
 have:=sP s ((eP p b).1,[]++(eP p b).2)
 simp only [gu] at this
 exact this
theorem xW:∀ (s t:List Nat) (p:Ps),dj p (s++t)=((dj (dj p s).1 t).1,(dj p s).2++(dj (dj p s).1 t).2)
 | [],t,p=>by simp [py]
 | b::s,t,p=>by
  rw [fQ,ki,xW s t,ki]
  simp
theorem we:∀ (s:List Nat) (p:Ps),fj p→(∀ b∈s,b<256)→fj (dj p s).1
 | [],p,h,_=>h
 | b::s,p,h,hb=>by
  rw [ki]
  exact we s _ (h.take (hb b χ)) fun x hx=>hb x (iv _ hx)
theorem C4(p:Ps)(b:Nat):(eP p b).2.length≤2:=by
 have hd:∀ p e,(gN p e).2.length≤2:=fun p e=>fc (uN p e) δ
 have hp:∀ q b,(f_ q b).2.length≤2:=fun q b=>by
  unfold f_
  have h1:=qw (dN q.utf b).2 ({ bp 0 with utf:=(dN q.utf b).1 },[])
  have h2:=(jc q.utf b).2
  exact fc h1 (by simpa using h2)
 have hla:∀ p b,(ia p b).2.length≤2:=fun p b=>fc (El p b) δ
 have h1:∀ p b,(take1 p b).2.length≤2:=fun p b=>by
  unfold take1
  split
  ·exact hp _ _
  ·split
   ·simp
   ·split
    ·split<;>simp
    ·split
     ·unfold eO
      repeat' split
      all_goals first|exact hd _ _|simp
     ·split
      ·exact hp _ _
      ·split
       ·split<;>simp
       ·split
        ·simp
        ·unfold dr
         split
         ·simp
         ·unfold qp
          repeat' split
          all_goals first|exact hd _ _|simp
         ·unfold kY
          split
          ·simp
          ·exact hd _ _
         ·unfold g7
          repeat' split
          all_goals first|exact hla _ _|simp
         ·unfold g7
          repeat' split
          all_goals first|exact hla _ _|simp
         ·unfold fU
          repeat' split
          all_goals first|exact hla _ _|simp
         ·unfold fU
          repeat' split
          all_goals first|exact hla _ _|simp
         ·unfold fW
          repeat' split
          all_goals first|exact hla _ _|simp
         ·unfold fW
          repeat' split
          all_goals first|exact hla _ _|simp
         ·simp
 unfold eP
 split
 ·unfold qr
  repeat' split
  ·exact h1 _ _
  ·exact hd _ _
  ·exact hd _ _
  ·simp
 ·exact h1 _ _
theorem lq:∀ (s:List Nat) (p:Ps),(dj p s).2.length≤2 * s.length
 | [],p=>by simp [py]
 | b::s,p=>by
  rw [ki]
  have h1:=lq s (eP p b).1
  have h2:=C4 p b
  simp only [ah,aB];omega
theorem uI{s:List Nat}{i b:Nat}(p:Ps)(h:s[i]? = some b):dj p (s.take (i+1))=((eP (dj p (s.take i)).1 b).1,(dj p (s.take i)).2++(eP (dj p (s.take i)).1 b).2):=by
 rw [jW,h]
 show dj p (s.take i++[b])=_
 rw [xW,ki,py]
 simp
theorem Fh(e:Ev):(Ev.av e).plain=true:=by simp only [Ev.av,go_sem,ct.plainL]
@[go_sem] theorem Ev.plainL(l:List Ev):plainL (l.map Ev.av)=true:=fL Fh l
theorem JT(B C:aH)(p:Ps)(l:List Ev)(b:Nat)(hl:l.length≤900000)(hp:fj p)(hb:b<256)(R:Rt)(h:R (.ret (.tup [])) (S++[B,C,dL (eP p b).1 (S.length+3) (l++(eP p b).2).length,dU (l++(eP p b).2)])) :
  ao prog w0 82 [.own (S.length+2) 0,.int .u8 b] (S++[B,C,dL p (S.length+3) l.length,dU l]) R:=by
 have k:=LS w0 (S++[B,C]) p l b hl hp hb R
 have e:(S++[B,C]).length=S.length+2:=χ
 unfold aQ at k
 rw [e] at k
 simp only [aP,fQ,gu] at k
 exact k h
theorem LX(p:Ps)(s:List Nat)(hp:fj p)(hs:s.length≤4096)(hb:∀ b∈s,b<256)(hck:∀ (S':List aH) (R:Rt),R (.ret (.int .i64 0)) S'→ao prog w0 81 [p.av] S' R)(R:Rt)
  (h:R (.ret (.tup [(dj p s).1.av,.sval false ((dj p s).2.map Ev.av),.int .i64 0])) S):ao prog w0 37 [p.av,.sval false (s.map By)] S R:=by
 have hgt:decide ((4096:Int)<(s.length:Int))=false:=κ
 have Hp:=ab hp
 have Hb:=ab hb
 have H:=ab h
 clear hp hb h
 unfold Ps.av at hck ⊢
 refine eN func37 rfl ntmps37 fun hO=>?_
 refine ε1 hck ?_
 refine nr (a:=S.length+2) (j:=8) 40 7 ss ss δ ?_
 simp only [go_sem, *]
 refine cD (fun (i:Nat) env S'=>i≤s.length∧env 1000000=.dfr []∧env 4=.own (S.length+1) 0∧env 8=.own (S.length+2) 0∧env 24=.sval false (s.map By)∧env 25=.int .i64 s.length∧env 26=.int .i64 (i:Int) ∧
  S'=S++[aH.cells [.int .i64 p.st,.sval false (p.utf.map By),.int .u8 p.pv,.int .u8 p.fn,.sval false (p.pars.map ct),.str p.inter,.str p.text,.bool p.bad],aH.cells [.int .i64 0,.snil,.int .u8 0,.int .u8 0,.snil,.str [],.str [],.bool false],dL (dj p (s.take i)).1 (S.length+3) (dj p (s.take i)).2.length,dU (dj p (s.take i)).2]) (fun i=>s.length - i) 0 ?_ ?_
 ·exact⟨bf _,ss,ss,ss,ss,ss,ss,rfl⟩
 ·rintro i env S' ⟨hi,e0,f4,f8,f24,f25,f26,rfl⟩ IH
  have HI:=ab IH
  clear IH hck
  by_cases hlt:i<s.length
  ·obtain⟨b,hx⟩:∃ b,s[i]? = some b:=⟨_,ap hlt⟩
   have h1:decide ((i:Int)<(s.length:Int))=true:=by simpa using hlt
   have hw:ae.wrap ((i:Int)+1)=((i+1:Nat):Int):=by rw [ai _ ω];omega
   have hco:By b=.int .u8 b:=rfl
   have hpi:fj (dj p (s.take i)).1:=we _ _ Hp.out fun x hx=>Hb.out x (rh hx)
   have hsu:=uI p hx
   have hle:=lq (s.take i) p
   have htk:(s.take i).length≤i:=nl _ _
   generalize dj p (s.take i)=y at hsu hpi hle
   obtain⟨y1,y2⟩:=y
   simp only at hpi hle hsu
   have k1:=JT w0 S (aH.cells [.int .i64 p.st,.sval false (p.utf.map By),.int .u8 p.pv,.int .u8 p.fn,.sval false (p.pars.map ct),.str p.inter,.str p.text,.bool p.bad]) (aH.cells [.int .i64 0,.snil,.int .u8 0,.int .u8 0,.snil,.str [],.str [],.bool false]) y1 y2 b ω hpi (Hb.out b (ax hx))
   have Hsu:=ab hsu
   have Hlt:=ab hlt
   clear hsu hlt hpi hle htk hi
   simp only [dL,dU] at k1 ⊢
   refine ε1 k1 ?_
   refine HI.out (i+1) _ _ (by have:=Hlt.out;omega) ⟨Hlt.out, ?_, ?_, ?_, ?_, ?_, ?_, ?_⟩
   ·exact ss
   ·exact ss
   ·exact ss
   ·exact ss
   ·exact ss
   ·exact ss
   ·rw [Hsu.out]
    rfl
  ·have h1:decide ((i:Int)<(s.length:Int))=false:=by simpa using hlt
   have hie:i=s.length:=ω
   have htk:s.take i=s:=dJ ω
   rw [htk]
   have hh:=H.out
   generalize dj p s=y at hh
   obtain⟨y1,y2⟩:=y
   unfold Ps.av at hh
   simp only at hh
   have H2:=ab hh
   clear hlt hi hie htk HI hh H
   simp only [dL,dU]
   repeat' first|refine st ?_|(refine br ?_ ?_<;>intro hb)|refine sd ?_|refine sx ?_|apply aw|(apply aF;(· decide +kernel))|refine bd ?_ ?_|fail
   all_goals refine fR results37 ?_
   all_goals exact H2.out
theorem Dm(R:Rt)(h:R (.ret (.agg [.int .i64 1,.int .i64 0,.int .i64 130,.int .i64 0,.int .i64 136,.int .i64 146,.int .i64 192,.int .i64 192,.int .i64 0,.int .i64 136,.int .i64 146,.int .i64 244,.int .i64 244,.int .i64 0,.int .i64 0])) S):ao prog w0 161 [] S R:=by
 have H:=ab h
 clear h
 exact γR0 func161 ntmps161 results161 H.out
theorem Dl(a:Nat)(what:Int)(R:Rt)(hw:(ae.wrap ((ar 64 1 &&& ar 64 what).toNat:Int) != 0)=false)(ha:S[a]? = some (.cells [.int .i64 1] none))(h:R (.ret (.bool false)) S):ao prog w0 162 [.int .i64 what,.own a 0] S R:=by
 refine γR0 func162 ntmps162 results162 ?_
 exact(congrArg (fun z=>R (.ret (.bool z)) S) hw).mpr h
theorem Gj(R:Rt)(h:R (.ret (.int .i64 0)) S):ao prog w0 81 [(bp 0).av] S R:=by
 have hg:=Dm w0
 have hu:=fun S'=>yP w0 S' [] δ
 have hpc:=fun S'=>su w0 S' [] ⟨δ,χ⟩
 have e1:e9 []=true:=rfl
 have e2:mQ []=0:=δ
 rw [e1] at hu
 rw [e2] at hpc
 simp only [aj] at hu hpc
 have H:=ab h
 clear h e1 e2
 rw [show (bp 0).av=.agg [.int .i64 0,.sval false [],.int .u8 0,.int .u8 0,.sval false [],.str [],.str [],.bool false] from rfl]
 refine eN func81 rfl ntmps81 fun hO=>?_
 refine share ?K1 ?hK1 fun key1=>?main1
 case main1 =>
  repeat' ((fail_if_success (apply ci 3));first|refine st ?_|(refine br ?_ ?_<;>intro hb)|fail)
  repeat' ((fail_if_success (apply ci 9));first|refine st ?_|(refine ca ?_;apply hg)|(refine br ?_ ?_<;>intro hb)|refine sd ?_|apply aw|(apply aF;(· decide +kernel))|refine bd ?_ ?_|(refine cd ?_;apply hg)|fail)
  all_goals
   refine g_ [1000000,1,4] ?_
   simp only [fb,go_sem]
   exact key1
 case hK1 =>
  rintro env ⟨e0,e1,e4⟩
  have h8:=fun R=>Dl w0 (S++[aH.cells [.int .i64 0,.sval false [],.int .u8 0,.int .u8 0,.sval false [],.str [],.str [],.bool false],aH.cells [.int .i64 1]]) (S.length+1) 8 R δ (by rw [aA ω];simp)
  have h32:=fun R=>Dl w0 (S++[aH.cells [.int .i64 0,.sval false [],.int .u8 0,.int .u8 0,.sval false [],.str [],.str [],.bool false],aH.cells [.int .i64 1]]) (S.length+1) 32 R δ (by rw [aA ω];simp)
  have h2:=fun R=>Dl w0 (S++[aH.cells [.int .i64 0,.sval false [],.int .u8 0,.int .u8 0,.sval false [],.str [],.str [],.bool false],aH.cells [.int .i64 1]]) (S.length+1) 2 R δ (by rw [aA ω];simp)
  simp only [List.append_eq,fQ,gu]
  refine gy (n:=120) mixed rfl ?_;refine x_ 120 0 rfl (by decide +kernel) (by decide +kernel) (by decide +kernel) ?_
  repeat' first|refine st ?_|(refine ca ?_;first|apply h8|apply h32|apply h2|apply hu|apply hpc)|(refine br ?_ ?_<;>intro hb)|refine sq ?_|(apply sj;(iterate 2 (· simp only [go_sem, *];try rfl));(· rfl);(· simp only [go_sem, *];try rfl);(· rfl);(· rfl);(· simp only [go_sem, *];try rfl);(· intro R hR;(first|apply h8|apply h32|apply h2|apply hu|apply hpc);exact hR))|(refine bq ?_ ?_;all_goals (intro hb;try simp only [ay,aE] at hb))|fail
  clear h8 h32 h2 hu hpc
  apply oU
  ·exact ss
  ·rfl
  ·exact ss
  ·exact ss
  ·exact ss
  ·exact ss
  ·rfl
  simp only [putA,aj]
  repeat' first|refine st ?_|(refine br ?_ ?_<;>intro hb)|apply cS|apply gn|fail
  apply oU
  ·exact ss
  ·rfl
  ·exact ss
  ·exact ss
  ·exact ss
  ·exact ss
  ·rfl
  simp only [putA,aj]
  repeat' first|refine st ?_|(refine br ?_ ?_<;>intro hb)|apply cS|apply gn|fail
  refine fR results81 ?_
  exact H.out
theorem Mk(R:Rt)(h:R (.ret (.bool true)) S):ao prog w0 172 [.sval false [],.sval false [],.fn (.func 173) [] []] S R:=by
 refine eN func172 rfl ntmps172 fun hO=>?_
 repeat' first|refine st ?_|(refine br ?_ ?_<;>intro hb)|apply cS|apply gn|fail
 refine fR results172 ?_
 exact h
theorem Kp(R:Rt)(h:R (.ret (.bool true)) S):ao prog w0 84 [.sval false [],.sval false []] S R:=by
 have hf:=Mk w0
 exact γR1 hf func84 ntmps84 results84 h
theorem IB(R:Rt)(h:R (.ret (.bool true)) S):ao prog w0 83 [.sval false [],.sval false []] S R:=by
 exact γR0 func83 ntmps83 results83 h
theorem JY(R:Rt)(h:R (.ret (.bool true)) S):ao prog w0 38 [(bp 0).av,(bp 0).av] S R:=by
 have hp:=Kp w0
 have hb:=IB w0
 rw [show (bp 0).av=.agg [.int .i64 0,.sval false [],.int .u8 0,.int .u8 0,.sval false [],.str [],.str [],.bool false] from rfl]
 exact γR2 hp hb func38 ntmps38 results38 h
end Go.Proofs.YthdbijpefkapnaaGreatDoor
