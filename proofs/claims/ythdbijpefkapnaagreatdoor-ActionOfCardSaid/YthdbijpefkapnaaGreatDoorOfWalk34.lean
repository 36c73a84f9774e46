/- A part of the proof. -/
import Derived.Test.YthdbijpefkapnaaGreatDoorOfWalk23
set_option linter.all false
set_option maxHeartbeats 40000000
open Bool renaming eq_iff_iff → eU, false_eq_true → aZ, or_eq_false_iff → cF, or_eq_true → ef
open Classical renaming byContradiction → j_
open Go.IntKind renaming i64 → ae
open Go.IntWalk renaming i64_in → ai
open Go.Lib renaming hid → ab
open List renaming length_pos_iff → pV, map_cons → al, map_nil → aj
namespace Go.Proofs.YthdbijpefkapnaaGreatDoor
open Go Go.Fen Go.Proofs.Tryz
attribute [local irreducible] aX WP ao dS i7 cJ aU cC
set_option maxRecDepth 8000
variable (w0:World) (S:List aH)
theorem Kc(b:Nat)(hb:b<256)(R:Rt)(h:R (.ret (fq (take1 (bp 1) b))) S):ao prog w0 31 [(bp 1).av,.int .u8 b] S R:=by
 have hbg:=kO w0
 have hh:=vB w0
 have hpr:=fun S'=>si w0 S' (bp 0) b hb rfl (by simp [bp])
 have hwb:ae.wrap (b:Int)=(b:Int):=ai _ ω
 unfold take1 at h
 rw [if_neg (by simp [bp])] at h
 simp only [bp,Ps.av,aj] at hpr ⊢
 by_cases h1:b=24∨b=26
 ·rw [if_pos h1] at h
  rcases h1 with rfl|rfl
  all_goals
   clear hb hpr hwb
   exact γR1 hbg func31 ntmps31 results31 h
 rw [if_neg h1] at h
 have d1:((b:Int)==24)=false:=ν
 have d2:((b:Int)==26)=false:=ν
 by_cases h2:b=27
 ·subst h2
  have h:R (.ret (fq (bp 1,[]))) S:=h
  clear hb h1 hpr hwb
  refine eN func31 rfl ntmps31 fun hO=>?_
  refine ε11 hbg hh ?_
  refine fR results31 ?_
  exact h
 rw [if_neg h2,if_neg δ] at h
 have d3:((b:Int)==27)=false:=ν
 by_cases h3:128≤b
 ·rw [if_pos h3] at h
  have d4:decide (128≤(b:Int))=true:=τ
  simp only [bp] at h
  generalize f_ _ b=y at h hpr
  obtain⟨⟨zs',utf',pv',fn',pars',it',tx',bad'⟩,y2⟩:=y
  simp only [fq,Ps.av] at h hpr
  have H:=ab h
  clear h hb h1 h2 h3 hwb
  refine eN func31 rfl ntmps31 fun hO=>?_
  refine ε21 hbg hpr hh ?_
  refine fR results31 ?_
  exact H.out
 rw [if_neg h3] at h
 have d4:decide (128≤(b:Int))=false:=τ2
 by_cases h4:b<32
 ·rw [if_pos h4] at h
  have d5:decide ((b:Int)<32)=true:=τ
  have h:R (.ret (fq (bp 1,[uL b]))) S:=h
  clear hb h1 h2 h3 h4 hpr
  refine eN func31 rfl ntmps31 fun hO=>?_
  refine ε11 hbg hh ?_
  refine fR results31 ?_
  exact h
 rw [if_neg h4] at h
 have d5:decide ((b:Int)<32)=false:=τ2
 by_cases h5:b=127
 ·rw [if_pos h5] at h
  have d6:((b:Int)==127)=true:=by rw [beq_iff_eq];omega
  have h:R (.ret (fq (bp 1,[]))) S:=h
  clear hb h1 h2 h3 h4 h5 hpr hwb
  refine eN func31 rfl ntmps31 fun hO=>?_
  refine ε11 hbg hh ?_
  refine fR results31 ?_
  exact h
 rw [if_neg h5] at h
 have d6:((b:Int)==127)=false:=ν
 have hgo:=fun S'=>yZ w0 S' (bp 1) (rL 1 δ) (.inl δ) δ b ω ω
 simp only [bp,Ps.av,aj] at h hgo
 generalize dr _ b=y at h hgo
 obtain⟨⟨zs',utf',pv',fn',pars',it',tx',bad'⟩,y2⟩:=y
 simp only [fq,Ps.av] at h hgo
 have H:=ab h
 clear h hb h1 h2 h3 h4 h5 hpr hwb
 refine eN func31 rfl ntmps31 fun hO=>?_
 refine ε21 hbg hgo hh ?_
 refine fR results31 ?_
 exact H.out
theorem Kh(p:Ps)(hs:gS p.st=true)(b:Nat)(hb:b<256)(R:Rt)(h:R (.ret (fq (qr p b))) S):ao prog w0 63 [p.av,.int .u8 b] S R:=by
 have hbg:=kO w0
 have ho:=fun S'=>Kc w0 S' b hb
 obtain⟨zs,utf,pv,fn,pars,it,tx,bad⟩:=p
 unfold qr at h
 simp only [Ps.av]
 by_cases h1:b=92
 ·subst h1
  rw [if_neg χ] at h
  simp only [gS,ef,beq_iff_eq] at hs
  clear ho hb
  rcases hs with rfl|rfl|rfl
  ·rw [if_pos rfl] at h
   unfold gN at h
   have ht:=fun S'=>n_ w0 S' ((7:Nat):Int) utf pv fn pars it tx bad (mh ⟨7,utf,pv,fn,pars,it,tx,bad⟩)
   simp only [Ev.av,mh,aj] at ht
   cases bad with
   | true =>
    simp only [if_true,al,aj,Ev.av] at h ht
    have H:=ab h
    clear h
    exact γR1 ht func63 ntmps63 results63 H.out
   | false =>
    simp only [aZ,if_false,al,aj,Ev.av] at h ht
    have H:=ab h
    clear h
    exact γR1 ht func63 ntmps63 results63 H.out
  ·rw [if_neg χ,if_pos rfl] at h
   unfold gN at h
   have ht:=fun S'=>n_ w0 S' ((12:Nat):Int) utf pv fn pars it tx bad (uK ⟨12,utf,pv,fn,pars,it,tx,bad⟩)
   simp only [Ev.av,uK] at ht
   cases bad with
   | true =>
    simp only [if_true,al,aj,Ev.av] at h ht
    have H:=ab h
    clear h
    exact γR1 ht func63 ntmps63 results63 H.out
   | false =>
    simp only [aZ,if_false,al,aj,Ev.av] at h ht
    have H:=ab h
    clear h
    exact γR1 ht func63 ntmps63 results63 H.out
  ·rw [if_neg χ,if_neg χ] at h
   have H:=ab h
   clear h
   exact γR1 hbg func63 ntmps63 results63 H.out
 ·rw [if_pos h1] at h
  have d1:((b:Int) != 92)=true:=by rw [bne_iff_ne];omega
  simp only [bp,Ps.av,aj] at ho h
  generalize take1 _ b=y at h ho
  obtain⟨⟨zs',utf',pv',fn',pars',it',tx',bad'⟩,y2⟩:=y
  simp only [fq,Ps.av] at h ho
  have H:=ab h
  clear h hb h1 hs
  exact γR2 hbg ho func63 ntmps63 results63 H.out
theorem Kd(p:Ps)(hp:fj p)(hbd:p.bad=true→2≤p.st)(hz:p.st=0)(b:Nat)(hb:b<256)(R:Rt)(h:R (.ret (fq (eP p b))) S):ao prog w0 31 [p.av,.int .u8 b] S R:=by
 have hbg:=kO w0
 have hh:=vB w0
 have hpr:=fun S'=>si w0 S' p b hb hp.utf hp.byt
 have hwb:ae.wrap (b:Int)=(b:Int):=ai _ ω
 have hgo:=fun (h1:32≤b) (h2:b<127) S'=>yZ w0 S' p hp (.inl ω) hbd b h1 h2
 obtain⟨zs,utf,pv,fn,pars,it,tx,bad⟩:=p
 simp only at hz
 subst hz
 clear hp hbd
 unfold eP at h
 rw [if_neg (by simp [gS])] at h
 unfold take1 at h
 simp only [Ps.av] at hpr hgo ⊢
 by_cases hu:utf≠[]∨128≤b
 ·rw [if_pos ⟨rfl,hu⟩] at h
  generalize f_ _ b=y at h hpr
  obtain⟨⟨zs',utf',pv',fn',pars',it',tx',bad'⟩,y2⟩:=y
  simp only [fq,Ps.av] at h hpr
  by_cases hn:utf=[]
  ·have d2:decide (128≤(b:Int))=true:=by simp only [decide_eq_true_eq];rcases hu with hu|hu;exact absurd hn hu;omega
   have d1:decide ((0:Int)<(utf.length:Int))=false:=by rw [hn];rfl
   have H:=ab h
   clear h hu hn hgo hwb hb
   refine eN func31 rfl ntmps31 fun hO=>?_
   refine ε1 hpr ?_
   all_goals
    refine fR results31 ?_
    exact H.out
  ·have d1:decide ((0:Int)<(utf.length:Int))=true:=by
    have:=pV.2 hn
    simp only [decide_eq_true_eq];omega
   have H:=ab h
   clear h hu hn hgo hwb hb
   refine eN func31 rfl ntmps31 fun hO=>?_
   refine ε1 hpr ?_
   all_goals
    refine fR results31 ?_
    exact H.out
 have hn:utf=[]:=j_ fun hc=>hu (.inl hc)
 have h8:¬ 128≤b:=fun hc=>hu (.inr hc)
 subst hn
 rw [if_neg (by simp [h8])] at h
 have d0:decide (128≤(b:Int))=false:=τ2
 clear hpr hu
 simp only [aj] at hgo ⊢
 by_cases h1:b=24∨b=26
 ·rw [if_pos h1] at h
  rcases h1 with rfl|rfl
  all_goals
   clear hgo hwb hb
   have H:=ab h
   clear h
   exact γR1 hbg func31 ntmps31 results31 H.out
 rw [if_neg h1] at h
 have d1:((b:Int)==24)=false:=ν
 have d2:((b:Int)==26)=false:=ν
 by_cases h2:b=27
 ·subst h2
  rw [if_pos rfl,if_neg (by simp [dR])] at h
  have H:=ab h
  clear h hb h1 hgo hwb
  refine eN func31 rfl ntmps31 fun hO=>?_
  refine ε11 hbg hh ?_
  all_goals
   refine fR results31 ?_
   exact H.out
 rw [if_neg h2,if_neg (by simp [dR]),if_neg h8] at h
 have d3:((b:Int)==27)=false:=ν
 by_cases h4:b<32
 ·rw [if_pos h4,if_pos χ] at h
  have d5:decide ((b:Int)<32)=true:=τ
  have H:=ab h
  clear h hb h1 h2 h4 h8 hgo
  refine eN func31 rfl ntmps31 fun hO=>?_
  refine ε11 hbg hh ?_
  all_goals
   refine fR results31 ?_
   exact H.out
 rw [if_neg h4] at h
 have d5:decide ((b:Int)<32)=false:=τ2
 by_cases h5:b=127
 ·rw [if_pos h5] at h
  have d6:((b:Int)==127)=true:=by rw [beq_iff_eq];omega
  have H:=ab h
  clear h hb h1 h2 h4 h5 h8 hgo
  refine eN func31 rfl ntmps31 fun hO=>?_
  refine ε11 hbg hh ?_
  all_goals
   refine fR results31 ?_
   exact H.out
 rw [if_neg h5] at h
 have d6:((b:Int)==127)=false:=ν
 have hgo:=hgo ω ω
 generalize dr _ b=y at h hgo
 obtain⟨⟨zs',utf',pv',fn',pars',it',tx',bad'⟩,y2⟩:=y
 simp only [fq,Ps.av] at h hgo
 have H:=ab h
 clear h hb h1 h2 h4 h5 h8 hwb
 refine eN func31 rfl ntmps31 fun hO=>?_
 refine ε21 hbg hgo hh ?_
 all_goals
  refine fR results31 ?_
  exact H.out
theorem DP(p:Ps)(hs:dR p.st=true)(htx:p.text.length≤512)(b:Nat)(R:Rt)(h:R (.ret (fq (eO p b))) S):ao prog w0 64 [p.av,.int .u8 b] S R:=by
 obtain⟨zs,utf,pv,fn,pars,it,tx,bad⟩:=p
 simp only [dR,ef,beq_iff_eq] at hs
 simp only at htx
 rcases hs with rfl|rfl|rfl
 ·exact BC w0 S utf pv fn pars it tx bad htx b R h
 ·exact yY w0 S utf pv fn pars it tx bad htx b R h
 ·exact yX w0 S utf pv fn pars it tx bad htx b R h
theorem Kb(p:Ps)(hp:fj p)(hbd:p.bad=true→2≤p.st)(hz:p.st≠0)(b:Nat)(hb:b<256)(R:Rt)(h:R (.ret (fq (eP p b))) S):ao prog w0 31 [p.av,.int .u8 b] S R:=by
 have hbg:=kO w0
 have hh:=vB w0
 have hpr:=fun S'=>si w0 S' (bp 0) b hb rfl (by simp [bp])
 have hwb:ae.wrap (b:Int)=(b:Int):=ai _ ω
 have hgo:=fun (h1:32≤b) (h2:b<127) (hq:p.st≤5∨8≤p.st∧p.st≤10) S'=>yZ w0 S' p hp hq hbd b h1 h2
 have hen:=fun (he:gS p.st=true) S'=>Kh w0 S' p he b hb
 have hwi:=fun (ht:dR p.st=true) S'=>DP w0 S' p ht hp.text b
 have hst:=hp.st
 obtain⟨zs,utf,pv,fn,pars,it,tx,bad⟩:=p
 simp only at hz hst
 clear hp hbd
 have z0:((zs:Int)==0)=false:=ν
 have hwz:ae.wrap ((zs:Int)+1)=((zs+1:Nat):Int):=by rw [ai _ ω];omega
 have q:∀ n:Nat,((zs:Int)==(n:Int))=(zs==n):=fun n=>by rw [eU,beq_iff_eq,beq_iff_eq];omega
 have cT:((zs:Int)==6||((zs:Int)==11||(zs:Int)==13))=dR zs:=by
  rw [show ((zs:Int)==6)=(zs==6) from q 6,show ((zs:Int)==11)=(zs==11) from q 11,show ((zs:Int)==13)=(zs==13) from q 13];rfl
 have cE:((zs:Int)==7||((zs:Int)==12||(zs:Int)==14))=gS zs:=by
  rw [show ((zs:Int)==7)=(zs==7) from q 7,show ((zs:Int)==12)=(zs==12) from q 12,show ((zs:Int)==14)=(zs==14) from q 14];rfl
 clear q
 unfold eP at h
 simp only [bp,Ps.av,aj] at hpr hgo hen hwi ⊢
 by_cases h1:b=24∨b=26
 ·rw [if_neg (by rintro⟨_,hc⟩;exact hc ω)] at h
  unfold take1 at h
  rw [if_neg (by rintro⟨hc,_⟩;exact hz hc),if_pos h1] at h
  clear hpr hgo hen hwi hwb hb hz cT cE hwz
  rcases h1 with rfl|rfl
  all_goals
   have H:=ab h
   clear h
   exact γR1 hbg func31 ntmps31 results31 H.out
 have d1:((b:Int)==24)=false:=ν
 have d2:((b:Int)==26)=false:=ν
 by_cases h2:b=27
 ·rw [if_neg (by rintro⟨_,hc⟩;exact hc ω)] at h
  unfold take1 at h
  rw [if_neg (by rintro⟨hc,_⟩;exact hz hc),if_neg h1,if_pos h2] at h
  subst h2
  cases hT:dR zs with
  | true =>
   rw [if_pos hT] at h
   rw [hT] at cT
   have H:=ab h
   clear h hpr hgo hen hwi hwb hb hz cE h1 hT
   refine eN func31 rfl ntmps31 fun hO=>?_
   refine ε11 hbg hh ?_
   all_goals
    refine fR results31 ?_
    exact H.out
  | false =>
   rw [if_neg (by rw [hT];simp)] at h
   rw [hT] at cT
   have H:=ab h
   clear h hpr hgo hen hwi hwb hb hz cE h1 hT
   refine eN func31 rfl ntmps31 fun hO=>?_
   refine ε11 hbg hh ?_
   all_goals
    refine fR results31 ?_
    exact H.out
 have d3:((b:Int)==27)=false:=ν
 cases hE:gS zs with
 | true =>
  rw [if_pos ⟨hE,ω⟩] at h
  rw [hE] at cE
  have hen:=hen hE
  generalize qr _ b=y at h hen
  obtain⟨⟨zs',utf',pv',fn',pars',it',tx',bad'⟩,y2⟩:=y
  simp only [fq,Ps.av] at h hen
  have H:=ab h
  clear h hpr hgo hwi hwb hb hz cT h1 h2 hE
  refine eN func31 rfl ntmps31 fun hO=>?_
  refine ε11 hen hh ?_
  all_goals
   refine fR results31 ?_
   exact H.out
 | false =>
  rw [if_neg (by rintro⟨hc,_⟩;rw [hE] at hc;cases hc)] at h
  rw [hE] at cE
  unfold take1 at h
  rw [if_neg (by rintro⟨hc,_⟩;exact hz hc),if_neg h1,if_neg h2] at h
  cases hT:dR zs with
  | true =>
   rw [if_pos hT] at h
   rw [hT] at cT
   have hwi:=hwi hT
   generalize eO _ b=y at h hwi
   obtain⟨⟨zs',utf',pv',fn',pars',it',tx',bad'⟩,y2⟩:=y
   simp only [fq,Ps.av] at h hwi
   have H:=ab h
   clear h hpr hgo hen hwb hb hz h1 h2 hE hT
   refine eN func31 rfl ntmps31 fun hO=>?_
   refine ε11 hwi hh ?_
   all_goals
    refine fR results31 ?_
    exact H.out
  | false =>
   rw [if_neg (by rw [hT];simp)] at h
   rw [hT] at cT
   by_cases h3:128≤b
   ·rw [if_pos h3] at h
    have d4:decide (128≤(b:Int))=true:=τ
    simp only [bp] at h
    generalize f_ _ b=y at h hpr
    obtain⟨⟨zs',utf',pv',fn',pars',it',tx',bad'⟩,y2⟩:=y
    simp only [fq,Ps.av] at h hpr
    have H:=ab h
    clear h hgo hen hwi hwb hb hz h1 h2 h3 hE hT
    refine eN func31 rfl ntmps31 fun hO=>?_
    refine ε21 hbg hpr hh ?_
    all_goals
     refine fR results31 ?_
     exact H.out
   rw [if_neg h3] at h
   have d4:decide (128≤(b:Int))=false:=τ2
   by_cases h4:b<32
   ·rw [if_pos h4] at h
    have d5:decide ((b:Int)<32)=true:=τ
    by_cases h6:zs≤5
    ·rw [if_pos h6] at h
     have d6:decide ((zs:Int)≤5)=true:=τ
     have H:=ab h
     clear h hpr hgo hen hwi hb hz h1 h2 h3 h4 h6 hE hT
     refine eN func31 rfl ntmps31 fun hO=>?_
     refine ε11 hbg hh ?_
     all_goals
      refine fR results31 ?_
      exact H.out
    ·rw [if_neg h6] at h
     have d6:decide ((zs:Int)≤5)=false:=τ2
     have H:=ab h
     clear h hpr hgo hen hwi hb hz h1 h2 h3 h4 h6 hE hT
     refine eN func31 rfl ntmps31 fun hO=>?_
     refine ε11 hbg hh ?_
     all_goals
      refine fR results31 ?_
      exact H.out
   rw [if_neg h4] at h
   have d5:decide ((b:Int)<32)=false:=τ2
   by_cases h5:b=127
   ·rw [if_pos h5] at h
    have d6:((b:Int)==127)=true:=by rw [beq_iff_eq];omega
    have H:=ab h
    clear h hpr hgo hen hwi hb hz h1 h2 h3 h4 h5 hE hT
    refine eN func31 rfl ntmps31 fun hO=>?_
    refine ε11 hbg hh ?_
    all_goals
     refine fR results31 ?_
     exact H.out
   rw [if_neg h5] at h
   have d6:((b:Int)==127)=false:=ν
   have hgo:=hgo ω ω (by
    simp only [gS,dR,cF,beq_eq_false_iff_ne] at hE hT
    omega)
   generalize dr _ b=y at h hgo
   obtain⟨⟨zs',utf',pv',fn',pars',it',tx',bad'⟩,y2⟩:=y
   simp only [fq,Ps.av] at h hgo
   have H:=ab h
   clear h hpr hen hwi hwb hb hz h1 h2 h3 h4 h5 hE hT
   refine eN func31 rfl ntmps31 fun hO=>?_
   refine ε21 hbg hgo hh ?_
   all_goals
    refine fR results31 ?_
    exact H.out
theorem Ma(p:Ps)(hp:fj p)(hbd:p.bad=true→2≤p.st)(b:Nat)(hb:b<256)(R:Rt)(h:R (.ret (fq (eP p b))) S):ao prog w0 31 [p.av,.int .u8 b] S R:=by
 by_cases hz:p.st=0
 ·exact Kd w0 S p hp hbd hz b hb R h
 ·exact Kb w0 S p hp hbd hz b hb R h
def gi(p:Ps):Prop:=p.bad=true→2≤p.st
theorem gi.beg(n:Nat):gi (bp n):=fun h=>by cases h
theorem gi.spo{n:Nat}(h:2≤n):gi (p7 n):=fun _=>h
theorem gi.clean{p:Ps}(h:p.bad=false):gi p:=fun hc=>by rw [h] at hc;cases hc
theorem gi.disp(p:Ps)(e:Ev):gi (gN p e).1:=gi.beg 0
theorem Ca(b:Nat):(m4 b).1.bad=false:=by
 unfold m4
 by_cases h1:b=24∨b=26
 ·rw [if_pos h1];rfl
 rw [if_neg h1]
 by_cases h2:b=27
 ·rw [if_pos h2];rfl
 rw [if_neg h2]
 by_cases h3:b<32
 ·rw [if_pos h3];rfl
 ·rw [if_neg h3];rfl
theorem zN(q:Ps × List Ev)(c:Nat)(h:q.1.bad=false):(en q c).1.bad=false:=by
 unfold en
 by_cases h1:c<32∨c=127
 ·rw [if_pos h1];exact Ca c
 rw [if_neg h1]
 by_cases h2:c<127∨159<c
 ·rw [if_pos h2];exact h
 ·rw [if_neg h2];exact h
theorem sM:∀ (l:List Nat) (q:Ps × List Ev),q.1.bad=false→(l.foldl en q).1.bad=false
 | [],_,h=>h
 | c::l,q,h=>sM l _ (zN q c h)
theorem gi.print(p:Ps)(b:Nat):gi (f_ p b).1:=gi.clean (sM _ _ rfl)
theorem gi.sign{p:Ps}(b:Nat)(h:2≤p.st):gi (i6 p b):=by
 unfold i6
 split
 ·exact gi.spo h
 ·exact fun _=>h
theorem gi.dig{p:Ps}(b:Nat)(h:2≤p.st):gi (rm p b):=by
 unfold rm
 split
 ·exact gi.spo h
 ·exact fun _=>h
theorem gi.last(p:Ps)(b:Nat):gi (ia p b).1:=by
 unfold ia
 by_cases h:p.st≤5
 ·rw [if_pos h];exact gi.disp _ _
 ·rw [if_neg h];exact fun _=>(by decide:2≤11)
theorem gi.goes{p:Ps}(b:Nat)(h:gi p):gi (dr p b).1:=by
 unfold dr
 split
 ·exact h
 ·unfold qp
  repeat' (first|exact gi.beg _|exact gi.disp _ _|exact gi.sign _ δ|split)
 ·next hz =>
  unfold kY
  repeat' (first|exact gi.disp _ _|exact gi.sign _ ω|split)
 ·next hz =>
  unfold g7
  repeat' (first|exact gi.last _ _|exact gi.sign _ (by simp only [bp];omega)|exact gi.dig _ (by simp only [bp];omega)|exact gi.clean rfl|split)
 ·next hz =>
  unfold g7
  repeat' (first|exact gi.last _ _|exact gi.sign _ (by simp only [bp];omega)|exact gi.dig _ (by simp only [bp];omega)|exact gi.clean rfl|split)
 ·next hz =>
  unfold fU
  repeat' (first|exact gi.last _ _|exact gi.sign _ (by simp only;omega)|exact gi.dig _ ω|exact gi.spo ω|split)
 ·next hz =>
  unfold fU
  repeat' (first|exact gi.last _ _|exact gi.sign _ (by simp only;omega)|exact gi.dig _ ω|exact gi.spo ω|split)
 ·next hz =>
  unfold fW
  repeat' (first|exact gi.last _ _|exact gi.sign _ ω|exact gi.spo ω|split)
 ·next hz =>
  unfold fW
  repeat' (first|exact gi.last _ _|exact gi.sign _ ω|exact gi.spo ω|split)
 ·exact h
theorem gi.within{p:Ps}(b:Nat)(h:gi p)(hs:2≤p.st):gi (eO p b).1:=by
 unfold eO
 by_cases h1:b=7∧p.st=6
 ·rw [if_pos h1];exact gi.disp _ _
 rw [if_neg h1]
 by_cases h2:b<32∨b=127∨p.st=13∨p.bad
 ·rw [if_pos h2];exact h
 rw [if_neg h2]
 by_cases h3:p.text.length=512
 ·rw [if_pos h3];exact gi.spo hs
 ·rw [if_neg h3];exact fun _=>hs
theorem sK{n:Nat}(h:dR n=true):2≤n:=by
 simp only [dR,ef,beq_iff_eq] at h;omega
theorem gi.take1{p:Ps}(b:Nat)(h:gi p):gi (take1 p b).1:=by
 unfold Go.Proofs.YthdbijpefkapnaaGreatDoor.take1
 by_cases h1:p.st=0∧(p.utf≠[]∨128≤b)
 ·rw [if_pos h1];exact gi.print _ _
 rw [if_neg h1]
 by_cases h2:b=24∨b=26
 ·rw [if_pos h2];exact gi.beg 0
 rw [if_neg h2]
 by_cases h3:b=27
 ·rw [if_pos h3]
  by_cases h4:dR p.st=true
  ·rw [if_pos h4]
   have:=sK h4
   exact fun _=>(by omega:2≤p.st+1)
  ·rw [if_neg h4];exact gi.beg 1
 rw [if_neg h3]
 by_cases h4:dR p.st=true
 ·rw [if_pos h4];exact gi.within b h (sK h4)
 rw [if_neg h4]
 by_cases h5:128≤b
 ·rw [if_pos h5];exact gi.print _ _
 rw [if_neg h5]
 by_cases h6:b<32
 ·rw [if_pos h6];exact h
 rw [if_neg h6]
 by_cases h7:b=127
 ·rw [if_pos h7];exact h
 rw [if_neg h7];exact gi.goes b h
theorem gi.take{p:Ps}(b:Nat)(h:gi p):gi (eP p b).1:=by
 unfold eP
 by_cases h1:gS p.st∧¬ (b=24∨b=26∨b=27)
 ·rw [if_pos h1]
  unfold qr
  by_cases h2:b≠92
  ·rw [if_pos h2];exact gi.take1 b (gi.beg 1)
  rw [if_neg h2]
  by_cases h3:p.st=7
  ·rw [if_pos h3];exact gi.disp _ _
  rw [if_neg h3]
  by_cases h4:p.st=12
  ·rw [if_pos h4];exact gi.disp _ _
  ·rw [if_neg h4];exact gi.beg 0
 ·rw [if_neg h1];exact gi.take1 b h
theorem gi.feed(s:List Nat)(p:Ps)(h:gi p):gi (dj p s).1:=by
 unfold dj
 have:∀ (s:List Nat) (q:Ps × List Ev),gi q.1→gi (s.foldl (fun q b=>((eP q.1 b).1,q.2++(eP q.1 b).2)) q).1:=by
  intro s
  induction s with
  | nil=>intro q h;exact h
  | cons b s ih=>intro q h;exact ih _ (gi.take b h)
 exact this s (p,[]) h
theorem DQ(R:Rt)(h:R (.ret (.bool true)) S):ao prog w0 59 [.str [],.int .i64 0,.int .i64 0] S R:=by
 refine eN func59 rfl ntmps59 fun hO=>?_
 repeat' first|refine st ?_|(refine br ?_ ?_<;>intro hb)|apply cS|apply gn|fail
 refine fR results59 ?_
 exact h
theorem Gu(R:Rt)(h:R (.ret (.bool true)) S):ao prog w0 60 [.str []] S R:=by
 refine eN func60 rfl ntmps60 fun hO=>?_
 repeat' first|refine st ?_|(refine br ?_ ?_<;>intro hb)|apply cS|apply gn|fail
 refine fR results60 ?_
 exact h
theorem Kf(n x y:Int)(a fz g:Nat)(hS:S[a]? = some (.arr 3 1 fz g [.int .i64 x,.int .i64 y]))(R:Rt)(h:R (.ret (.bool (n==x||n==y))) S) :
  ao prog w0 56 [.int .i64 n,.sown a g 2] S R:=by
 refine Jb w0 S n [x,y] a fz g χ hS R ?_
 rw [show [x,y].contains n=(n==x||n==y) by simp [List.contains,List.elem];cases n==x<;>cases n==y<;>rfl]
 exact h
theorem Ke(R:Rt)(h:R (.ret (.bool true)) S):ao prog w0 30 [(bp 0).av] S R:=by
 have hh:=Kf w0
 have hsg:=DQ w0
 have htx:=Gu w0
 have hrt:=fun S'=>yW w0 S' [] χ δ
 have hck:=fun S'=>o5 w0 S' []
 rw [show e9 []=true from rfl] at hrt
 rw [show mQ []=0 by decide] at hck
 simp only [aj] at hrt hck
 simp only [bp,Ps.av,aj]
 refine eN func30 rfl ntmps30 fun hO=>?_
 repeat' first|refine st ?_|(refine ca ?_;first|apply hsg|apply htx|apply hrt|apply hck|(apply hh;(· simp only [go_sem, *];try rfl)))|(refine br ?_ ?_<;>intro hb)|fail
 refine fR results30 ?_
 exact h
end Go.Proofs.YthdbijpefkapnaaGreatDoor
