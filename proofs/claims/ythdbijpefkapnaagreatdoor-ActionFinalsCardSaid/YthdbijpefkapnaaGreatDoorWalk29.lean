/- A part of the proof. -/
import Derived.Test.YthdbijpefkapnaaGreatDoorWalk28
set_option linter.all false
set_option maxHeartbeats 40000000
open List renaming drop_succ_cons → dh, drop_zero → cJ, getD_cons_succ → b7, getD_cons_zero → bE, length_cons → aB, length_nil → aL, map_cons → ap, map_nil → aq
open Nat renaming reduceAdd → cM, zero_add → bC
namespace Go.Proofs.YthdbijpefkapnaaGreatDoor
open Go Go.Fen Go.Proofs.Tryz
attribute [local irreducible] aW WP aj dS jl cQ aV cV
set_option maxRecDepth 8000
variable (w0:World) (S:List aH)
theorem CQ(x0 x1 x2 x3:Int)(R:Rt)(h:PR R S (dy [x0,x1,x2,x3])):aj prog w0 280 [cB [x0,x1,x2,x3]] S R:=by
 have hm:(if x0>0 then x0 else 0)=max 0 x0:=by split<;>omega
 have hwh:=fun S'=>gZ w0 S' (max 0 x0)
 have hco:=g_ w0
 have hpn:=rn w0
 simp only [df,Ac.av] at hpn
 simp only [dC,Ac.av] at hco
 unfold iB at hwh
 unfold dy at h
 simp only [bE,b7,aB,aL,bC,cM,dh,cJ] at h
 generalize max 0 x0=v at *
 simp only [cB,ap,aq,eE]
 rw [if_neg (by simp)] at h
 cases hw:bR v with
 | none =>
  rw [hw] at h hwh
  simp only [PR] at h hwh
  clear hw hco hpn
  cases d4:(v==4)
  all_goals
   refine eN func280 rfl ntmps280 fun hO=>?_
   repeat' first|refine st ?_|(refine ca ?_;apply hwh)|(refine br ?_ ?_<;>intro hb)|refine sd ?_|apply au|(apply aF;(· decide +kernel))|refine bd ?_ ?_|(refine cd ?_;apply hwh)|fail
   refine fR results280 ?_
   exact h ⟨0,0,0,0,0,[]⟩
 | some n =>
  have hn:decide ((0:Int)≤n)=true∧(v==4)=false:=by
   unfold bR at hw
   constructor
   ·repeat' split at hw
    all_goals first|(cases hw;rfl)|cases hw
   ·simp only [beq_eq_false_iff_ne]
    rintro rfl
    simp at hw
  obtain⟨hn,d4'⟩:=hn
  rw [hw] at h hwh
  simp only at h hwh
  clear hw
  rw [if_neg (by simp),if_pos (by simp)] at h
  have hs:dG n x1 [x2,x3]=none:=by
   unfold dG
   split
   ·rfl
   ·rw [if_neg (by simp),if_neg (by simp)]
  rw [hs] at h
  simp only [PR] at h
  clear hs hco hpn
  refine eN func280 rfl ntmps280 fun hO=>?_
  repeat' first|refine st ?_|(refine ca ?_;apply hwh)|(refine br ?_ ?_<;>intro hb)|refine sd ?_|apply au|(apply aF;(· decide +kernel))|refine bd ?_ ?_|(refine cd ?_;apply hwh)|fail
  refine fR results280 ?_
  exact h ⟨0,0,0,0,0,[]⟩
theorem CP(x0 x1 x2 x3 x4:Int)(R:Rt)(h:PR R S (dy [x0,x1,x2,x3,x4])):aj prog w0 280 [cB [x0,x1,x2,x3,x4]] S R:=by
 have hm:(if x0>0 then x0 else 0)=max 0 x0:=by split<;>omega
 have hwh:=fun S'=>gZ w0 S' (max 0 x0)
 have hco:=g_ w0
 have hpn:=rn w0
 simp only [df,Ac.av] at hpn
 simp only [dC,Ac.av] at hco
 unfold iB at hwh
 unfold dy at h
 simp only [bE,b7,aB,aL,bC,cM,dh,cJ] at h
 generalize max 0 x0=v at *
 simp only [cB,ap,aq,eE]
 rw [if_neg (by simp)] at h
 cases hw:bR v with
 | none =>
  rw [hw] at h hwh
  simp only [PR] at h hwh
  clear hw hco hpn
  cases d4:(v==4)
  all_goals
   refine eN func280 rfl ntmps280 fun hO=>?_
   repeat' first|refine st ?_|(refine ca ?_;apply hwh)|(refine br ?_ ?_<;>intro hb)|refine sd ?_|apply au|(apply aF;(· decide +kernel))|refine bd ?_ ?_|(refine cd ?_;apply hwh)|fail
   refine fR results280 ?_
   exact h ⟨0,0,0,0,0,[]⟩
 | some n =>
  have hn:decide ((0:Int)≤n)=true∧(v==4)=false:=by
   unfold bR at hw
   constructor
   ·repeat' split at hw
    all_goals first|(cases hw;rfl)|cases hw
   ·simp only [beq_eq_false_iff_ne]
    rintro rfl
    simp at hw
  obtain⟨hn,d4'⟩:=hn
  rw [hw] at h hwh
  simp only at h hwh
  clear hw
  rw [if_neg (by simp),if_pos (by simp)] at h
  cases d2:(x1==2) with
  | false =>
   have e2:x1≠2:=by simpa using d2
   have hs:dG n x1 [x2,x3,x4]=none:=by
    unfold dG
    split
    ·rfl
    ·rw [if_neg (by simp),if_neg (fun e=>e2 e.1)]
   rw [hs] at h
   simp only [PR] at h
   clear hs e2 hco hpn
   refine eN func280 rfl ntmps280 fun hO=>?_
   repeat' first|refine st ?_|(refine ca ?_;apply hwh)|(refine br ?_ ?_<;>intro hb)|refine sd ?_|apply au|(apply aF;(· decide +kernel))|refine bd ?_ ?_|(refine cd ?_;apply hwh)|fail
   refine fR results280 ?_
   exact h ⟨0,0,0,0,0,[]⟩
  | true =>
   have e2:x1=2:=by simpa using d2
   subst e2
   have hwi:=fun S'=>mi w0 S' [x2,x3,x4] (by simp)
   simp only [ap,aq,eE] at hwi
   unfold dG at h
   cases hb:m5 [x2,x3,x4] with
   | false =>
    rw [hb] at h hwi
    simp only [if_true,PR] at h
    clear hb hco hpn
    refine eN func280 rfl ntmps280 fun hO=>?_
    repeat' first|refine st ?_|(refine ca ?_;first|apply hwh|apply hwi)|(apply cZ [S.length+2];(· simp only [go_sem, *];try rfl);(· rfl);(· simp only [go_sem, *];try rfl);(· rfl);(iterate 2 (· simp only [go_sem, *];try rfl));first|apply hwh|apply hwi)|(refine br ?_ ?_<;>intro hb)|refine sd ?_|apply au|(apply aF;(· decide +kernel))|refine bd ?_ ?_|(refine cd ?_;first|apply hwh|apply hwi)|(apply iI [S.length+2];(iterate 2 (· simp only [go_sem, *];try rfl));(· rfl);(· simp only [go_sem, *];try rfl);(· rfl);(iterate 2 (· simp only [go_sem, *];try rfl));first|apply hwh|apply hwi)|fail
    refine fR results280 ?_
    exact h ⟨0,0,0,0,0,[]⟩
   | true =>
    have hrg:=fun S' n=>CM w0 S' n x2 x3 x4 hb
    rw [hb] at h hwi
    rw [if_neg (by simp),if_neg (by simp),if_pos (by simp)] at h
    simp only [bE,b7,PR,dC,Ac.av] at h hrg
    clear hb hco hpn
    refine eN func280 rfl ntmps280 fun hO=>?_
    repeat' first|refine st ?_|(refine ca ?_;first|apply hwh|apply hwi|apply hrg)|(apply cZ [S.length+2];(· simp only [go_sem, *];try rfl);(· rfl);(· simp only [go_sem, *];try rfl);(· rfl);(iterate 2 (· simp only [go_sem, *];try rfl));first|apply hwh|apply hwi|apply hrg)|(refine br ?_ ?_<;>intro hb)|refine sd ?_|apply au|(apply aF;(· decide +kernel))|refine bd ?_ ?_|(refine cd ?_;first|apply hwh|apply hwi|apply hrg)|(apply iI [S.length+2];(iterate 2 (· simp only [go_sem, *];try rfl));(· rfl);(· simp only [go_sem, *];try rfl);(· rfl);(iterate 2 (· simp only [go_sem, *];try rfl));first|apply hwh|apply hwi|apply hrg)|fail
    refine fR results280 ?_
    exact h
theorem CO(x0 x1 x2 x3 x4 x5:Int)(R:Rt)(h:PR R S (dy [x0,x1,x2,x3,x4,x5])):aj prog w0 280 [cB [x0,x1,x2,x3,x4,x5]] S R:=by
 have hm:(if x0>0 then x0 else 0)=max 0 x0:=by split<;>omega
 have hwh:=fun S'=>gZ w0 S' (max 0 x0)
 have hco:=g_ w0
 have hpn:=rn w0
 simp only [df,Ac.av] at hpn
 simp only [dC,Ac.av] at hco
 unfold iB at hwh
 unfold dy at h
 simp only [bE,b7,aB,aL,bC,cM,dh,cJ] at h
 generalize max 0 x0=v at *
 simp only [cB,ap,aq,eE]
 rw [if_neg (by simp)] at h
 cases hw:bR v with
 | none =>
  rw [hw] at h hwh
  simp only [PR] at h hwh
  clear hw hco hpn
  cases d4:(v==4)
  all_goals
   refine eN func280 rfl ntmps280 fun hO=>?_
   repeat' first|refine st ?_|(refine ca ?_;apply hwh)|(refine br ?_ ?_<;>intro hb)|refine sd ?_|apply au|(apply aF;(· decide +kernel))|refine bd ?_ ?_|(refine cd ?_;apply hwh)|fail
   refine fR results280 ?_
   exact h ⟨0,0,0,0,0,[]⟩
 | some n =>
  have hn:decide ((0:Int)≤n)=true∧(v==4)=false:=by
   unfold bR at hw
   constructor
   ·repeat' split at hw
    all_goals first|(cases hw;rfl)|cases hw
   ·simp only [beq_eq_false_iff_ne]
    rintro rfl
    simp at hw
  obtain⟨hn,d4'⟩:=hn
  rw [hw] at h hwh
  simp only at h hwh
  clear hw
  cases d2:(x1==2) with
  | false =>
   have e2:x1≠2:=by simpa using d2
   rw [if_neg (fun e=>e2 e.2),if_pos (by simp)] at h
   have hs:dG n x1 [x2,x3,x4,x5]=none:=by
    unfold dG
    split
    ·rfl
    ·rw [if_neg (by simp),if_neg (by simp)]
   rw [hs] at h
   simp only [PR] at h
   clear hs e2 hco hpn
   refine eN func280 rfl ntmps280 fun hO=>?_
   repeat' first|refine st ?_|(refine ca ?_;apply hwh)|(refine br ?_ ?_<;>intro hb)|refine sd ?_|apply au|(apply aF;(· decide +kernel))|refine bd ?_ ?_|(refine cd ?_;apply hwh)|fail
   refine fR results280 ?_
   exact h ⟨0,0,0,0,0,[]⟩
  | true =>
   have e2:x1=2:=by simpa using d2
   rw [if_pos ⟨trivial,e2⟩] at h
   subst e2
   have hwi:=fun S'=>mi w0 S' [x3,x4,x5] (by simp)
   simp only [ap,aq,eE] at hwi
   unfold dG at h
   cases hb:m5 [x3,x4,x5] with
   | false =>
    rw [hb] at h hwi
    simp only [if_true,PR] at h
    clear hb hco hpn
    refine eN func280 rfl ntmps280 fun hO=>?_
    repeat' first|refine st ?_|(refine ca ?_;first|apply hwh|apply hwi)|(apply cZ [S.length+2];(· simp only [go_sem, *];try rfl);(· rfl);(· simp only [go_sem, *];try rfl);(· rfl);(iterate 2 (· simp only [go_sem, *];try rfl));first|apply hwh|apply hwi)|(refine br ?_ ?_<;>intro hb)|refine sd ?_|apply au|(apply aF;(· decide +kernel))|refine bd ?_ ?_|(refine cd ?_;first|apply hwh|apply hwi)|(apply iI [S.length+2];(iterate 2 (· simp only [go_sem, *];try rfl));(· rfl);(· simp only [go_sem, *];try rfl);(· rfl);(iterate 2 (· simp only [go_sem, *];try rfl));first|apply hwh|apply hwi)|fail
    refine fR results280 ?_
    exact h ⟨0,0,0,0,0,[]⟩
   | true =>
    have hrg:=fun S' n=>CM w0 S' n x3 x4 x5 hb
    rw [hb] at h hwi
    rw [if_neg (by simp),if_neg (by simp),if_pos (by simp)] at h
    simp only [bE,b7,PR,dC,Ac.av] at h hrg
    clear hb hco hpn
    refine eN func280 rfl ntmps280 fun hO=>?_
    repeat' first|refine st ?_|(refine ca ?_;first|apply hwh|apply hwi|apply hrg)|(apply cZ [S.length+2];(· simp only [go_sem, *];try rfl);(· rfl);(· simp only [go_sem, *];try rfl);(· rfl);(iterate 2 (· simp only [go_sem, *];try rfl));first|apply hwh|apply hwi|apply hrg)|(refine br ?_ ?_<;>intro hb)|refine sd ?_|apply au|(apply aF;(· decide +kernel))|refine bd ?_ ?_|(refine cd ?_;first|apply hwh|apply hwi|apply hrg)|(apply iI [S.length+2];(iterate 2 (· simp only [go_sem, *];try rfl));(· rfl);(· simp only [go_sem, *];try rfl);(· rfl);(iterate 2 (· simp only [go_sem, *];try rfl));first|apply hwh|apply hwi|apply hrg)|fail
    refine fR results280 ?_
    exact h
end Go.Proofs.YthdbijpefkapnaaGreatDoor
