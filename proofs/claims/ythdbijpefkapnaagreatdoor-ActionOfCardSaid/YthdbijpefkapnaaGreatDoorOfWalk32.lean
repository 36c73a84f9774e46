/- A part of the proof. -/
import Derived.Test.YthdbijpefkapnaaGreatDoorOfWalk25
set_option linter.all false
set_option maxHeartbeats 40000000
open List renaming drop_succ_cons → dw, drop_zero → cQ, getD_cons_succ → cj, getD_cons_zero → bI, length_cons → aB, length_nil → aI, map_cons → al, map_nil → aj
open Nat renaming reduceAdd → cW, zero_add → bG
namespace Go.Proofs.YthdbijpefkapnaaGreatDoor
open Go Go.Fen Go.Proofs.Tryz
attribute [local irreducible] aX WP ao dS i7 cJ aU cC
set_option maxRecDepth 8000
variable (w0:World) (S:List aH)
theorem DK(x0 x1 x2 x3:Int)(R:Rt)(h:PR R S (dD [x0,x1,x2,x3])):ao prog w0 280 [ct [x0,x1,x2,x3]] S R:=by
 have hm:(if x0>0 then x0 else 0)=max 0 x0:=by split<;>omega
 have hwh:=fun S'=>ii w0 S' (max 0 x0)
 have hco:=iq w0
 have hpn:=sg w0
 simp only [dt,Ac.av] at hpn
 simp only [dI,Ac.av] at hco
 unfold i_ at hwh
 unfold dD at h
 simp only [bI,cj,aB,aI,bG,cW,dw,cQ] at h
 generalize max 0 x0=v at *
 simp only [ct,al,aj,ea]
 rw [if_neg χ] at h
 cases hw:bZ v with
 | none =>
  rw [hw] at h hwh
  simp only [PR] at h hwh
  clear hw hco hpn
  cases d4:(v==4)
  all_goals
   refine ΓR1 hwh func280 ntmps280 results280 ?_
   exact h ⟨0,0,0,0,0,[]⟩
 | some n =>
  have hn:decide ((0:Int)≤n)=true∧(v==4)=false:=by
   unfold bZ at hw
   constructor
   ·repeat' split at hw
    all_goals first|(cases hw;rfl)|cases hw
   ·simp only [beq_eq_false_iff_ne]
    rintro rfl
    simp at hw
  obtain⟨hn,d4'⟩:=hn
  rw [hw] at h hwh
  simp only at h hwh
  clear hw
  rw [if_neg χ,if_pos χ] at h
  have hs:dP n x1 [x2,x3]=none:=by
   unfold dP
   split
   ·rfl
   ·rw [if_neg χ,if_neg χ]
  rw [hs] at h
  simp only [PR] at h
  clear hs hco hpn
  refine ΓR1 hwh func280 ntmps280 results280 ?_
  exact h ⟨0,0,0,0,0,[]⟩
theorem DJ(x0 x1 x2 x3 x4:Int)(R:Rt)(h:PR R S (dD [x0,x1,x2,x3,x4])):ao prog w0 280 [ct [x0,x1,x2,x3,x4]] S R:=by
 have hm:(if x0>0 then x0 else 0)=max 0 x0:=by split<;>omega
 have hwh:=fun S'=>ii w0 S' (max 0 x0)
 have hco:=iq w0
 have hpn:=sg w0
 simp only [dt,Ac.av] at hpn
 simp only [dI,Ac.av] at hco
 unfold i_ at hwh
 unfold dD at h
 simp only [bI,cj,aB,aI,bG,cW,dw,cQ] at h
 generalize max 0 x0=v at *
 simp only [ct,al,aj,ea]
 rw [if_neg χ] at h
 cases hw:bZ v with
 | none =>
  rw [hw] at h hwh
  simp only [PR] at h hwh
  clear hw hco hpn
  cases d4:(v==4)
  all_goals
   refine ΓR1 hwh func280 ntmps280 results280 ?_
   exact h ⟨0,0,0,0,0,[]⟩
 | some n =>
  have hn:decide ((0:Int)≤n)=true∧(v==4)=false:=by
   unfold bZ at hw
   constructor
   ·repeat' split at hw
    all_goals first|(cases hw;rfl)|cases hw
   ·simp only [beq_eq_false_iff_ne]
    rintro rfl
    simp at hw
  obtain⟨hn,d4'⟩:=hn
  rw [hw] at h hwh
  simp only at h hwh
  clear hw
  rw [if_neg χ,if_pos χ] at h
  cases d2:(x1==2) with
  | false =>
   have e2:x1≠2:=by simpa using d2
   have hs:dP n x1 [x2,x3,x4]=none:=by
    unfold dP
    split
    ·rfl
    ·rw [if_neg χ,if_neg (fun e=>e2 e.1)]
   rw [hs] at h
   simp only [PR] at h
   clear hs e2 hco hpn
   refine ΓR1 hwh func280 ntmps280 results280 ?_
   exact h ⟨0,0,0,0,0,[]⟩
  | true =>
   have e2:x1=2:=by simpa using d2
   subst e2
   have hwi:=fun S'=>mM w0 S' [x2,x3,x4] χ
   simp only [al,aj,ea] at hwi
   unfold dP at h
   cases hb:nN [x2,x3,x4] with
   | false =>
    rw [hb] at h hwi
    simp only [if_true,PR] at h
    clear hb hco hpn
    refine eN func280 rfl ntmps280 fun hO=>?_
    repeat' first|refine st ?_|(refine ca ?_;first|apply hwh|apply hwi)|(apply df [S.length+2];(· simp only [go_sem, *];try rfl);(· rfl);(· simp only [go_sem, *];try rfl);(· rfl);(iterate 2 (· simp only [go_sem, *];try rfl));first|apply hwh|apply hwi)|(refine br ?_ ?_<;>intro hb)|refine sd ?_|apply aw|(apply aF;(· decide +kernel))|refine bd ?_ ?_|(refine cd ?_;first|apply hwh|apply hwi)|(apply je [S.length+2];(iterate 2 (· simp only [go_sem, *];try rfl));(· rfl);(· simp only [go_sem, *];try rfl);(· rfl);(iterate 2 (· simp only [go_sem, *];try rfl));first|apply hwh|apply hwi)|fail
    refine fR results280 ?_
    exact h ⟨0,0,0,0,0,[]⟩
   | true =>
    have hrg:=fun S' n=>DG w0 S' n x2 x3 x4 hb
    rw [hb] at h hwi
    rw [if_neg χ,if_neg χ,if_pos χ] at h
    simp only [bI,cj,PR,dI,Ac.av] at h hrg
    clear hb hco hpn
    refine eN func280 rfl ntmps280 fun hO=>?_
    repeat' first|refine st ?_|(refine ca ?_;first|apply hwh|apply hwi|apply hrg)|(apply df [S.length+2];(· simp only [go_sem, *];try rfl);(· rfl);(· simp only [go_sem, *];try rfl);(· rfl);(iterate 2 (· simp only [go_sem, *];try rfl));first|apply hwh|apply hwi|apply hrg)|(refine br ?_ ?_<;>intro hb)|refine sd ?_|apply aw|(apply aF;(· decide +kernel))|refine bd ?_ ?_|(refine cd ?_;first|apply hwh|apply hwi|apply hrg)|(apply je [S.length+2];(iterate 2 (· simp only [go_sem, *];try rfl));(· rfl);(· simp only [go_sem, *];try rfl);(· rfl);(iterate 2 (· simp only [go_sem, *];try rfl));first|apply hwh|apply hwi|apply hrg)|fail
    refine fR results280 ?_
    exact h
theorem DI(x0 x1 x2 x3 x4 x5:Int)(R:Rt)(h:PR R S (dD [x0,x1,x2,x3,x4,x5])):ao prog w0 280 [ct [x0,x1,x2,x3,x4,x5]] S R:=by
 have hm:(if x0>0 then x0 else 0)=max 0 x0:=by split<;>omega
 have hwh:=fun S'=>ii w0 S' (max 0 x0)
 have hco:=iq w0
 have hpn:=sg w0
 simp only [dt,Ac.av] at hpn
 simp only [dI,Ac.av] at hco
 unfold i_ at hwh
 unfold dD at h
 simp only [bI,cj,aB,aI,bG,cW,dw,cQ] at h
 generalize max 0 x0=v at *
 simp only [ct,al,aj,ea]
 rw [if_neg χ] at h
 cases hw:bZ v with
 | none =>
  rw [hw] at h hwh
  simp only [PR] at h hwh
  clear hw hco hpn
  cases d4:(v==4)
  all_goals
   refine ΓR1 hwh func280 ntmps280 results280 ?_
   exact h ⟨0,0,0,0,0,[]⟩
 | some n =>
  have hn:decide ((0:Int)≤n)=true∧(v==4)=false:=by
   unfold bZ at hw
   constructor
   ·repeat' split at hw
    all_goals first|(cases hw;rfl)|cases hw
   ·simp only [beq_eq_false_iff_ne]
    rintro rfl
    simp at hw
  obtain⟨hn,d4'⟩:=hn
  rw [hw] at h hwh
  simp only at h hwh
  clear hw
  cases d2:(x1==2) with
  | false =>
   have e2:x1≠2:=by simpa using d2
   rw [if_neg (fun e=>e2 e.2),if_pos χ] at h
   have hs:dP n x1 [x2,x3,x4,x5]=none:=by
    unfold dP
    split
    ·rfl
    ·rw [if_neg χ,if_neg χ]
   rw [hs] at h
   simp only [PR] at h
   clear hs e2 hco hpn
   refine ΓR1 hwh func280 ntmps280 results280 ?_
   exact h ⟨0,0,0,0,0,[]⟩
  | true =>
   have e2:x1=2:=by simpa using d2
   rw [if_pos ⟨trivial,e2⟩] at h
   subst e2
   have hwi:=fun S'=>mM w0 S' [x3,x4,x5] χ
   simp only [al,aj,ea] at hwi
   unfold dP at h
   cases hb:nN [x3,x4,x5] with
   | false =>
    rw [hb] at h hwi
    simp only [if_true,PR] at h
    clear hb hco hpn
    refine eN func280 rfl ntmps280 fun hO=>?_
    repeat' first|refine st ?_|(refine ca ?_;first|apply hwh|apply hwi)|(apply df [S.length+2];(· simp only [go_sem, *];try rfl);(· rfl);(· simp only [go_sem, *];try rfl);(· rfl);(iterate 2 (· simp only [go_sem, *];try rfl));first|apply hwh|apply hwi)|(refine br ?_ ?_<;>intro hb)|refine sd ?_|apply aw|(apply aF;(· decide +kernel))|refine bd ?_ ?_|(refine cd ?_;first|apply hwh|apply hwi)|(apply je [S.length+2];(iterate 2 (· simp only [go_sem, *];try rfl));(· rfl);(· simp only [go_sem, *];try rfl);(· rfl);(iterate 2 (· simp only [go_sem, *];try rfl));first|apply hwh|apply hwi)|fail
    refine fR results280 ?_
    exact h ⟨0,0,0,0,0,[]⟩
   | true =>
    have hrg:=fun S' n=>DG w0 S' n x3 x4 x5 hb
    rw [hb] at h hwi
    rw [if_neg χ,if_neg χ,if_pos χ] at h
    simp only [bI,cj,PR,dI,Ac.av] at h hrg
    clear hb hco hpn
    refine eN func280 rfl ntmps280 fun hO=>?_
    repeat' first|refine st ?_|(refine ca ?_;first|apply hwh|apply hwi|apply hrg)|(apply df [S.length+2];(· simp only [go_sem, *];try rfl);(· rfl);(· simp only [go_sem, *];try rfl);(· rfl);(iterate 2 (· simp only [go_sem, *];try rfl));first|apply hwh|apply hwi|apply hrg)|(refine br ?_ ?_<;>intro hb)|refine sd ?_|apply aw|(apply aF;(· decide +kernel))|refine bd ?_ ?_|(refine cd ?_;first|apply hwh|apply hwi|apply hrg)|(apply je [S.length+2];(iterate 2 (· simp only [go_sem, *];try rfl));(· rfl);(· simp only [go_sem, *];try rfl);(· rfl);(iterate 2 (· simp only [go_sem, *];try rfl));first|apply hwh|apply hwi|apply hrg)|fail
    refine fR results280 ?_
    exact h
end Go.Proofs.YthdbijpefkapnaaGreatDoor
