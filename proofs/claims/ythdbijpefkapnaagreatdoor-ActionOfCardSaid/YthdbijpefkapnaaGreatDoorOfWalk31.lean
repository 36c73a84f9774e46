/- A part of the proof. -/
import Derived.Test.YthdbijpefkapnaaGreatDoorOfWalk30
set_option linter.all false
set_option maxHeartbeats 40000000
open List renaming drop_succ_cons → dw, drop_zero → cQ, getD_cons_succ → cj, getD_cons_zero → bI, length_cons → aB, length_nil → aI, map_cons → al, map_nil → aj
open Nat renaming reduceAdd → cW, zero_add → bG
namespace Go.Proofs.YthdbijpefkapnaaGreatDoor
open Go Go.Fen Go.Proofs.Tryz
attribute [local irreducible] aX WP ao dS i7 cJ aU cC
set_option maxRecDepth 8000
variable (w0:World) (S:List aH)
theorem DN(x0:Int)(R:Rt)(h:PR R S (iU (max 0 x0))):ao prog w0 280 [ct [x0]] S R:=by
 have hm:(if x0>0 then x0 else 0)=max 0 x0:=by split<;>omega
 have hsi:=fun S'=>DF w0 S' (max 0 x0) ω
 generalize max 0 x0=v at *
 simp only [ct,al,aj,ea]
 cases hs:iU v with
 | none =>
  rw [hs] at h hsi
  simp only [PR,sw] at h hsi
  clear hs
  refine γR1 hsi func280 ntmps280 results280 ?_
  exact h ⟨0,0,0,0,0,[]⟩
 | some a =>
  obtain⟨ak,an,am,ack,acn,tx⟩:=a
  rw [hs] at h hsi
  simp only [PR,sw,Ac.av] at h hsi
  clear hs
  exact γR1 hsi func280 ntmps280 results280 h
theorem DM(x0 x1:Int)(R:Rt)(h:PR R S (dD [x0,x1])):ao prog w0 280 [ct [x0,x1]] S R:=by
 have hm:(if x0>0 then x0 else 0)=max 0 x0:=by split<;>omega
 have hwh:=fun S'=>ii w0 S' (max 0 x0)
 have hco:=iq w0
 have hpn:=sg w0
 simp only [dt,Ac.av] at hpn
 simp only [dI,Ac.av] at hco
 unfold i_ at hwh
 unfold dD at h
 simp only [bI,cj,aB,aI,bG,cW,dw,cQ] at h
 generalize max 0 x0=v at *
 simp only [ct,al,aj,ea]
 by_cases c4:v=4
 ·subst c4
  rw [if_pos ⟨rfl,trivial⟩] at h
  replace hwh:∀ S' (R:Rt),R (.ret (.int .i64 (-1))) S'→ao prog w0 276 [.int .i64 4] S' R:=fun S' R h=>ii w0 S' 4 R h
  cases c0:decide ((0:Int)≤x1) with
  | false =>
   rw [if_neg (by simp only [decide_eq_false_iff_not] at c0;omega)] at h
   simp only [PR] at h
   clear hco
   refine ΓR2 hwh hpn func280 ntmps280 results280 ?_
   exact h ⟨0,0,0,0,0,[]⟩
  | true =>
   cases c5:decide (x1≤5) with
   | false =>
    rw [if_neg (by simp only [decide_eq_false_iff_not] at c5;omega)] at h
    simp only [PR] at h
    clear hco
    refine ΓR2 hwh hpn func280 ntmps280 results280 ?_
    exact h ⟨0,0,0,0,0,[]⟩
   | true =>
    rw [if_pos (by simp only [decide_eq_true_eq] at c0 c5;omega)] at h
    simp only [PR,dt,Ac.av] at h
    clear hco
    exact ΓR2 hwh hpn func280 ntmps280 results280 h
 rw [if_neg (fun e=>c4 e.1)] at h
 have d4:(v==4)=false:=by simpa using c4
 clear c4
 cases hw:bZ v with
 | none =>
  rw [hw] at h hwh
  simp only [PR] at h hwh
  clear hw hco hpn
  refine ΓR1 hwh func280 ntmps280 results280 ?_
  exact h ⟨0,0,0,0,0,[]⟩
 | some n =>
  have hn:decide ((0:Int)≤n)=true∧(v==4)=false:=by
   unfold bZ at hw
   constructor
   ·repeat' split at hw
    all_goals first|(cases hw;rfl)|cases hw
   ·simp only [beq_eq_false_iff_ne]
    rintro rfl
    simp at hw
  obtain⟨hn,d4'⟩:=hn
  rw [hw] at h hwh
  simp only at h hwh
  clear hw
  rw [if_neg χ,if_neg χ] at h
  simp only [PR] at h
  clear hco hpn
  refine ΓR1 hwh func280 ntmps280 results280 ?_
  exact h ⟨0,0,0,0,0,[]⟩
theorem DL(x0 x1 x2:Int)(R:Rt)(h:PR R S (dD [x0,x1,x2])):ao prog w0 280 [ct [x0,x1,x2]] S R:=by
 have hm:(if x0>0 then x0 else 0)=max 0 x0:=by split<;>omega
 have hwh:=fun S'=>ii w0 S' (max 0 x0)
 have hco:=iq w0
 have hpn:=sg w0
 simp only [dt,Ac.av] at hpn
 simp only [dI,Ac.av] at hco
 unfold i_ at hwh
 unfold dD at h
 simp only [bI,cj,aB,aI,bG,cW,dw,cQ] at h
 generalize max 0 x0=v at *
 simp only [ct,al,aj,ea]
 rw [if_neg χ] at h
 cases hw:bZ v with
 | none =>
  rw [hw] at h hwh
  simp only [PR] at h hwh
  clear hw hco hpn
  cases d4:(v==4)
  all_goals
   refine ΓR1 hwh func280 ntmps280 results280 ?_
   exact h ⟨0,0,0,0,0,[]⟩
 | some n =>
  have hn:decide ((0:Int)≤n)=true∧(v==4)=false:=by
   unfold bZ at hw
   constructor
   ·repeat' split at hw
    all_goals first|(cases hw;rfl)|cases hw
   ·simp only [beq_eq_false_iff_ne]
    rintro rfl
    simp at hw
  obtain⟨hn,d4'⟩:=hn
  rw [hw] at h hwh
  simp only at h hwh
  clear hw
  rw [if_neg χ,if_pos χ] at h
  cases d2:(x1==5) with
  | false =>
   have e2:x1≠5:=by simpa using d2
   have hs:dP n x1 [x2]=none:=by
    unfold dP
    split
    ·rfl
    ·rw [if_neg (fun e=>e2 e.1),if_neg χ]
   rw [hs] at h
   simp only [PR] at h
   clear hs e2 hco hpn
   refine ΓR1 hwh func280 ntmps280 results280 ?_
   exact h ⟨0,0,0,0,0,[]⟩
  | true =>
   have e2:x1=5:=by simpa using d2
   subst e2
   have hwi:=fun S'=>mM w0 S' [x2] χ
   simp only [al,aj,ea] at hwi
   unfold dP at h
   cases hb:nN [x2] with
   | false =>
    rw [hb] at h hwi
    simp only [if_true,PR] at h
    clear hb hco hpn
    refine eN func280 rfl ntmps280 fun hO=>?_
    repeat' first|refine st ?_|(refine ca ?_;first|apply hwh|apply hwi)|(apply df [S.length+2];(· simp only [go_sem, *];try rfl);(· rfl);(· simp only [go_sem, *];try rfl);(· rfl);(iterate 2 (· simp only [go_sem, *];try rfl));first|apply hwh|apply hwi)|(refine br ?_ ?_<;>intro hb)|refine sd ?_|apply aw|(apply aF;(· decide +kernel))|refine bd ?_ ?_|(refine cd ?_;first|apply hwh|apply hwi)|(apply je [S.length+2];(iterate 2 (· simp only [go_sem, *];try rfl));(· rfl);(· simp only [go_sem, *];try rfl);(· rfl);(iterate 2 (· simp only [go_sem, *];try rfl));first|apply hwh|apply hwi)|fail
    refine fR results280 ?_
    exact h ⟨0,0,0,0,0,[]⟩
   | true =>
    rw [hb] at h hwi
    rw [if_neg χ,if_pos χ] at h
    simp only [bI,PR,dI,Ac.av] at h
    clear hb hpn
    refine eN func280 rfl ntmps280 fun hO=>?_
    repeat' first|refine st ?_|(refine ca ?_;first|apply hwh|apply hwi|apply hco)|(apply df [S.length+2];(· simp only [go_sem, *];try rfl);(· rfl);(· simp only [go_sem, *];try rfl);(· rfl);(iterate 2 (· simp only [go_sem, *];try rfl));first|apply hwh|apply hwi|apply hco)|(refine br ?_ ?_<;>intro hb)|refine sd ?_|apply aw|(apply aF;(· decide +kernel))|refine bd ?_ ?_|(refine cd ?_;first|apply hwh|apply hwi|apply hco)|(apply je [S.length+2];(iterate 2 (· simp only [go_sem, *];try rfl));(· rfl);(· simp only [go_sem, *];try rfl);(· rfl);(iterate 2 (· simp only [go_sem, *];try rfl));first|apply hwh|apply hwi|apply hco)|fail
    refine fR results280 ?_
    exact h
end Go.Proofs.YthdbijpefkapnaaGreatDoor
