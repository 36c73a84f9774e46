/- A part of the proof. -/
import Derived.Test.YthdbijpefkapnaaGreatDoorOfWalk25
set_option linter.all false
set_option maxHeartbeats 40000000
open Go.IntKind renaming i64 → ae
open Go.IntWalk renaming i64_in → ai
open Go.Lib renaming hid → ab
open List renaming getElem?_eq_getElem → ap, mem_of_getElem? → ax, take_of_length_le → dJ
open Nat renaming zero_le → bf
namespace Go.Proofs.YthdbijpefkapnaaGreatDoor
open Go Go.Fen Go.Proofs.Tryz
attribute [local irreducible] aX WP ao dS i7 cJ aU cC
set_option maxRecDepth 8000
variable (w0:World) (S:List aH)
theorem DF(v:Int)(hv:0≤v)(R:Rt)(h:R (.ret (.tup (sw (iU v)))) S):ao prog w0 306 [.int .i64 v] S R:=by
 have hpn:=sg w0
 have hco:=iq w0
 have hat:=Gs w0
 simp only [dt,Ac.av] at hpn
 simp only [dI,Ac.av] at hco
 have H:=ab h
 have Hv:=ab hv
 have Hpn:=ab hpn
 have Hco:=ab hco
 clear h hv hpn hco
 refine eN func306 rfl ntmps306 fun hO=>?_
 refine ε1 hat ?_
 clear hat
 refine cD (fun (k:Nat) env S'=>k≤yq.length∧(∀ r∈yq.take k,EZ v r)∧env 1000000=.dfr []∧env 0=.int .i64 v∧env 2=.own S.length 0∧env 4=.sval false (yq.map Nm)∧env 5=.int .i64 (k:Int) ∧
  S'=S++[.cells [.int .i64 0,.int .i64 0,.int .i64 0,.int .i64 0,.int .i64 0,.str []] none]) (fun k=>yq.length - k) 0 ?_ ?_
 ·exact⟨bf _,χ,ss,ss,ss,ss,ss,ss⟩
 ·rintro k env S' ⟨hk,hn,e0,f0,f2,f4,f5,rfl⟩ IH
  have HI:=ab IH
  have HN:=ab hn
  clear IH hn
  by_cases hlt:k<yq.length
  ·obtain⟨r,hx⟩:∃ r,yq[k]? = some r:=⟨_,ap hlt⟩
   have Hm:=ab (ax hx)
   have h1:decide ((k:Int)<(yq.length:Int))=true:=by simpa using hlt
   have hw:ae.wrap ((k:Int)+1)=((k+1:Nat):Int):=by have:yq.length=8:=rfl;rw [ai _ ω];omega
   obtain⟨a,b,c⟩:=r
   have hav:Nm (a,b,c)=.agg [.int .i64 a,.int .i64 b,.int .i64 c]:=rfl
   have Hlt:=ab hlt
   have HX:=ab hx
   clear hlt hk
   cases c1:(v==a) with
   | true =>
    have hva:v=a:=by simpa using c1
    have hh:=H.out
    rw [hva,Lw _ Hm.out] at hh
    simp only [sw,dt,Ac.av] at hh
    have hpn:=Hpn.out
    clear hva
    refine ε1 hpn ?_
    refine fR results306 ?_
    exact hh
   | false =>
    have n1:v≠a:=by simpa using c1
    cases c2:(v==c) with
    | false =>
     have n2:v≠c:=by simpa using c2
     have HN2:=ab (Ah HX.out HN.out (p:=EZ v) ⟨n1,fun e=>absurd e n2⟩)
     clear n1 n2
     refine ε0 ?_
     refine HI.out (k+1) _ _ (by have:=Hlt.out;omega) ⟨Hlt.out,HN2.out, ?_, ?_, ?_, ?_, ?_,rfl⟩
     all_goals (simp only [go_sem, *];try rfl)
    | true =>
     have n2:v=c:=by simpa using c2
     cases c3:(v != 22) with
     | true =>
      have hh:=H.out
      rw [n2] at c3
      rw [n2,EY _ Hm.out c3] at hh
      rw [← n2] at c3
      simp only [sw,dt,Ac.av] at hh
      have hpn:=Hpn.out
      clear n1 n2
      refine ε1 hpn ?_
      refine fR results306 ?_
      exact hh
     | false =>
      have n3:v=22:=by simpa using c3
      have HN2:=ab (Ah HX.out HN.out (p:=EZ v) ⟨n1,fun _=>n3⟩)
      clear n1 n2 n3
      refine ε0 ?_
      refine HI.out (k+1) _ _ (by have:=Hlt.out;omega) ⟨Hlt.out,HN2.out, ?_, ?_, ?_, ?_, ?_,rfl⟩
      all_goals (simp only [go_sem, *];try rfl)
  ·have h1:decide ((k:Int)<(yq.length:Int))=false:=by simpa using hlt
   have hno:=HN.out
   rw [dJ ω] at hno
   have hno:=M0 hno
   clear HI HN
   have hpn:=Hpn.out
   have hco:=Hco.out
   have hv:=Hv.out
   have hh:=H.out
   clear Hpn Hco Hv H hlt hk
   by_cases hm:v=0∨v=4∨v=6∨v=21∨v=22∨v=24∨v=30∨v=31∨v=32∨v=33∨v=34∨v=35∨v=36∨v=37∨v=39∨v=40∨v=41∨v=42∨v=43∨v=44∨v=45∨v=46∨v=47∨v=49∨v=59
   ·clear hno hv
    rcases hm with rfl|rfl|rfl|rfl|rfl|rfl|rfl|rfl|rfl|rfl|rfl|rfl|rfl|rfl|rfl|rfl|rfl|rfl|rfl|rfl|rfl|rfl|rfl|rfl|rfl
    all_goals
     refine ε2 hpn hco ?_
     refine fR results306 ?_
     exact hh
   ·simp only [not_or] at hm
    obtain⟨n0,n4,n6,n21,n22,n24,n39,n49,n59⟩:(v==0)=false∧(v==4)=false∧(v==6)=false∧(v==21)=false∧(v==22)=false∧(v==24)=false∧(v==39)=false∧(v==49)=false∧(v==59)=false:=by simp only [beq_eq_false_iff_ne];omega
    by_cases h9:90≤v∧v≤97
    ·have hs:iU v=some (dI 4 1 (v - 82)):=by
      unfold iU
      iterate 24 rw [if_neg ω]
      rw [if_pos h9]
     obtain⟨c0,c1,c2,c3,c4,c5⟩:decide ((30:Int)≤v)=true∧decide ((40:Int)≤v)=true∧decide ((90:Int)≤v)=true∧decide (v≤37)=false∧decide (v≤47)=false∧decide (v≤97)=true:=by simp only [decide_eq_true_eq,decide_eq_false_iff_not];omega
     have hw:ae.wrap (v - 82)=v - 82:=ai _ ω
     rw [hs] at hh
     simp only [sw,dI,Ac.av] at hh
     clear hm hno hv h9 hs hpn
     refine ε1 hco ?_
     refine fR results306 ?_
     exact hh
    by_cases h10:100≤v∧v≤107
    ·have hs:iU v=some (dI 5 1 (v - 92)):=by
      unfold iU
      iterate 25 rw [if_neg ω]
      rw [if_pos h10]
     obtain⟨c0,c1,c2,c3,c4,c5,c6,c7⟩:decide ((30:Int)≤v)=true∧decide ((40:Int)≤v)=true∧decide ((90:Int)≤v)=true∧decide (v≤37)=false∧decide (v≤47)=false∧decide (v≤97)=false∧decide ((100:Int)≤v)=true∧decide (v≤107)=true:=by simp only [decide_eq_true_eq,decide_eq_false_iff_not];omega
     have hw:ae.wrap (v - 92)=v - 92:=ai _ ω
     rw [hs] at hh
     simp only [sw,dI,Ac.av] at hh
     clear hm hno hv h9 h10 hs hpn
     refine ε1 hco ?_
     refine fR results306 ?_
     exact hh
    have hs:iU v=none:=by
     unfold iU
     iterate 26 rw [if_neg ω]
    rw [hs] at hh
    simp only [sw] at hh
    clear hpn hco hs
    rcases(by omega:v<30∨(37<v∧v<40)∨(47<v∧v<90)∨(97<v∧v<100)∨107<v) with hq|hq|hq|hq|hq
    ·obtain⟨c0,c1,c2,c3,c4,c5,c6,c7⟩:decide ((30:Int)≤v)=false∧decide ((40:Int)≤v)=false∧decide ((90:Int)≤v)=false∧decide ((100:Int)≤v)=false∧decide (v≤37)=true∧decide (v≤47)=true∧decide (v≤97)=true∧decide (v≤107)=true:=by simp only [decide_eq_true_eq,decide_eq_false_iff_not];omega
     clear hm hno hv h9 h10 hq
     refine ε0 ?_
     refine fR results306 ?_
     exact hh
    ·obtain⟨c0,c1,c2,c3,c4,c5,c6,c7⟩:decide ((30:Int)≤v)=true∧decide ((40:Int)≤v)=false∧decide ((90:Int)≤v)=false∧decide ((100:Int)≤v)=false∧decide (v≤37)=false∧decide (v≤47)=true∧decide (v≤97)=true∧decide (v≤107)=true:=by simp only [decide_eq_true_eq,decide_eq_false_iff_not];omega
     clear hm hno hv h9 h10 hq
     refine ε0 ?_
     refine fR results306 ?_
     exact hh
    ·obtain⟨c0,c1,c2,c3,c4,c5,c6,c7⟩:decide ((30:Int)≤v)=true∧decide ((40:Int)≤v)=true∧decide ((90:Int)≤v)=false∧decide ((100:Int)≤v)=false∧decide (v≤37)=false∧decide (v≤47)=false∧decide (v≤97)=true∧decide (v≤107)=true:=by simp only [decide_eq_true_eq,decide_eq_false_iff_not];omega
     clear hm hno hv h9 h10 hq
     refine ε0 ?_
     refine fR results306 ?_
     exact hh
    ·obtain⟨c0,c1,c2,c3,c4,c5,c6,c7⟩:decide ((30:Int)≤v)=true∧decide ((40:Int)≤v)=true∧decide ((90:Int)≤v)=true∧decide ((100:Int)≤v)=false∧decide (v≤37)=false∧decide (v≤47)=false∧decide (v≤97)=false∧decide (v≤107)=true:=by simp only [decide_eq_true_eq,decide_eq_false_iff_not];omega
     clear hm hno hv h9 h10 hq
     refine ε0 ?_
     refine fR results306 ?_
     exact hh
    ·obtain⟨c0,c1,c2,c3,c4,c5,c6,c7⟩:decide ((30:Int)≤v)=true∧decide ((40:Int)≤v)=true∧decide ((90:Int)≤v)=true∧decide ((100:Int)≤v)=true∧decide (v≤37)=false∧decide (v≤47)=false∧decide (v≤97)=false∧decide (v≤107)=false:=by simp only [decide_eq_true_eq,decide_eq_false_iff_not];omega
     clear hm hno hv h9 h10 hq
     refine ε0 ?_
     refine fR results306 ?_
     exact hh
end Go.Proofs.YthdbijpefkapnaaGreatDoor
