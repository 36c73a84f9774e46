/- A part of the proof. -/
import Derived.Test.YthdbijpefkapnaaGreatDoorOfWalk6
set_option linter.all false
set_option maxHeartbeats 40000000
open And renaming intro → a7
open BitVec renaming getLsbD_and → Ba, getLsbD_not → A_, getLsbD_ofNat → yI, getLsbD_zero → Ad, ofInt → ar, ofNat → pY, toNat_ofInt → cH
open Bool renaming and_eq_false_iff → gF, and_eq_true → aq, and_false → cr, and_true → cG, eq_false_iff → tH, eq_iff_iff → eU, false_and → bO, false_eq_true → aZ, false_or → wG, not_true → cq, or_eq_false_iff → cF, or_eq_true → ef, or_false → fI, true_and → bP
open Go.IntKind renaming bits → bk, i64 → ae, u64 → aW
open Go.IntWalk renaming i64_in → ai
open Go.Lib renaming hid → ab
open List renaming any_cons → fS, any_nil → gv, append_nil → aG, getElem?_eq_getElem → ap, map_cons → al, map_nil → aj, mem_map → aN, range → bh, take_length → bC, take_zero → aO
open Nat renaming lt_of_lt_of_le → l7, pow_le_pow_right → gM, testBit → Cs, testBit_lt_two_pow → nj, zero_le → bf
namespace Go.Proofs.YthdbijpefkapnaaGreatDoor
open Go Go.Fen Go.Proofs.Tryz
attribute [local irreducible] aX WP ao dS i7 cJ aU cC
set_option maxRecDepth 8000
variable (w0:World) (S:List aH)
def rE(T:List (Int × Int))(c:Int):Bool:=T.any fun p=>decide (p.1≤c)&&decide (c≤p.2)
def tv(p:Int × Int):AV:=.agg [.int .i64 p.1,.int .i64 p.2]
attribute [go_sem] tv
@[go_sem] theorem tv.plainL(l:List (Int × Int)):plainL (l.map tv)=true:=fL (fun _=>rfl) l
@[go_sem] theorem tv.ltL(l:List (Int × Int))(n:Nat):ltL n (l.map tv)=true:=c_.2 fun x hx=>by obtain⟨y,_,rfl⟩:=aN.1 hx;rfl
theorem pn{T:List (Int × Int)}{k:Nat}{x:Int × Int}{c:Int}(hx:T[k]? = some x)(h:rE (T.take k) c=false)(hp:(decide (x.1≤c)&&decide (c≤x.2))=false):rE (T.take (k+1)) c=false:=mH hx h hp
theorem Np(f:Bool)(c:Int)(T:List (Int × Int))(hT:T.length≤1000000)(R:Rt)(h:R (.ret (.bool (rE T c))) S):ao prog w0 46 [.int .i64 c,.sval f (T.map tv)] S R:=by
 refine eN func46 rfl ntmps46 fun hO=>?_
 refine ε0 ?_
 refine cD (fun (k:Nat) env S'=>k≤T.length∧rE (T.take k) c=false∧env 1000000=.dfr []∧env 0=.int .i64 c∧env 7=.sval f (T.map tv)∧env 8=.int .i64 T.length∧env 9=.int .i64 (k:Int)∧S'=S) (fun k=>T.length - k) 0 ?_ ?_
 ·exact⟨bf _,by simp [rE],ss,ss,ss,ss,ss,rfl⟩
 ·rintro k env S' ⟨hk,hp,e0,f0,f7,f8,f9,rfl⟩ IH
  have HI:=ab IH
  have H:=ab h
  clear IH h
  by_cases hlt:k<T.length
  ·obtain⟨⟨a,b⟩,hx⟩:∃ x,T[k]? = some x:=⟨_,ap hlt⟩
   have h1:decide ((k:Int)<(T.length:Int))=true:=by simpa using hlt
   have hw:ae.wrap ((k:Int)+1)=((k+1:Nat):Int):=by rw [ai _ ω];omega
   have Hlt:=ab (a7 hlt hp)
   clear hk hp hlt
   cases d1:decide (a≤c)<;>cases d2:decide (c≤b)
   ·have Hn:=ab (pn hx Hlt.out.2 (by simp only;rw [d1,d2];rfl))
    refine ε0 ?_
    refine bX hO 0 [0,7,8,9] rfl ss ss ss ?_
    simp only [aO,aG]
    refine HI.out (k+1) _ _ (by have:=Hlt.out.1;omega) ⟨Hlt.out.1,Hn.out, ?_, ?_, ?_, ?_, ?_,rfl⟩
    all_goals (simp only [go_sem, *];try rfl)
   ·have Hn:=ab (pn hx Hlt.out.2 (by simp only;rw [d1,d2];rfl))
    refine ε0 ?_
    refine bX hO 0 [0,7,8,9] rfl ss ss ss ?_
    simp only [aO,aG]
    refine HI.out (k+1) _ _ (by have:=Hlt.out.1;omega) ⟨Hlt.out.1,Hn.out, ?_, ?_, ?_, ?_, ?_,rfl⟩
    all_goals (simp only [go_sem, *];try rfl)
   ·have Hn:=ab (pn hx Hlt.out.2 (by simp only;rw [d1,d2];rfl))
    refine ε0 ?_
    refine bX hO 0 [0,7,8,9] rfl ss ss ss ?_
    simp only [aO,aG]
    refine HI.out (k+1) _ _ (by have:=Hlt.out.1;omega) ⟨Hlt.out.1,Hn.out, ?_, ?_, ?_, ?_, ?_,rfl⟩
    all_goals (simp only [go_sem, *];try rfl)
   ·have hh:=H.out
    rw [show rE T c=true from qE hx (by simp only;rw [d1,d2];rfl)] at hh
    refine ε0 ?_
    refine fR results46 ?_
    exact hh
  ·have h1:decide ((k:Int)<(T.length:Int))=false:=by simpa using hlt
   have hk':k=T.length:=ω
   rw [hk',bC] at hp
   have hh:=H.out
   rw [hp] at hh
   clear hlt hk hk' HI hp
   refine ε0 ?_
   refine fR results46 ?_
   exact hh
def iI:List (Int × Int):=[(768,879),(1155,1161),(1425,1469),(1552,1562),(1611,1631),(6832,6911),(7616,7679),(8203,8207),(8400,8447),(65024,65039),(65056,65071)]
def km:List (Int × Int):=[(4352,4447),(11904,12350),(12353,19903),(19968,42191),(44032,55203),(63744,64255),(65072,65135),(65280,65376),(65504,65510),(127744,128591),(128640,128767),(129280,129535),(131072,262141)]
def CY:List (Int × Int):=[(4352,4447),(11904,12350),(12353,13311),(13312,19903),(19968,40959),(40960,42191),(44032,55203),(63744,64255),(65072,65135),(65280,65376),(65504,65510),(127744,128591),(128640,128767),(129280,129535),(131072,262141)]
def jq(c:Int):Int:=if !(decide (0≤c)&&tI c.toNat)||(decide (c<32)||(decide (127≤c)&&decide (c<160))) then -1 else if rE iI c then 0 else if rE km c then 2 else 1
theorem Bh(c:Int):rE CY c=rE km c:=by
 rw [eU]
 simp only [rE,CY,km,fS,gv,ef,aq,decide_eq_true_eq,fI,aZ,or_false]
 omega
theorem Iq(c:Int)(h:0≤c):rE [(0,31),(127,159)] c=(decide (c<32)||(decide (127≤c)&&decide (c<160))):=by
 rw [eU]
 simp only [rE,fS,gv,ef,aq,decide_eq_true_eq,fI,aZ,or_false]
 omega
theorem yo(c:Int)(h:c<768):rE iI c=false∧rE km c=false:=by
 constructor<;>rw [tH] <;>
 ·simp only [rE,iI,km,fS,gv,ne_eq,ef,aq,decide_eq_true_eq,fI,aZ,or_false]
  omega
theorem FF(c:Int)(R:Rt)(h:R (.ret (.bool (decide (0≤c)&&tI c.toNat))) S):ao prog w0 45 [.int .i64 c] S R:=by
 by_cases c0:0≤c
 ·obtain⟨n,rfl⟩:∃ n:Nat,c=n:=⟨c.toNat,ω⟩
  rw [decide_eq_true c0,bP,Int.toNat_natCast] at h
  exact CX w0 S n R h
 ·have d0:decide (0≤c)=false:=decide_eq_false c0
  rw [d0,bO] at h
  clear c0
  exact γR0 func45 ntmps45 results45 h
def l6(w0:World):Prop:=gl w0 0=.pro (ei (iI.map tv))
def lY(w0:World):Prop:=gl w0 1=.pro (ei (km.map tv))
theorem wy{T:List (Int × Int)}:∀ y∈T.map tv,y.cells.length=2:=by
 intro y hy
 obtain⟨p,_,rfl⟩:=aN.1 hy
 rfl
theorem Q8(w0:World)(hM:l6 w0)(hW:lY w0)(S:List aH)(c:Int)(R:Rt)(h:R (.ret (.int .i64 (jq c))) S):ao prog w0 25 [.int .i64 c] S R:=by
 have hu:=fun S'=>FF w0 S' c
 have hc:=fun S'=>Np w0 S' false c [(0,31),(127,159)] δ
 have hm:=fun S'=>Np w0 S' false c iI δ
 have hw:=fun S'=>Np w0 S' false c km δ
 unfold l6 at hM
 unfold lY at hW
 unfold jq at h
 simp only [al,aj,tv] at hc
 have hM1:gl w0 0=.pro (.int .i64 768::(ei (iI.map tv)).drop 1):=by rw [hM];rfl
 cases hk:decide (0≤c)&&tI c.toNat with
 | false =>
  rw [hk] at h hu
  clear hm hw hc hM hW hM1 hk
  exact γR1 hu func25 ntmps25 results25 h
 | true =>
  have h0:0≤c:=by
   have:=(aq _ _▸hk).1
   simpa using this
  rw [Iq c h0] at hc
  rw [hk] at h hu
  simp only [cq,wG] at h
  cases hi:decide (c<32)||(decide (127≤c)&&decide (c<160)) with
  | true =>
   rw [hi] at h hc
   clear hm hw hM hW hM1 hk hi h0
   refine eN func25 rfl ntmps25 fun hO=>?_
   repeat' first|refine st ?_|(refine ca ?_;first|apply hu|apply hc)|(apply df [S.length];(· simp only [go_sem, *];try rfl);(· rfl);(· simp only [go_sem, *];try rfl);(· rfl);(iterate 2 (· simp only [go_sem, *];try rfl));first|apply hu|apply hc)|(refine br ?_ ?_<;>intro hb)|fail
   refine fR results25 ?_
   exact h
  | false =>
   rw [hi] at h hc
   simp only [aZ,if_false] at h
   by_cases h7:c<768
   ·obtain⟨b1,b2⟩:=yo c h7
    rw [b1,b2] at h
    have d7:decide (c<768)=true:=decide_eq_true h7
    clear hm hw hM hW hk hi h0 h7 b1 b2
    refine eN func25 rfl ntmps25 fun hO=>?_
    repeat' first|refine st ?_|(refine ca ?_;first|apply hu|apply hc)|(apply df [S.length];(· simp only [go_sem, *];try rfl);(· rfl);(· simp only [go_sem, *];try rfl);(· rfl);(iterate 2 (· simp only [go_sem, *];try rfl));first|apply hu|apply hc)|(refine br ?_ ?_<;>intro hb)|fail
    refine fR results25 ?_
    exact h
   ·have d7:decide (c<768)=false:=decide_eq_false h7
    clear hk hi h0 h7
    cases hi1:rE iI c with
    | true =>
     rw [hi1] at h hm
     have HM:=ab hM
     clear hw hM hW hi1
     refine eN func25 rfl ntmps25 fun hO=>?_
     repeat' first|refine st ?_|(refine ca ?_;first|apply hu|apply hc)|(apply df [S.length];(· simp only [go_sem, *];try rfl);(· rfl);(· simp only [go_sem, *];try rfl);(· rfl);(iterate 2 (· simp only [go_sem, *];try rfl));first|apply hu|apply hc)|(refine br ?_ ?_<;>intro hb)|fail
     have hM:=HM.out
     clear hM1
     refine rO (els:=iI.map tv) ss rfl yO yQ hM δ wy ss ?_
     clear hM
     refine ε1 hm ?_
     refine fR results25 ?_
     exact h
    | false =>
     rw [hi1] at h hm
     have HM:=ab hM
     have HW:=ab hW
     clear hM hW hi1
     refine eN func25 rfl ntmps25 fun hO=>?_
     repeat' first|refine st ?_|(refine ca ?_;first|apply hu|apply hc)|(apply df [S.length];(· simp only [go_sem, *];try rfl);(· rfl);(· simp only [go_sem, *];try rfl);(· rfl);(iterate 2 (· simp only [go_sem, *];try rfl));first|apply hu|apply hc)|(refine br ?_ ?_<;>intro hb)|fail
     have hM:=HM.out
     clear hM1
     refine rO (els:=iI.map tv) ss rfl yO yQ hM δ wy ss ?_
     clear hM
     refine ε1 hm ?_
     have hW:=HW.out
     refine rO (els:=km.map tv) ss rfl CU yQ hW δ wy ss ?_
     clear hW
     cases hi2:rE km c<;>rw [hi2] at h hw<;>clear hi2
     all_goals
      refine ε1 hw ?_
      refine fR results25 ?_
      exact h
theorem P6(c:Int)(T:List (Int × Int))(hT:T.length≤1000000)(R:Rt)(h:R (.ret (.bool (rE T c))) S):ao prog w0 182 [.sval false (T.map tv),.int .i64 c] S R:=by
 refine eN func182 rfl ntmps182 fun hO=>?_
 refine ε0 ?_
 refine cD (fun (k:Nat) env S'=>k≤T.length∧rE (T.take k) c=false∧env 1000000=.dfr []∧env 0=.sval false (T.map tv)∧env 1=.int .i64 c∧env 5=.int .i64 (k:Int)∧S'=S) (fun k=>T.length - k) 0 ?_ ?_
 ·exact⟨bf _,by simp [rE],ss,ss,ss,ss,rfl⟩
 ·rintro k env S' ⟨hk,hp,e0,f0,f1,f5,rfl⟩ IH
  have HI:=ab IH
  have H:=ab h
  clear IH h
  by_cases hlt:k<T.length
  ·obtain⟨⟨a,b⟩,hx⟩:∃ x,T[k]? = some x:=⟨_,ap hlt⟩
   have h1:decide ((k:Int)<(T.length:Int))=true:=by simpa using hlt
   have hw:ae.wrap ((k:Int)+1)=((k+1:Nat):Int):=by rw [ai _ ω];omega
   have Hlt:=ab (a7 hlt hp)
   clear hk hp hlt
   by_cases hab:(decide (a≤c)&&decide (c≤b))=true
   ·have hh:=H.out
    rw [show rE T c=true from qE hx hab] at hh
    rw [aq] at hab
    obtain⟨d1,d2⟩:=hab
    refine ε0 ?_
    refine fR results182 ?_
    exact hh
   ·have Hn:=ab (pn hx Hlt.out.2 (by simpa using hab))
    cases d1:decide (a≤c)<;>cases d2:decide (c≤b)
    case neg.true.true=>rw [d1,d2] at hab;exact absurd rfl hab
    all_goals
     clear hab
     refine ε0 ?_
     refine HI.out (k+1) _ _ (by have:=Hlt.out.1;omega) ⟨Hlt.out.1,Hn.out, ?_, ?_, ?_, ?_,rfl⟩
     all_goals (simp only [go_sem, *];try rfl)
  ·have h1:decide ((k:Int)<(T.length:Int))=false:=by simpa using hlt
   have hk':k=T.length:=ω
   rw [hk',bC] at hp
   have hh:=H.out
   rw [hp] at hh
   clear hlt hk hk' HI hp
   refine ε0 ?_
   refine fR results182 ?_
   exact hh
theorem L5(R:Rt)(h:R (.ret (.sval false (iI.map tv))) S):ao prog w0 183 [] S R:=by
 simp only [iI,al,aj,tv] at h
 exact γR0 func183 ntmps183 results183 h
theorem NB(R:Rt)(h:R (.ret (.sval false (CY.map tv))) S):ao prog w0 184 [] S R:=by
 simp only [CY,al,aj,tv] at h
 exact γR0 func184 ntmps184 results184 h
theorem Q9(c:Int)(R:Rt)(h:R (.ret (.int .i64 (jq c))) S):ao prog w0 94 [.int .i64 c] S R:=by
 have hu:=fun S'=>Gq w0 S' c
 have hm:=fun S'=>P6 w0 S' c iI δ
 have hw:=fun S'=>P6 w0 S' c CY δ
 have hz:=L5 w0
 have ht:=NB w0
 rw [Bh] at hw
 unfold jq at h
 generalize (decide (0≤c)&&tI c.toNat)=b at h hu
 cases b
 ·clear hm hw hz ht
  exact γR1 hu func94 ntmps94 results94 h
 simp only [cq,wG] at h
 cases d1:decide (c<32)<;>rw [d1] at h
 case true =>
  clear hm hw hz ht
  exact γR1 hu func94 ntmps94 results94 h
 simp only [wG] at h
 cases d2:decide (127≤c)<;>cases d3:decide (c<160)<;>rw [d2,d3] at h
 case true.true =>
  clear hm hw hz ht
  exact γR1 hu func94 ntmps94 results94 h
 all_goals
  simp only [cG,cr,bP,bO,aZ,if_false] at h
  generalize rE iI c=z1 at h hm
  generalize rE km c=z2 at h hw
  cases z1<;>cases z2
  all_goals
   refine eN func94 rfl ntmps94 fun hO=>?_
   repeat' first|refine st ?_|(refine ca ?_;first|apply hu|apply hm|apply hw|apply hz|apply ht)|(refine br ?_ ?_<;>intro hb)|fail
   refine fR results94 ?_
   exact h
def Mi(v:Nat):Nat:=(bh 8).foldl (fun s i=>s+v / 2 ^ i % 2) 0
theorem G9(v:Nat)(hv:v<256)(R:Rt)(h:R (.ret (.int .i64 (Mi v))) S):ao prog w0 227 [.int .u64 v] S R:=by
 refine eN func227 rfl ntmps227 fun hO=>?_
 repeat' first|refine st ?_|(refine br ?_ ?_<;>intro hb)|fail
 refine fR results227 ?_
 refine(congrArg (fun z=>R (.ret (.int .i64 z)) S) (?_:_=((Mi v:Nat):Int))).mpr h
 clear h hO
 revert v
 decide +kernel
theorem Mv(v:Nat)(hv:v<256)(R:Rt)(h:R (.ret (.int .i64 (Mi v))) S):ao prog w0 185 [.int .u64 v] S R:=by
 have h1:=fun S'=>G9 w0 S' v hv
 clear hv
 exact γR1 h1 func185 ntmps185 results185 h
def LJ(m:Int):Prop:=-9223372036854775808≤m∧m≤9223372036854775807
theorem EW{x:BitVec 64}{c:Nat}(hc:c<256):(x &&& ~~~(pY 64 255))=0#64↔x.toNat<256:=by
 constructor
 ·intro h
  refine Nat.lt_pow_two_of_testBit (n:=8) x.toNat fun i hi=>?_
  by_cases h64:i<64
  ·have:=congrArg (fun y=>y.getLsbD i) h
   simp only [Ba,A_,h64,decide_true,bP,yI,Ad] at this
   have h2:Cs 255 i=false:=nj (l7 δ (gM δ hi))
   rw [h2] at this
   simpa [BitVec.getLsbD] using this
  ·exact nj (l7 x.isLt (gM δ ω))
 ·intro h
  apply BitVec.eq_of_getLsbD_eq
  intro i hi
  simp only [Ba,A_,hi,decide_true,bP,yI,Ad]
  by_cases h8:i<8
  ·have:Cs 255 i=true:=by
    have:∀ j,j<8→Cs 255 j=true:=δ
    exact this i h8
   rw [this];simp
  ·have:x.getLsbD i=false:=nj (l7 h (gM (n:=2) (i:=8) δ ω))
   rw [this];simp
theorem tN(m:Int):((ar 64 m).toNat:Int)=m % 18446744073709551616:=by
 rw [cH]
 have:(0:Int)≤m % ((2 ^ 64:Nat):Int):=Int.emod_nonneg _ δ
 rw [Int.toNat_of_nonneg this];rfl
theorem Bd(n:Nat)(h:n<18446744073709551616):(ae.wrap (n:Int)==0)=(n==0):=by
 rw [eU,IntKind.wrap_i64]
 simp only [beq_iff_eq]
 omega
theorem yv{m:Int}(h:LJ m):(ae.wrap ((((ar ae.bits m &&& ~~~ ar ae.bits 255).toNat:Nat):Int))==0)=(decide (0≤m)&&decide (m≤255)):=by
 obtain⟨h1,h2⟩:=h
 show (ae.wrap ((((ar 64 m &&& ~~~ pY 64 255).toNat:Nat):Int))==0)=_
 rw [Bd _ (BitVec.isLt _)]
 have e:=EW (x:=ar 64 m) (c:=0) δ
 have t:=tN m
 rw [eU]
 simp only [beq_iff_eq,aq,decide_eq_true_eq]
 rw [show ((ar 64 m &&& ~~~ pY 64 255).toNat=0)↔(ar 64 m &&& ~~~ pY 64 255)=0#64 from ⟨fun e=>BitVec.eq_of_toNat_eq e,fun e=>by rw [e];rfl⟩,e]
 omega
def qe(m:Int):Bool:=m==1||(m==2||(m==4||(m==8||(m==16||(m==32||(m==64||m==128))))))
theorem Kl:∀ v:Nat,v<256→(((Mi v:Nat):Int)==1)=qe v:=by decide +kernel
theorem LV(m:Int)(hm:LJ m)(R:Rt)(h:R (.ret (.bool (qe m))) S):ao prog w0 100 [.int .i64 m] S R:=by
 have e:=yv hm
 simp only [bk] at e
 by_cases hr:0≤m∧m≤255
 ·obtain⟨v,rfl⟩:∃ v:Nat,m=v:=⟨m.toNat,ω⟩
  have hv:v<256:=ω
  rw [decide_eq_true hr.1,decide_eq_true hr.2,cG] at e
  have h1:=fun S'=>Mv w0 S' v hv
  have hw:aW.wrap (v:Int)=(v:Int):=by simp only [IntKind.wrap,IntKind.signed,bk];simp;omega
  have h2:=Kl v hv
  generalize qe v=b at h h2
  generalize Mi v=p at h1 h2
  clear hr hv hm
  exact γR1 h1 func100 ntmps100 results100 h
 ·have h3:qe m=false:=by
   unfold qe
   simp only [cF,beq_eq_false_iff_ne]
   omega
  have h4:(decide (0≤m)&&decide (m≤255))=false:=by simpa using hr
  rw [h4] at e
  rw [h3] at h
  clear hr h3 h4 hm
  exact γR0 func100 ntmps100 results100 h
theorem LR(m:Int)(R:Rt)(h:R (.ret (.bool (m==0))) S):ao prog w0 97 [.int .i64 m] S R:=by
 exact γR0 func97 ntmps97 results97 h
def tZ(m:Int):Bool:=m==3||(qe m&&(m != 1&&m != 2))
theorem BK{m:Int}(h:qe m=true):m=1∨m=2∨m=4∨m=8∨m=16∨m=32∨m=64∨m=128:=by
 unfold qe at h
 simpa using h
theorem N5{m:Int}(h:qe m=true):(ae.wrap ((((ar ae.bits m &&& ar ae.bits 3).toNat:Nat):Int))==0)=(m != 1&&m != 2):=by
 rcases BK h with rfl|rfl|rfl|rfl|rfl|rfl|rfl|rfl<;>decide
theorem Nx(m:Int)(hm:LJ m)(R:Rt)(h:R (.ret (.bool (tZ m))) S):ao prog w0 102 [.int .i64 m] S R:=by
 have h1:=fun S'=>LV w0 S' m hm
 unfold tZ at h
 cases d3:m==3<;>rw [d3] at h
 ·cases d1:qe m
  ·rw [d1] at h h1
   clear hm d1
   exact γR1 h1 func102 ntmps102 results102 h
  ·have e:=N5 d1
   simp only [bk] at e
   rw [d1] at h h1
   clear hm d1
   refine γR1 h1 func102 ntmps102 results102 ?_
   simpa using h
 ·clear hm h1
  exact γR0 func102 ntmps102 results102 h
theorem JS(m:Int)(R:Rt)(h:R (.ret (.bool (decide (0≤m)&&decide (m≤5)))) S):ao prog w0 104 [.int .i64 m] S R:=by
 cases d:decide (0≤m)<;>rw [d] at h
 all_goals
  refine γR0 func104 ntmps104 results104 ?_
  first|exact h|(simpa using h)
def yF(f:FuncId):AV:=.fn (.func f) [] []
def m5(g:FuncId):AV:=.agg [yF 97,.bool true,.fn (.func 98) [] [.pro [yF g]]]
theorem Gi(g:FuncId)(R:Rt)(h:R (.ret (m5 g)) S):ao prog w0 96 [yF g] S R:=by
 unfold m5 yF at h
 unfold yF
 exact γR0 func96 ntmps96 results96 h
def D1:List (AV × AV):=[(.int .i64 0,.agg [yF 97,.bool false,yF 99]),(.int .i64 1,.agg [yF 100,.bool false,yF 101]),(.int .i64 2,.agg [yF 102,.bool false,yF 103]),
 (.int .i64 3,.agg [yF 104,.bool false,yF 105]),(.int .i64 4,m5 106),(.int .i64 5,m5 107),(.int .i64 6,m5 108)]
theorem LU(R:Rt)(h:R (.ret (.mval D1)) S):ao prog w0 47 [] S R:=by
 have hc:=Gi w0
 unfold m5 yF at hc
 unfold D1 m5 yF at h
 exact γR1 hc func47 ntmps47 results47 h
def ep(ck cn:Int):Bool:=ck==0&&cn==0
def va(m:Int):Bool:=decide (0≤m)&&decide (m≤5)
def lK(n m ck cn:Int):Bool :=
 if n=0 then m==0&&ep ck cn else if n=1 then qe m&&ep ck cn else if n=2 then tZ m&&ep ck cn else if n=3 then va m&&ep ck cn
 else if n=4∨n=5∨n=6 then m==0&&jE ck cn else false
def qR(a:Ac):Bool:=a.kind==39&&(a.text==[]&&lK a.n a.m a.ck a.cn)
theorem kU:jE 0 0=true:=δ
theorem sr(n:Int):(n=0∨n=1∨n=2∨n=3∨n=4∨n=5∨n=6)∨((n==0)=false∧(n==1)=false∧(n==2)=false∧(n==3)=false∧(n==4)=false∧(n==5)=false∧(n==6)=false):=by
 simp only [beq_eq_false_iff_ne]
 omega
theorem Bv(a:Ac)(hm:LJ a.m)(R:Rt)(h:R (.ret (.int .i64 (if qR a then 0 else 141))) S):ao prog w0 27 [a.av] S R:=by
 obtain⟨k,n,m,ck,cn,t⟩:=a
 have hp:=LU w0
 unfold D1 m5 yF at hp
 have z1:=fun S'=>LR w0 S' m
 have z2:=fun S'=>LV w0 S' m hm
 have z3:=fun S'=>Nx w0 S' m hm
 have z4:=fun S'=>JS w0 S' m
 have hc:=fun S'=>ir w0 S' ck cn
 unfold qR at h
 unfold Ac.av
 simp only at h ⊢ hm
 clear hm
 rw [show (decide (0≤m)&&decide (m≤5))=va m from rfl] at z4
 rcases sr n with(rfl|rfl|rfl|rfl|rfl|rfl|rfl)|⟨c0,c1,c2,c3,c4,c5,c6⟩
 ·clear z2 z3 z4
  refine eN func27 rfl ntmps27 fun hO=>?_
  refine share ?K1 ?hK1 fun key1=>?main1
  case main1 =>
   repeat' ((fail_if_success (apply ci 2));first|refine st ?_|(refine ca ?_;apply hp)|(refine br ?_ ?_<;>intro hb)|refine sd ?_|apply aw|(apply aF;(· decide +kernel))|refine bd ?_ ?_|(refine cd ?_;apply hp)|fail)
   all_goals
    refine g_ [1000000,1,3,4] ?_
    simp only [fb,go_sem]
    exact key1
  case hK1 =>
   rintro env ⟨e0,e1,e3,e4⟩
   repeat' first|refine st ?_|(refine ca ?_;first|apply z1|apply hc)|(refine br ?_ ?_<;>intro hb)|fail
   all_goals refine fR results27 ?_
   all_goals
    refine(congrArg (fun z=>R (.ret (.int .i64 z)) S) (?_:_=_)).mpr h
    clear h hp z1 hc hO e0 e1 e3 e4
    simp_all [lK,ep,kU]
 ·clear z1 z3 z4
  refine eN func27 rfl ntmps27 fun hO=>?_
  refine share ?K2 ?hK2 fun key1=>?main2
  case main2 =>
   repeat' ((fail_if_success (apply ci 2));first|refine st ?_|(refine ca ?_;apply hp)|(refine br ?_ ?_<;>intro hb)|refine sd ?_|apply aw|(apply aF;(· decide +kernel))|refine bd ?_ ?_|(refine cd ?_;apply hp)|fail)
   all_goals
    refine g_ [1000000,1,3,4] ?_
    simp only [fb,go_sem]
    exact key1
  case hK2 =>
   rintro env ⟨e0,e1,e3,e4⟩
   repeat' first|refine st ?_|(refine ca ?_;first|apply z2|apply hc)|(refine br ?_ ?_<;>intro hb)|fail
   all_goals refine fR results27 ?_
   all_goals
    refine(congrArg (fun z=>R (.ret (.int .i64 z)) S) (?_:_=_)).mpr h
    clear h hp z2 hc hO e0 e1 e3 e4
    simp_all [lK,ep,kU]
 ·clear z1 z2 z4
  refine eN func27 rfl ntmps27 fun hO=>?_
  refine share ?K3 ?hK3 fun key1=>?main3
  case main3 =>
   repeat' ((fail_if_success (apply ci 2));first|refine st ?_|(refine ca ?_;apply hp)|(refine br ?_ ?_<;>intro hb)|refine sd ?_|apply aw|(apply aF;(· decide +kernel))|refine bd ?_ ?_|(refine cd ?_;apply hp)|fail)
   all_goals
    refine g_ [1000000,1,3,4] ?_
    simp only [fb,go_sem]
    exact key1
  case hK3 =>
   rintro env ⟨e0,e1,e3,e4⟩
   repeat' first|refine st ?_|(refine ca ?_;first|apply z3|apply hc)|(refine br ?_ ?_<;>intro hb)|fail
   all_goals refine fR results27 ?_
   all_goals
    refine(congrArg (fun z=>R (.ret (.int .i64 z)) S) (?_:_=_)).mpr h
    clear h hp z3 hc hO e0 e1 e3 e4
    simp_all [lK,ep,kU]
 ·clear z1 z2 z3
  refine eN func27 rfl ntmps27 fun hO=>?_
  refine share ?K4 ?hK4 fun key1=>?main4
  case main4 =>
   repeat' ((fail_if_success (apply ci 2));first|refine st ?_|(refine ca ?_;apply hp)|(refine br ?_ ?_<;>intro hb)|refine sd ?_|apply aw|(apply aF;(· decide +kernel))|refine bd ?_ ?_|(refine cd ?_;apply hp)|fail)
   all_goals
    refine g_ [1000000,1,3,4] ?_
    simp only [fb,go_sem]
    exact key1
  case hK4 =>
   rintro env ⟨e0,e1,e3,e4⟩
   repeat' first|refine st ?_|(refine ca ?_;first|apply z4|apply hc)|(refine br ?_ ?_<;>intro hb)|fail
   all_goals refine fR results27 ?_
   all_goals
    refine(congrArg (fun z=>R (.ret (.int .i64 z)) S) (?_:_=_)).mpr h
    clear h hp z4 hc hO e0 e1 e3 e4
    simp_all [lK,ep,kU]
 ·clear z2 z3 z4
  refine eN func27 rfl ntmps27 fun hO=>?_
  refine share ?K5 ?hK5 fun key1=>?main5
  case main5 =>
   repeat' ((fail_if_success (apply ci 2));first|refine st ?_|(refine ca ?_;apply hp)|(refine br ?_ ?_<;>intro hb)|refine sd ?_|apply aw|(apply aF;(· decide +kernel))|refine bd ?_ ?_|(refine cd ?_;apply hp)|fail)
   all_goals
    refine g_ [1000000,1,3,4] ?_
    simp only [fb,go_sem]
    exact key1
  case hK5 =>
   rintro env ⟨e0,e1,e3,e4⟩
   repeat' first|refine st ?_|(refine ca ?_;first|apply z1|apply hc)|(refine br ?_ ?_<;>intro hb)|fail
   all_goals refine fR results27 ?_
   all_goals
    refine(congrArg (fun z=>R (.ret (.int .i64 z)) S) (?_:_=_)).mpr h
    clear h hp z1 hc hO e0 e1 e3 e4
    simp_all [lK,ep,kU]
 ·clear z2 z3 z4
  refine eN func27 rfl ntmps27 fun hO=>?_
  refine share ?K6 ?hK6 fun key1=>?main6
  case main6 =>
   repeat' ((fail_if_success (apply ci 2));first|refine st ?_|(refine ca ?_;apply hp)|(refine br ?_ ?_<;>intro hb)|refine sd ?_|apply aw|(apply aF;(· decide +kernel))|refine bd ?_ ?_|(refine cd ?_;apply hp)|fail)
   all_goals
    refine g_ [1000000,1,3,4] ?_
    simp only [fb,go_sem]
    exact key1
  case hK6 =>
   rintro env ⟨e0,e1,e3,e4⟩
   repeat' first|refine st ?_|(refine ca ?_;first|apply z1|apply hc)|(refine br ?_ ?_<;>intro hb)|fail
   all_goals refine fR results27 ?_
   all_goals
    refine(congrArg (fun z=>R (.ret (.int .i64 z)) S) (?_:_=_)).mpr h
    clear h hp z1 hc hO e0 e1 e3 e4
    simp_all [lK,ep,kU]
 ·clear z2 z3 z4
  refine eN func27 rfl ntmps27 fun hO=>?_
  refine share ?K7 ?hK7 fun key1=>?main7
  case main7 =>
   repeat' ((fail_if_success (apply ci 2));first|refine st ?_|(refine ca ?_;apply hp)|(refine br ?_ ?_<;>intro hb)|refine sd ?_|apply aw|(apply aF;(· decide +kernel))|refine bd ?_ ?_|(refine cd ?_;apply hp)|fail)
   all_goals
    refine g_ [1000000,1,3,4] ?_
    simp only [fb,go_sem]
    exact key1
  case hK7 =>
   rintro env ⟨e0,e1,e3,e4⟩
   repeat' first|refine st ?_|(refine ca ?_;first|apply z1|apply hc)|(refine br ?_ ?_<;>intro hb)|fail
   all_goals refine fR results27 ?_
   all_goals
    refine(congrArg (fun z=>R (.ret (.int .i64 z)) S) (?_:_=_)).mpr h
    clear h hp z1 hc hO e0 e1 e3 e4
    simp_all [lK,ep,kU]
 ·have hn:lK n m ck cn=false:=by
   simp only [beq_eq_false_iff_ne] at c0 c1 c2 c3 c4 c5 c6
   simp [lK,c0,c1,c2,c3,c4,c5,c6]
  rw [hn] at h
  clear z1 z2 z3 z4 hc hn
  refine eN func27 rfl ntmps27 fun hO=>?_
  repeat' first|refine st ?_|(refine ca ?_;apply hp)|(refine br ?_ ?_<;>intro hb)|refine sd ?_|apply aw|(apply aF;(· decide +kernel))|refine bd ?_ ?_|(refine cd ?_;apply hp)|fail
  all_goals refine fR results27 ?_
  all_goals simpa using h
theorem ES(k n:Int):jE k n=true↔(k=0∧n=0)∨(k=1∧0≤n∧n≤255)∨(k=2∧0≤n∧n≤16777215):=by
 unfold jE xH
 simp only [aq,decide_eq_true_eq]
 constructor
 ·rintro⟨⟨a,b⟩,c,d⟩
  split at d
  ·omega
  ·split at d<;>omega
 ·rintro(⟨rfl,rfl⟩|⟨rfl,a,b⟩|⟨rfl,a,b⟩)
  ·simp
  ·simp;omega
  ·simp;omega
theorem L9(k n:Int)(R:Rt)(h:R (.ret (.int .i64 (if jE k n then 0 else 130))) S):ao prog w0 89 [.agg [.int .i64 k,.int .i64 n]] S R:=by
 refine eN func89 rfl ntmps89 fun hO=>?_
 repeat' first|refine st ?_|(refine br ?_ ?_<;>intro hb)|fail
 all_goals refine fR results89 ?_
 all_goals
  refine(congrArg (fun z=>R (.ret (.int .i64 z)) S) (?_:_=_)).mpr h
  clear h hO
  have hq:=ES k n
  simp only [beq_iff_eq,beq_eq_false_iff_ne,decide_eq_true_eq,decide_eq_false_iff_not,aq,gF] at *
  first
  | rw [if_pos (hq.2 ω)]
  | rw [if_neg (fun e=>by have:=hq.1 e;omega)]
theorem L_(m:Int)(R:Rt)(h:R (.ret (.bool (qe m))) S):ao prog w0 88 [.int .i64 m] S R:=by
 refine eN func88 rfl ntmps88 fun hO=>?_
 repeat' first|refine st ?_|(refine br ?_ ?_<;>intro hb)|apply cS|apply gn|fail
 all_goals refine fR results88 ?_
 all_goals
  refine(congrArg (fun z=>R (.ret (.bool z)) S) (?_:_=_)).mpr h
  clear h hO
  simp_all [qe]
theorem BA(a:Ac)(R:Rt)(h:R (.ret (.int .i64 (if qR a then 0 else 141))) S):ao prog w0 42 [a.av] S R:=by
 obtain⟨k,n,m,ck,cn,t⟩:=a
 have z2:=fun S'=>L_ w0 S' m
 have hc:=fun S'=>L9 w0 S' ck cn
 unfold qR at h
 unfold Ac.av
 simp only at h ⊢
 rcases sr n with(rfl|rfl|rfl|rfl|rfl|rfl|rfl)|⟨c0,c1,c2,c3,c4,c5,c6⟩
 ·clear z2 hc
  refine eN func42 rfl ntmps42 fun hO=>?_
  repeat' first|refine st ?_|(refine br ?_ ?_<;>intro hb)|fail
  all_goals refine fR results42 ?_
  all_goals
   refine(congrArg (fun z=>R (.ret (.int .i64 z)) S) (?_:_=_)).mpr h
   clear h hO
   simp_all [lK,ep,kU,tZ,va]<;>(intros;omega)
 ·clear hc
  refine eN func42 rfl ntmps42 fun hO=>?_
  repeat' first|refine st ?_|(refine ca ?_;apply z2)|(refine br ?_ ?_<;>intro hb)|fail
  all_goals refine fR results42 ?_
  all_goals
   refine(congrArg (fun z=>R (.ret (.int .i64 z)) S) (?_:_=_)).mpr h
   clear h hO z2
   simp_all [lK,ep,kU,tZ,va]<;>(intros;omega)
 ·clear hc
  refine eN func42 rfl ntmps42 fun hO=>?_
  repeat' first|refine st ?_|(refine ca ?_;apply z2)|(refine br ?_ ?_<;>intro hb)|fail
  all_goals refine fR results42 ?_
  all_goals
   refine(congrArg (fun z=>R (.ret (.int .i64 z)) S) (?_:_=_)).mpr h
   clear h hO z2
   simp_all [lK,ep,kU,tZ,va]<;>(intros;omega)
 ·clear z2 hc
  refine eN func42 rfl ntmps42 fun hO=>?_
  repeat' first|refine st ?_|(refine br ?_ ?_<;>intro hb)|fail
  all_goals refine fR results42 ?_
  all_goals
   refine(congrArg (fun z=>R (.ret (.int .i64 z)) S) (?_:_=_)).mpr h
   clear h hO
   simp_all [lK,ep,kU,tZ,va]<;>(intros;omega)
 ·clear z2
  refine eN func42 rfl ntmps42 fun hO=>?_
  repeat' first|refine st ?_|(refine ca ?_;apply hc)|(refine br ?_ ?_<;>intro hb)|fail
  all_goals refine fR results42 ?_
  all_goals
   refine(congrArg (fun z=>R (.ret (.int .i64 z)) S) (?_:_=_)).mpr h
   clear h hO hc
   simp_all [lK,ep,kU,tZ,va]<;>(intros;omega)
 ·clear z2
  refine eN func42 rfl ntmps42 fun hO=>?_
  repeat' first|refine st ?_|(refine ca ?_;apply hc)|(refine br ?_ ?_<;>intro hb)|fail
  all_goals refine fR results42 ?_
  all_goals
   refine(congrArg (fun z=>R (.ret (.int .i64 z)) S) (?_:_=_)).mpr h
   clear h hO hc
   simp_all [lK,ep,kU,tZ,va]<;>(intros;omega)
 ·clear z2
  refine eN func42 rfl ntmps42 fun hO=>?_
  repeat' first|refine st ?_|(refine ca ?_;apply hc)|(refine br ?_ ?_<;>intro hb)|fail
  all_goals refine fR results42 ?_
  all_goals
   refine(congrArg (fun z=>R (.ret (.int .i64 z)) S) (?_:_=_)).mpr h
   clear h hO hc
   simp_all [lK,ep,kU,tZ,va]<;>(intros;omega)
 ·have hn:lK n m ck cn=false:=by
   simp only [beq_eq_false_iff_ne] at c0 c1 c2 c3 c4 c5 c6
   simp [lK,c0,c1,c2,c3,c4,c5,c6]
  rw [hn] at h
  clear z2 hc hn
  refine eN func42 rfl ntmps42 fun hO=>?_
  repeat' first|refine st ?_|(refine br ?_ ?_<;>intro hb)|fail
  all_goals refine fR results42 ?_
  all_goals simpa using h
end Go.Proofs.YthdbijpefkapnaaGreatDoor
