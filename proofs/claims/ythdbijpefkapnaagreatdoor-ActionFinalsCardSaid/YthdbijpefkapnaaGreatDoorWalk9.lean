/- YthdbijpefkapnaaGreatDoorWalk9: a part of the proof. -/
import Derived.Test.YthdbijpefkapnaaGreatDoorWalk6
import Derived.Test.YthdbijpefkapnaaGreatDoorCore3
set_option linter.all false
set_option maxHeartbeats 40000000
open And renaming intro → a6
open BitVec renaming getLsbD_and → z_, getLsbD_not → z8, getLsbD_ofNat → xJ, getLsbD_zero → y6, ofInt → ar, ofNat → pn, toNat_ofInt → cA
open Bool renaming and_eq_false_iff → gp, and_eq_true → ao, and_false → b_, and_true → cu, eq_false_iff → sF, eq_iff_iff → eB, false_and → bK, false_eq_true → cg, false_or → vH, not_true → b9, or_eq_false_iff → ct, or_eq_true → eF, or_false → fu, true_and → bL
open Go.IntKind renaming bits → bh, i64 → ae, u64 → aR
open Go.IntWalk renaming i64_in → ah
open Go.Lib renaming hid → ab
open List renaming any_cons → fH, any_nil → fY, append_nil → aG, getElem?_eq_getElem → al, map_cons → ap, map_nil → aq, mem_map → aM, range → ba, take_length → bt, take_zero → aP
open Nat renaming lt_of_lt_of_le → lB, pow_le_pow_right → gw, testBit → Bw, testBit_lt_two_pow → mH, zero_le → bf
namespace Go.Proofs.YthdbijpefkapnaaGreatDoor
open Go Go.Fen Go.Proofs.Tryz
attribute [local irreducible] aW WP aj dS jl cQ aV cV
set_option maxRecDepth 8000
variable (w0:World) (S:List aH)
def qL(T:List (Int × Int))(c:Int):Bool:=T.any fun p=>decide (p.1≤c)&&decide (c≤p.2)
def sw(p:Int × Int):AV:=.agg [.int .i64 p.1,.int .i64 p.2]
attribute [go_sem] sw
@[go_sem] theorem sw.plainL(l:List (Int × Int)):plainL (l.map sw)=true:=fA (fun _=>rfl) l
@[go_sem] theorem sw.ltL(l:List (Int × Int))(n:Nat):ltL n (l.map sw)=true:=db.2 fun x hx=>by obtain⟨y,_,rfl⟩:=aM.1 hx;rfl
theorem oI{T:List (Int × Int)}{k:Nat}{x:Int × Int}{c:Int}(hx:T[k]? = some x)(h:qL (T.take k) c=false)(hp:(decide (x.1≤c)&&decide (c≤x.2))=false):qL (T.take (k+1)) c=false:=l8 hx h hp
theorem LX(f:Bool)(c:Int)(T:List (Int × Int))(hT:T.length≤1000000)(R:Rt)(h:R (.ret (.bool (qL T c))) S):aj prog w0 46 [.int .i64 c,.sval f (T.map sw)] S R:=by
 refine eN func46 rfl ntmps46 fun hO=>?_
 repeat' first|refine st ?_|(refine br ?_ ?_<;>intro hb)|fail
 refine cW (fun (k:Nat) env S'=>k≤T.length∧qL (T.take k) c=false∧env 1000000=.dfr []∧env 0=.int .i64 c∧env 7=.sval f (T.map sw)∧env 8=.int .i64 T.length∧env 9=.int .i64 (k:Int)∧S'=S) (fun k=>T.length - k) 0 ?_ ?_
 ·exact⟨bf _,by simp [qL],ss,ss,ss,ss,ss,rfl⟩
 ·rintro k env S' ⟨hk,hp,e0,f0,f7,f8,f9,rfl⟩ IH
  have HI:=ab IH
  have H:=ab h
  clear IH h
  by_cases hlt:k<T.length
  ·obtain⟨⟨a,b⟩,hx⟩:∃ x,T[k]? = some x:=⟨_,al hlt⟩
   have h1:decide ((k:Int)<(T.length:Int))=true:=by simpa using hlt
   have hw:ae.wrap ((k:Int)+1)=((k+1:Nat):Int):=by rw [ah _ (by omega)];omega
   have Hlt:=ab (a6 hlt hp)
   clear hk hp hlt
   cases d1:decide (a≤c)<;>cases d2:decide (c≤b)
   ·have Hn:=ab (oI hx Hlt.out.2 (by simp only;rw [d1,d2];rfl))
    repeat' first|refine st ?_|(refine br ?_ ?_<;>intro hb)|fail
    refine cw hO 0 [0,7,8,9] rfl ss ss ss ?_
    simp only [aP,aG]
    refine HI.out (k+1) _ _ (by have:=Hlt.out.1;omega) ⟨Hlt.out.1,Hn.out, ?_, ?_, ?_, ?_, ?_,rfl⟩
    all_goals (simp only [go_sem, *];try rfl)
   ·have Hn:=ab (oI hx Hlt.out.2 (by simp only;rw [d1,d2];rfl))
    repeat' first|refine st ?_|(refine br ?_ ?_<;>intro hb)|fail
    refine cw hO 0 [0,7,8,9] rfl ss ss ss ?_
    simp only [aP,aG]
    refine HI.out (k+1) _ _ (by have:=Hlt.out.1;omega) ⟨Hlt.out.1,Hn.out, ?_, ?_, ?_, ?_, ?_,rfl⟩
    all_goals (simp only [go_sem, *];try rfl)
   ·have Hn:=ab (oI hx Hlt.out.2 (by simp only;rw [d1,d2];rfl))
    repeat' first|refine st ?_|(refine br ?_ ?_<;>intro hb)|fail
    refine cw hO 0 [0,7,8,9] rfl ss ss ss ?_
    simp only [aP,aG]
    refine HI.out (k+1) _ _ (by have:=Hlt.out.1;omega) ⟨Hlt.out.1,Hn.out, ?_, ?_, ?_, ?_, ?_,rfl⟩
    all_goals (simp only [go_sem, *];try rfl)
   ·have hh:=H.out
    rw [show qL T c=true from pZ hx (by simp only;rw [d1,d2];rfl)] at hh
    repeat' first|refine st ?_|(refine br ?_ ?_<;>intro hb)|fail
    refine fR results46 ?_
    exact hh
  ·have h1:decide ((k:Int)<(T.length:Int))=false:=by simpa using hlt
   have hk':k=T.length:=by omega
   rw [hk',bt] at hp
   have hh:=H.out
   rw [hp] at hh
   clear hlt hk hk' HI hp
   repeat' first|refine st ?_|(refine br ?_ ?_<;>intro hb)|fail
   refine fR results46 ?_
   exact hh
def ig:List (Int × Int):=[(768,879),(1155,1161),(1425,1469),(1552,1562),(1611,1631),(6832,6911),(7616,7679),(8203,8207),(8400,8447),(65024,65039),(65056,65071)]
def jO:List (Int × Int):=[(4352,4447),(11904,12350),(12353,19903),(19968,42191),(44032,55203),(63744,64255),(65072,65135),(65280,65376),(65504,65510),(127744,128591),(128640,128767),(129280,129535),(131072,262141)]
def B4:List (Int × Int):=[(4352,4447),(11904,12350),(12353,13311),(13312,19903),(19968,40959),(40960,42191),(44032,55203),(63744,64255),(65072,65135),(65280,65376),(65504,65510),(127744,128591),(128640,128767),(129280,129535),(131072,262141)]
def iX(c:Int):Int:=if !(decide (0≤c)&&sG c.toNat)||(decide (c<32)||(decide (127≤c)&&decide (c<160))) then -1 else if qL ig c then 0 else if qL jO c then 2 else 1
theorem Ah(c:Int):qL B4 c=qL jO c:=by
 rw [eB]
 simp only [qL,B4,jO,fH,fY,eF,ao,decide_eq_true_eq,fu,cg,or_false]
 omega
theorem Gx(c:Int)(h:0≤c):qL [(0,31),(127,159)] c=(decide (c<32)||(decide (127≤c)&&decide (c<160))):=by
 rw [eB]
 simp only [qL,fH,fY,eF,ao,decide_eq_true_eq,fu,cg,or_false]
 omega
theorem xq(c:Int)(h:c<768):qL ig c=false∧qL jO c=false:=by
 constructor<;>rw [sF] <;>
 ·simp only [qL,ig,jO,fH,fY,ne_eq,eF,ao,decide_eq_true_eq,fu,cg,or_false]
  omega
theorem EB(c:Int)(R:Rt)(h:R (.ret (.bool (decide (0≤c)&&sG c.toNat))) S):aj prog w0 45 [.int .i64 c] S R:=by
 by_cases c0:0≤c
 ·obtain⟨n,rfl⟩:∃ n:Nat,c=n:=⟨c.toNat,by omega⟩
  rw [decide_eq_true c0,bL,Int.toNat_natCast] at h
  exact B3 w0 S n R h
 ·have d0:decide (0≤c)=false:=decide_eq_false c0
  rw [d0,bK] at h
  clear c0
  refine eN func45 rfl ntmps45 fun hO=>?_
  repeat' first|refine st ?_|(refine br ?_ ?_<;>intro hb)|fail
  refine fR results45 ?_
  exact h
def lA(w0:World):Prop:=gl w0 0=.pro (en (ig.map sw))
def ly(w0:World):Prop:=gl w0 1=.pro (en (jO.map sw))
theorem vB{T:List (Int × Int)}:∀ y∈T.map sw,y.cells.length=2:=by
 intro y hy
 obtain⟨p,_,rfl⟩:=aM.1 hy
 rfl
theorem PN(w0:World)(hM:lA w0)(hW:ly w0)(S:List aH)(c:Int)(R:Rt)(h:R (.ret (.int .i64 (iX c))) S):aj prog w0 25 [.int .i64 c] S R:=by
 have hu:=fun S'=>EB w0 S' c
 have hc:=fun S'=>LX w0 S' false c [(0,31),(127,159)] (by decide)
 have hm:=fun S'=>LX w0 S' false c ig (by decide)
 have hw:=fun S'=>LX w0 S' false c jO (by decide)
 unfold lA at hM
 unfold ly at hW
 unfold iX at h
 simp only [ap,aq,sw] at hc
 have hM1:gl w0 0=.pro (.int .i64 768::(en (ig.map sw)).drop 1):=by rw [hM];rfl
 cases hk:decide (0≤c)&&sG c.toNat with
 | false =>
  rw [hk] at h hu
  clear hm hw hc hM hW hM1 hk
  refine eN func25 rfl ntmps25 fun hO=>?_
  repeat' first|refine st ?_|(refine ca ?_;apply hu)|(refine br ?_ ?_<;>intro hb)|fail
  refine fR results25 ?_
  exact h
 | true =>
  have h0:0≤c:=by
   have:=(ao _ _▸hk).1
   simpa using this
  rw [Gx c h0] at hc
  rw [hk] at h hu
  simp only [b9,vH] at h
  cases hi:decide (c<32)||(decide (127≤c)&&decide (c<160)) with
  | true =>
   rw [hi] at h hc
   clear hm hw hM hW hM1 hk hi h0
   refine eN func25 rfl ntmps25 fun hO=>?_
   repeat' first|refine st ?_|(refine ca ?_;first|apply hu|apply hc)|(apply cZ [S.length];(· simp only [go_sem, *];try rfl);(· rfl);(· simp only [go_sem, *];try rfl);(· rfl);(iterate 2 (· simp only [go_sem, *];try rfl));first|apply hu|apply hc)|(refine br ?_ ?_<;>intro hb)|fail
   refine fR results25 ?_
   exact h
  | false =>
   rw [hi] at h hc
   simp only [cg,if_false] at h
   by_cases h7:c<768
   ·obtain⟨b1,b2⟩:=xq c h7
    rw [b1,b2] at h
    have d7:decide (c<768)=true:=decide_eq_true h7
    clear hm hw hM hW hk hi h0 h7 b1 b2
    refine eN func25 rfl ntmps25 fun hO=>?_
    repeat' first|refine st ?_|(refine ca ?_;first|apply hu|apply hc)|(apply cZ [S.length];(· simp only [go_sem, *];try rfl);(· rfl);(· simp only [go_sem, *];try rfl);(· rfl);(iterate 2 (· simp only [go_sem, *];try rfl));first|apply hu|apply hc)|(refine br ?_ ?_<;>intro hb)|fail
    refine fR results25 ?_
    exact h
   ·have d7:decide (c<768)=false:=decide_eq_false h7
    clear hk hi h0 h7
    cases hi1:qL ig c with
    | true =>
     rw [hi1] at h hm
     have HM:=ab hM
     clear hw hM hW hi1
     refine eN func25 rfl ntmps25 fun hO=>?_
     repeat' first|refine st ?_|(refine ca ?_;first|apply hu|apply hc)|(apply cZ [S.length];(· simp only [go_sem, *];try rfl);(· rfl);(· simp only [go_sem, *];try rfl);(· rfl);(iterate 2 (· simp only [go_sem, *];try rfl));first|apply hu|apply hc)|(refine br ?_ ?_<;>intro hb)|fail
     have hM:=HM.out
     clear hM1
     refine qV (els:=ig.map sw) ss rfl xO xQ hM (by decide) vB ss ?_
     clear hM
     repeat' first|refine st ?_|(refine ca ?_;apply hm)|(refine br ?_ ?_<;>intro hb)|fail
     refine fR results25 ?_
     exact h
    | false =>
     rw [hi1] at h hm
     have HM:=ab hM
     have HW:=ab hW
     clear hM hW hi1
     refine eN func25 rfl ntmps25 fun hO=>?_
     repeat' first|refine st ?_|(refine ca ?_;first|apply hu|apply hc)|(apply cZ [S.length];(· simp only [go_sem, *];try rfl);(· rfl);(· simp only [go_sem, *];try rfl);(· rfl);(iterate 2 (· simp only [go_sem, *];try rfl));first|apply hu|apply hc)|(refine br ?_ ?_<;>intro hb)|fail
     have hM:=HM.out
     clear hM1
     refine qV (els:=ig.map sw) ss rfl xO xQ hM (by decide) vB ss ?_
     clear hM
     repeat' first|refine st ?_|(refine ca ?_;apply hm)|(refine br ?_ ?_<;>intro hb)|fail
     have hW:=HW.out
     refine qV (els:=jO.map sw) ss rfl BZ xQ hW (by decide) vB ss ?_
     clear hW
     cases hi2:qL jO c<;>rw [hi2] at h hw<;>clear hi2
     all_goals
      repeat' first|refine st ?_|(refine ca ?_;apply hw)|(refine br ?_ ?_<;>intro hb)|fail
      refine fR results25 ?_
      exact h
theorem OD(c:Int)(T:List (Int × Int))(hT:T.length≤1000000)(R:Rt)(h:R (.ret (.bool (qL T c))) S):aj prog w0 182 [.sval false (T.map sw),.int .i64 c] S R:=by
 refine eN func182 rfl ntmps182 fun hO=>?_
 repeat' first|refine st ?_|(refine br ?_ ?_<;>intro hb)|fail
 refine cW (fun (k:Nat) env S'=>k≤T.length∧qL (T.take k) c=false∧env 1000000=.dfr []∧env 0=.sval false (T.map sw)∧env 1=.int .i64 c∧env 5=.int .i64 (k:Int)∧S'=S) (fun k=>T.length - k) 0 ?_ ?_
 ·exact⟨bf _,by simp [qL],ss,ss,ss,ss,rfl⟩
 ·rintro k env S' ⟨hk,hp,e0,f0,f1,f5,rfl⟩ IH
  have HI:=ab IH
  have H:=ab h
  clear IH h
  by_cases hlt:k<T.length
  ·obtain⟨⟨a,b⟩,hx⟩:∃ x,T[k]? = some x:=⟨_,al hlt⟩
   have h1:decide ((k:Int)<(T.length:Int))=true:=by simpa using hlt
   have hw:ae.wrap ((k:Int)+1)=((k+1:Nat):Int):=by rw [ah _ (by omega)];omega
   have Hlt:=ab (a6 hlt hp)
   clear hk hp hlt
   by_cases hab:(decide (a≤c)&&decide (c≤b))=true
   ·have hh:=H.out
    rw [show qL T c=true from pZ hx hab] at hh
    rw [ao] at hab
    obtain⟨d1,d2⟩:=hab
    repeat' first|refine st ?_|(refine br ?_ ?_<;>intro hb)|fail
    refine fR results182 ?_
    exact hh
   ·have Hn:=ab (oI hx Hlt.out.2 (by simpa using hab))
    cases d1:decide (a≤c)<;>cases d2:decide (c≤b)
    case neg.true.true=>rw [d1,d2] at hab;exact absurd rfl hab
    all_goals
     clear hab
     repeat' first|refine st ?_|(refine br ?_ ?_<;>intro hb)|fail
     refine HI.out (k+1) _ _ (by have:=Hlt.out.1;omega) ⟨Hlt.out.1,Hn.out, ?_, ?_, ?_, ?_,rfl⟩
     all_goals (simp only [go_sem, *];try rfl)
  ·have h1:decide ((k:Int)<(T.length:Int))=false:=by simpa using hlt
   have hk':k=T.length:=by omega
   rw [hk',bt] at hp
   have hh:=H.out
   rw [hp] at hh
   clear hlt hk hk' HI hp
   repeat' first|refine st ?_|(refine br ?_ ?_<;>intro hb)|fail
   refine fR results182 ?_
   exact hh
theorem Kv(R:Rt)(h:R (.ret (.sval false (ig.map sw))) S):aj prog w0 183 [] S R:=by
 simp only [ig,ap,aq,sw] at h
 refine eN func183 rfl ntmps183 fun hO=>?_
 repeat' first|refine st ?_|(refine br ?_ ?_<;>intro hb)|fail
 refine fR results183 ?_
 exact h
theorem Mb(R:Rt)(h:R (.ret (.sval false (B4.map sw))) S):aj prog w0 184 [] S R:=by
 simp only [B4,ap,aq,sw] at h
 refine eN func184 rfl ntmps184 fun hO=>?_
 repeat' first|refine st ?_|(refine br ?_ ?_<;>intro hb)|fail
 refine fR results184 ?_
 exact h
theorem PO(c:Int)(R:Rt)(h:R (.ret (.int .i64 (iX c))) S):aj prog w0 94 [.int .i64 c] S R:=by
 have hu:=fun S'=>Fo w0 S' c
 have hm:=fun S'=>OD w0 S' c ig (by decide)
 have hw:=fun S'=>OD w0 S' c B4 (by decide)
 have hz:=Kv w0
 have ht:=Mb w0
 rw [Ah] at hw
 unfold iX at h
 generalize (decide (0≤c)&&sG c.toNat)=b at h hu
 cases b
 ·clear hm hw hz ht
  refine eN func94 rfl ntmps94 fun hO=>?_
  repeat' first|refine st ?_|(refine ca ?_;apply hu)|(refine br ?_ ?_<;>intro hb)|fail
  refine fR results94 ?_
  exact h
 simp only [b9,vH] at h
 cases d1:decide (c<32)<;>rw [d1] at h
 case true =>
  clear hm hw hz ht
  refine eN func94 rfl ntmps94 fun hO=>?_
  repeat' first|refine st ?_|(refine ca ?_;apply hu)|(refine br ?_ ?_<;>intro hb)|fail
  refine fR results94 ?_
  exact h
 simp only [vH] at h
 cases d2:decide (127≤c)<;>cases d3:decide (c<160)<;>rw [d2,d3] at h
 case true.true =>
  clear hm hw hz ht
  refine eN func94 rfl ntmps94 fun hO=>?_
  repeat' first|refine st ?_|(refine ca ?_;apply hu)|(refine br ?_ ?_<;>intro hb)|fail
  refine fR results94 ?_
  exact h
 all_goals
  simp only [cu,b_,bL,bK,cg,if_false] at h
  generalize qL ig c=z1 at h hm
  generalize qL jO c=z2 at h hw
  cases z1<;>cases z2
  all_goals
   refine eN func94 rfl ntmps94 fun hO=>?_
   repeat' first|refine st ?_|(refine ca ?_;first|apply hu|apply hm|apply hw|apply hz|apply ht)|(refine br ?_ ?_<;>intro hb)|fail
   refine fR results94 ?_
   exact h
def KJ(v:Nat):Nat:=(ba 8).foldl (fun s i=>s+v / 2 ^ i % 2) 0
theorem FV(v:Nat)(hv:v<256)(R:Rt)(h:R (.ret (.int .i64 (KJ v))) S):aj prog w0 227 [.int .u64 v] S R:=by
 refine eN func227 rfl ntmps227 fun hO=>?_
 repeat' first|refine st ?_|(refine br ?_ ?_<;>intro hb)|fail
 refine fR results227 ?_
 refine(congrArg (fun z=>R (.ret (.int .i64 z)) S) (?_:_=((KJ v:Nat):Int))).mpr h
 clear h hO
 revert v
 decide +kernel
theorem KV(v:Nat)(hv:v<256)(R:Rt)(h:R (.ret (.int .i64 (KJ v))) S):aj prog w0 185 [.int .u64 v] S R:=by
 have h1:=fun S'=>FV w0 S' v hv
 clear hv
 refine eN func185 rfl ntmps185 fun hO=>?_
 repeat' first|refine st ?_|(refine ca ?_;apply h1)|(refine br ?_ ?_<;>intro hb)|fail
 refine fR results185 ?_
 exact h
def Ke(m:Int):Prop:=-9223372036854775808≤m∧m≤9223372036854775807
theorem DV{x:BitVec 64}{c:Nat}(hc:c<256):(x &&& ~~~(pn 64 255))=0#64↔x.toNat<256:=by
 constructor
 ·intro h
  refine Nat.lt_pow_two_of_testBit (n:=8) x.toNat fun i hi=>?_
  by_cases h64:i<64
  ·have:=congrArg (fun y=>y.getLsbD i) h
   simp only [z_,z8,h64,decide_true,bL,xJ,y6] at this
   have h2:Bw 255 i=false:=mH (lB (by decide) (gw (by decide) hi))
   rw [h2] at this
   simpa [BitVec.getLsbD] using this
  ·exact mH (lB x.isLt (gw (by decide) (by omega)))
 ·intro h
  apply BitVec.eq_of_getLsbD_eq
  intro i hi
  simp only [z_,z8,hi,decide_true,bL,xJ,y6]
  by_cases h8:i<8
  ·have:Bw 255 i=true:=by
    have:∀ j,j<8→Bw 255 j=true:=by decide
    exact this i h8
   rw [this];simp
  ·have:x.getLsbD i=false:=mH (lB h (gw (n:=2) (i:=8) (by decide) (by omega)))
   rw [this];simp
theorem sK(m:Int):((ar 64 m).toNat:Int)=m % 18446744073709551616:=by
 rw [cA]
 have:(0:Int)≤m % ((2 ^ 64:Nat):Int):=Int.emod_nonneg _ (by decide)
 rw [Int.toNat_of_nonneg this];rfl
theorem Ad(n:Nat)(h:n<18446744073709551616):(ae.wrap (n:Int)==0)=(n==0):=by
 rw [eB,IntKind.wrap_i64]
 simp only [beq_iff_eq]
 omega
theorem xx{m:Int}(h:Ke m):(ae.wrap ((((ar ae.bits m &&& ~~~ ar ae.bits 255).toNat:Nat):Int))==0)=(decide (0≤m)&&decide (m≤255)):=by
 obtain⟨h1,h2⟩:=h
 show (ae.wrap ((((ar 64 m &&& ~~~ pn 64 255).toNat:Nat):Int))==0)=_
 rw [Ad _ (BitVec.isLt _)]
 have e:=DV (x:=ar 64 m) (c:=0) (by decide)
 have t:=sK m
 rw [eB]
 simp only [beq_iff_eq,ao,decide_eq_true_eq]
 rw [show ((ar 64 m &&& ~~~ pn 64 255).toNat=0)↔(ar 64 m &&& ~~~ pn 64 255)=0#64 from ⟨fun e=>BitVec.eq_of_toNat_eq e,fun e=>by rw [e];rfl⟩,e]
 omega
def pE(m:Int):Bool:=m==1||(m==2||(m==4||(m==8||(m==16||(m==32||(m==64||m==128))))))
theorem I3:∀ v:Nat,v<256→(((KJ v:Nat):Int)==1)=pE v:=by decide +kernel
theorem Kp(m:Int)(hm:Ke m)(R:Rt)(h:R (.ret (.bool (pE m))) S):aj prog w0 100 [.int .i64 m] S R:=by
 have e:=xx hm
 simp only [bh] at e
 by_cases hr:0≤m∧m≤255
 ·obtain⟨v,rfl⟩:∃ v:Nat,m=v:=⟨m.toNat,by omega⟩
  have hv:v<256:=by omega
  rw [decide_eq_true hr.1,decide_eq_true hr.2,cu] at e
  have h1:=fun S'=>KV w0 S' v hv
  have hw:aR.wrap (v:Int)=(v:Int):=by simp only [IntKind.wrap,IntKind.signed,bh];simp;omega
  have h2:=I3 v hv
  generalize pE v=b at h h2
  generalize KJ v=p at h1 h2
  clear hr hv hm
  refine eN func100 rfl ntmps100 fun hO=>?_
  repeat' first|refine st ?_|(refine ca ?_;apply h1)|(refine br ?_ ?_<;>intro hb)|fail
  refine fR results100 ?_
  exact h
 ·have h3:pE m=false:=by
   unfold pE
   simp only [ct,beq_eq_false_iff_ne]
   omega
  have h4:(decide (0≤m)&&decide (m≤255))=false:=by simpa using hr
  rw [h4] at e
  rw [h3] at h
  clear hr h3 h4 hm
  refine eN func100 rfl ntmps100 fun hO=>?_
  repeat' first|refine st ?_|(refine br ?_ ?_<;>intro hb)|fail
  refine fR results100 ?_
  exact h
theorem Km(m:Int)(R:Rt)(h:R (.ret (.bool (m==0))) S):aj prog w0 97 [.int .i64 m] S R:=by
 refine eN func97 rfl ntmps97 fun hO=>?_
 repeat' first|refine st ?_|(refine br ?_ ?_<;>intro hb)|fail
 refine fR results97 ?_
 exact h
def sW(m:Int):Bool:=m==3||(pE m&&(m != 1&&m != 2))
theorem AJ{m:Int}(h:pE m=true):m=1∨m=2∨m=4∨m=8∨m=16∨m=32∨m=64∨m=128:=by
 unfold pE at h
 simpa using h
theorem ME{m:Int}(h:pE m=true):(ae.wrap ((((ar ae.bits m &&& ar ae.bits 3).toNat:Nat):Int))==0)=(m != 1&&m != 2):=by
 rcases AJ h with rfl|rfl|rfl|rfl|rfl|rfl|rfl|rfl<;>decide
theorem L8(m:Int)(hm:Ke m)(R:Rt)(h:R (.ret (.bool (sW m))) S):aj prog w0 102 [.int .i64 m] S R:=by
 have h1:=fun S'=>Kp w0 S' m hm
 unfold sW at h
 cases d3:m==3<;>rw [d3] at h
 ·cases d1:pE m
  ·rw [d1] at h h1
   clear hm d1
   refine eN func102 rfl ntmps102 fun hO=>?_
   repeat' first|refine st ?_|(refine ca ?_;apply h1)|(refine br ?_ ?_<;>intro hb)|fail
   refine fR results102 ?_
   exact h
  ·have e:=ME d1
   simp only [bh] at e
   rw [d1] at h h1
   clear hm d1
   refine eN func102 rfl ntmps102 fun hO=>?_
   repeat' first|refine st ?_|(refine ca ?_;apply h1)|(refine br ?_ ?_<;>intro hb)|fail
   refine fR results102 ?_
   simpa using h
 ·clear hm h1
  refine eN func102 rfl ntmps102 fun hO=>?_
  repeat' first|refine st ?_|(refine br ?_ ?_<;>intro hb)|fail
  refine fR results102 ?_
  exact h
theorem Iz(m:Int)(R:Rt)(h:R (.ret (.bool (decide (0≤m)&&decide (m≤5)))) S):aj prog w0 104 [.int .i64 m] S R:=by
 cases d:decide (0≤m)<;>rw [d] at h
 all_goals
  refine eN func104 rfl ntmps104 fun hO=>?_
  repeat' first|refine st ?_|(refine br ?_ ?_<;>intro hb)|fail
  refine fR results104 ?_
  first|exact h|(simpa using h)
def xG(f:FuncId):AV:=.fn (.func f) [] []
def mA(g:FuncId):AV:=.agg [xG 97,.bool true,.fn (.func 98) [] [.pro [xG g]]]
theorem Fg(g:FuncId)(R:Rt)(h:R (.ret (mA g)) S):aj prog w0 96 [xG g] S R:=by
 unfold mA xG at h
 unfold xG
 refine eN func96 rfl ntmps96 fun hO=>?_
 repeat' first|refine st ?_|(refine br ?_ ?_<;>intro hb)|fail
 refine fR results96 ?_
 exact h
def C1:List (AV × AV):=[(.int .i64 0,.agg [xG 97,.bool false,xG 99]),(.int .i64 1,.agg [xG 100,.bool false,xG 101]),(.int .i64 2,.agg [xG 102,.bool false,xG 103]),
 (.int .i64 3,.agg [xG 104,.bool false,xG 105]),(.int .i64 4,mA 106),(.int .i64 5,mA 107),(.int .i64 6,mA 108)]
theorem Ko(R:Rt)(h:R (.ret (.mval C1)) S):aj prog w0 47 [] S R:=by
 have hc:=Fg w0
 unfold mA xG at hc
 unfold C1 mA xG at h
 refine eN func47 rfl ntmps47 fun hO=>?_
 repeat' first|refine st ?_|(refine ca ?_;apply hc)|(refine br ?_ ?_<;>intro hb)|fail
 refine fR results47 ?_
 exact h
def d_(ck cn:Int):Bool:=ck==0&&cn==0
def uj(m:Int):Bool:=decide (0≤m)&&decide (m≤5)
def lg(n m ck cn:Int):Bool :=
 if n=0 then m==0&&d_ ck cn else if n=1 then pE m&&d_ ck cn else if n=2 then sW m&&d_ ck cn else if n=3 then uj m&&d_ ck cn
 else if n=4∨n=5∨n=6 then m==0&&jh ck cn else false
def qf(a:Ac):Bool:=a.kind==39&&(a.text==[]&&lg a.n a.m a.ck a.cn)
theorem kz:jh 0 0=true:=by decide
theorem rx(n:Int):(n=0∨n=1∨n=2∨n=3∨n=4∨n=5∨n=6)∨((n==0)=false∧(n==1)=false∧(n==2)=false∧(n==3)=false∧(n==4)=false∧(n==5)=false∧(n==6)=false):=by
 simp only [beq_eq_false_iff_ne]
 omega
theorem Ax(a:Ac)(hm:Ke a.m)(R:Rt)(h:R (.ret (.int .i64 (if qf a then 0 else 141))) S):aj prog w0 27 [a.av] S R:=by
 obtain⟨k,n,m,ck,cn,t⟩:=a
 have hp:=Ko w0
 unfold C1 mA xG at hp
 have z1:=fun S'=>Km w0 S' m
 have z2:=fun S'=>Kp w0 S' m hm
 have z3:=fun S'=>L8 w0 S' m hm
 have z4:=fun S'=>Iz w0 S' m
 have hc:=fun S'=>hH w0 S' ck cn
 unfold qf at h
 unfold Ac.av
 simp only at h ⊢ hm
 clear hm
 rw [show (decide (0≤m)&&decide (m≤5))=uj m from rfl] at z4
 rcases rx n with(rfl|rfl|rfl|rfl|rfl|rfl|rfl)|⟨c0,c1,c2,c3,c4,c5,c6⟩
 ·clear z2 z3 z4
  refine eN func27 rfl ntmps27 fun hO=>?_
  refine share ?K1 ?hK1 fun key1=>?main1
  case main1 =>
   repeat' ((fail_if_success (apply cq 2));first|refine st ?_|(refine ca ?_;apply hp)|(refine br ?_ ?_<;>intro hb)|refine sd ?_|apply au|(apply aF;(· decide +kernel))|refine bd ?_ ?_|(refine cd ?_;apply hp)|fail)
   all_goals
    refine gM [1000000,1,3,4] ?_
    simp only [eS,go_sem]
    exact key1
  case hK1 =>
   rintro env ⟨e0,e1,e3,e4⟩
   repeat' first|refine st ?_|(refine ca ?_;first|apply z1|apply hc)|(refine br ?_ ?_<;>intro hb)|fail
   all_goals refine fR results27 ?_
   all_goals
    refine(congrArg (fun z=>R (.ret (.int .i64 z)) S) (?_:_=_)).mpr h
    clear h hp z1 hc hO e0 e1 e3 e4
    simp_all [lg,d_,kz]
 ·clear z1 z3 z4
  refine eN func27 rfl ntmps27 fun hO=>?_
  refine share ?K2 ?hK2 fun key1=>?main2
  case main2 =>
   repeat' ((fail_if_success (apply cq 2));first|refine st ?_|(refine ca ?_;apply hp)|(refine br ?_ ?_<;>intro hb)|refine sd ?_|apply au|(apply aF;(· decide +kernel))|refine bd ?_ ?_|(refine cd ?_;apply hp)|fail)
   all_goals
    refine gM [1000000,1,3,4] ?_
    simp only [eS,go_sem]
    exact key1
  case hK2 =>
   rintro env ⟨e0,e1,e3,e4⟩
   repeat' first|refine st ?_|(refine ca ?_;first|apply z2|apply hc)|(refine br ?_ ?_<;>intro hb)|fail
   all_goals refine fR results27 ?_
   all_goals
    refine(congrArg (fun z=>R (.ret (.int .i64 z)) S) (?_:_=_)).mpr h
    clear h hp z2 hc hO e0 e1 e3 e4
    simp_all [lg,d_,kz]
 ·clear z1 z2 z4
  refine eN func27 rfl ntmps27 fun hO=>?_
  refine share ?K3 ?hK3 fun key1=>?main3
  case main3 =>
   repeat' ((fail_if_success (apply cq 2));first|refine st ?_|(refine ca ?_;apply hp)|(refine br ?_ ?_<;>intro hb)|refine sd ?_|apply au|(apply aF;(· decide +kernel))|refine bd ?_ ?_|(refine cd ?_;apply hp)|fail)
   all_goals
    refine gM [1000000,1,3,4] ?_
    simp only [eS,go_sem]
    exact key1
  case hK3 =>
   rintro env ⟨e0,e1,e3,e4⟩
   repeat' first|refine st ?_|(refine ca ?_;first|apply z3|apply hc)|(refine br ?_ ?_<;>intro hb)|fail
   all_goals refine fR results27 ?_
   all_goals
    refine(congrArg (fun z=>R (.ret (.int .i64 z)) S) (?_:_=_)).mpr h
    clear h hp z3 hc hO e0 e1 e3 e4
    simp_all [lg,d_,kz]
 ·clear z1 z2 z3
  refine eN func27 rfl ntmps27 fun hO=>?_
  refine share ?K4 ?hK4 fun key1=>?main4
  case main4 =>
   repeat' ((fail_if_success (apply cq 2));first|refine st ?_|(refine ca ?_;apply hp)|(refine br ?_ ?_<;>intro hb)|refine sd ?_|apply au|(apply aF;(· decide +kernel))|refine bd ?_ ?_|(refine cd ?_;apply hp)|fail)
   all_goals
    refine gM [1000000,1,3,4] ?_
    simp only [eS,go_sem]
    exact key1
  case hK4 =>
   rintro env ⟨e0,e1,e3,e4⟩
   repeat' first|refine st ?_|(refine ca ?_;first|apply z4|apply hc)|(refine br ?_ ?_<;>intro hb)|fail
   all_goals refine fR results27 ?_
   all_goals
    refine(congrArg (fun z=>R (.ret (.int .i64 z)) S) (?_:_=_)).mpr h
    clear h hp z4 hc hO e0 e1 e3 e4
    simp_all [lg,d_,kz]
 ·clear z2 z3 z4
  refine eN func27 rfl ntmps27 fun hO=>?_
  refine share ?K5 ?hK5 fun key1=>?main5
  case main5 =>
   repeat' ((fail_if_success (apply cq 2));first|refine st ?_|(refine ca ?_;apply hp)|(refine br ?_ ?_<;>intro hb)|refine sd ?_|apply au|(apply aF;(· decide +kernel))|refine bd ?_ ?_|(refine cd ?_;apply hp)|fail)
   all_goals
    refine gM [1000000,1,3,4] ?_
    simp only [eS,go_sem]
    exact key1
  case hK5 =>
   rintro env ⟨e0,e1,e3,e4⟩
   repeat' first|refine st ?_|(refine ca ?_;first|apply z1|apply hc)|(refine br ?_ ?_<;>intro hb)|fail
   all_goals refine fR results27 ?_
   all_goals
    refine(congrArg (fun z=>R (.ret (.int .i64 z)) S) (?_:_=_)).mpr h
    clear h hp z1 hc hO e0 e1 e3 e4
    simp_all [lg,d_,kz]
 ·clear z2 z3 z4
  refine eN func27 rfl ntmps27 fun hO=>?_
  refine share ?K6 ?hK6 fun key1=>?main6
  case main6 =>
   repeat' ((fail_if_success (apply cq 2));first|refine st ?_|(refine ca ?_;apply hp)|(refine br ?_ ?_<;>intro hb)|refine sd ?_|apply au|(apply aF;(· decide +kernel))|refine bd ?_ ?_|(refine cd ?_;apply hp)|fail)
   all_goals
    refine gM [1000000,1,3,4] ?_
    simp only [eS,go_sem]
    exact key1
  case hK6 =>
   rintro env ⟨e0,e1,e3,e4⟩
   repeat' first|refine st ?_|(refine ca ?_;first|apply z1|apply hc)|(refine br ?_ ?_<;>intro hb)|fail
   all_goals refine fR results27 ?_
   all_goals
    refine(congrArg (fun z=>R (.ret (.int .i64 z)) S) (?_:_=_)).mpr h
    clear h hp z1 hc hO e0 e1 e3 e4
    simp_all [lg,d_,kz]
 ·clear z2 z3 z4
  refine eN func27 rfl ntmps27 fun hO=>?_
  refine share ?K7 ?hK7 fun key1=>?main7
  case main7 =>
   repeat' ((fail_if_success (apply cq 2));first|refine st ?_|(refine ca ?_;apply hp)|(refine br ?_ ?_<;>intro hb)|refine sd ?_|apply au|(apply aF;(· decide +kernel))|refine bd ?_ ?_|(refine cd ?_;apply hp)|fail)
   all_goals
    refine gM [1000000,1,3,4] ?_
    simp only [eS,go_sem]
    exact key1
  case hK7 =>
   rintro env ⟨e0,e1,e3,e4⟩
   repeat' first|refine st ?_|(refine ca ?_;first|apply z1|apply hc)|(refine br ?_ ?_<;>intro hb)|fail
   all_goals refine fR results27 ?_
   all_goals
    refine(congrArg (fun z=>R (.ret (.int .i64 z)) S) (?_:_=_)).mpr h
    clear h hp z1 hc hO e0 e1 e3 e4
    simp_all [lg,d_,kz]
 ·have hn:lg n m ck cn=false:=by
   simp only [beq_eq_false_iff_ne] at c0 c1 c2 c3 c4 c5 c6
   simp [lg,c0,c1,c2,c3,c4,c5,c6]
  rw [hn] at h
  clear z1 z2 z3 z4 hc hn
  refine eN func27 rfl ntmps27 fun hO=>?_
  repeat' first|refine st ?_|(refine ca ?_;apply hp)|(refine br ?_ ?_<;>intro hb)|refine sd ?_|apply au|(apply aF;(· decide +kernel))|refine bd ?_ ?_|(refine cd ?_;apply hp)|fail
  all_goals refine fR results27 ?_
  all_goals simpa using h
theorem DQ(k n:Int):jh k n=true↔(k=0∧n=0)∨(k=1∧0≤n∧n≤255)∨(k=2∧0≤n∧n≤16777215):=by
 unfold jh wI
 simp only [ao,decide_eq_true_eq]
 constructor
 ·rintro⟨⟨a,b⟩,c,d⟩
  split at d
  ·omega
  ·split at d<;>omega
 ·rintro(⟨rfl,rfl⟩|⟨rfl,a,b⟩|⟨rfl,a,b⟩)
  ·simp
  ·simp;omega
  ·simp;omega
theorem KA(k n:Int)(R:Rt)(h:R (.ret (.int .i64 (if jh k n then 0 else 130))) S):aj prog w0 89 [.agg [.int .i64 k,.int .i64 n]] S R:=by
 refine eN func89 rfl ntmps89 fun hO=>?_
 repeat' first|refine st ?_|(refine br ?_ ?_<;>intro hb)|fail
 all_goals refine fR results89 ?_
 all_goals
  refine(congrArg (fun z=>R (.ret (.int .i64 z)) S) (?_:_=_)).mpr h
  clear h hO
  have hq:=DQ k n
  simp only [beq_iff_eq,beq_eq_false_iff_ne,decide_eq_true_eq,decide_eq_false_iff_not,ao,gp] at *
  first
  | rw [if_pos (hq.2 (by omega))]
  | rw [if_neg (fun e=>by have:=hq.1 e;omega)]
theorem KB(m:Int)(R:Rt)(h:R (.ret (.bool (pE m))) S):aj prog w0 88 [.int .i64 m] S R:=by
 refine eN func88 rfl ntmps88 fun hO=>?_
 repeat' first|refine st ?_|(refine br ?_ ?_<;>intro hb)|apply cT|apply fZ|fail
 all_goals refine fR results88 ?_
 all_goals
  refine(congrArg (fun z=>R (.ret (.bool z)) S) (?_:_=_)).mpr h
  clear h hO
  simp_all [pE]
theorem AB(a:Ac)(R:Rt)(h:R (.ret (.int .i64 (if qf a then 0 else 141))) S):aj prog w0 42 [a.av] S R:=by
 obtain⟨k,n,m,ck,cn,t⟩:=a
 have z2:=fun S'=>KB w0 S' m
 have hc:=fun S'=>KA w0 S' ck cn
 unfold qf at h
 unfold Ac.av
 simp only at h ⊢
 rcases rx n with(rfl|rfl|rfl|rfl|rfl|rfl|rfl)|⟨c0,c1,c2,c3,c4,c5,c6⟩
 ·clear z2 hc
  refine eN func42 rfl ntmps42 fun hO=>?_
  repeat' first|refine st ?_|(refine br ?_ ?_<;>intro hb)|fail
  all_goals refine fR results42 ?_
  all_goals
   refine(congrArg (fun z=>R (.ret (.int .i64 z)) S) (?_:_=_)).mpr h
   clear h hO
   simp_all [lg,d_,kz,sW,uj]<;>(intros;omega)
 ·clear hc
  refine eN func42 rfl ntmps42 fun hO=>?_
  repeat' first|refine st ?_|(refine ca ?_;apply z2)|(refine br ?_ ?_<;>intro hb)|fail
  all_goals refine fR results42 ?_
  all_goals
   refine(congrArg (fun z=>R (.ret (.int .i64 z)) S) (?_:_=_)).mpr h
   clear h hO z2
   simp_all [lg,d_,kz,sW,uj]<;>(intros;omega)
 ·clear hc
  refine eN func42 rfl ntmps42 fun hO=>?_
  repeat' first|refine st ?_|(refine ca ?_;apply z2)|(refine br ?_ ?_<;>intro hb)|fail
  all_goals refine fR results42 ?_
  all_goals
   refine(congrArg (fun z=>R (.ret (.int .i64 z)) S) (?_:_=_)).mpr h
   clear h hO z2
   simp_all [lg,d_,kz,sW,uj]<;>(intros;omega)
 ·clear z2 hc
  refine eN func42 rfl ntmps42 fun hO=>?_
  repeat' first|refine st ?_|(refine br ?_ ?_<;>intro hb)|fail
  all_goals refine fR results42 ?_
  all_goals
   refine(congrArg (fun z=>R (.ret (.int .i64 z)) S) (?_:_=_)).mpr h
   clear h hO
   simp_all [lg,d_,kz,sW,uj]<;>(intros;omega)
 ·clear z2
  refine eN func42 rfl ntmps42 fun hO=>?_
  repeat' first|refine st ?_|(refine ca ?_;apply hc)|(refine br ?_ ?_<;>intro hb)|fail
  all_goals refine fR results42 ?_
  all_goals
   refine(congrArg (fun z=>R (.ret (.int .i64 z)) S) (?_:_=_)).mpr h
   clear h hO hc
   simp_all [lg,d_,kz,sW,uj]<;>(intros;omega)
 ·clear z2
  refine eN func42 rfl ntmps42 fun hO=>?_
  repeat' first|refine st ?_|(refine ca ?_;apply hc)|(refine br ?_ ?_<;>intro hb)|fail
  all_goals refine fR results42 ?_
  all_goals
   refine(congrArg (fun z=>R (.ret (.int .i64 z)) S) (?_:_=_)).mpr h
   clear h hO hc
   simp_all [lg,d_,kz,sW,uj]<;>(intros;omega)
 ·clear z2
  refine eN func42 rfl ntmps42 fun hO=>?_
  repeat' first|refine st ?_|(refine ca ?_;apply hc)|(refine br ?_ ?_<;>intro hb)|fail
  all_goals refine fR results42 ?_
  all_goals
   refine(congrArg (fun z=>R (.ret (.int .i64 z)) S) (?_:_=_)).mpr h
   clear h hO hc
   simp_all [lg,d_,kz,sW,uj]<;>(intros;omega)
 ·have hn:lg n m ck cn=false:=by
   simp only [beq_eq_false_iff_ne] at c0 c1 c2 c3 c4 c5 c6
   simp [lg,c0,c1,c2,c3,c4,c5,c6]
  rw [hn] at h
  clear z2 hc hn
  refine eN func42 rfl ntmps42 fun hO=>?_
  repeat' first|refine st ?_|(refine br ?_ ?_<;>intro hb)|fail
  all_goals refine fR results42 ?_
  all_goals simpa using h
end Go.Proofs.YthdbijpefkapnaaGreatDoor
