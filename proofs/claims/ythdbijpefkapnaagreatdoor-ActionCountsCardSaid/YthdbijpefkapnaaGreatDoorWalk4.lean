/- YthdbijpefkapnaaGreatDoorWalk4. Texts of the proof of a law about texts: a layer of abstract values above the worlds, the types, the walks of the functions that the law reaches, the law and its card. Own work of an AI agent. -/
import Derived.Test.YthdbijpefkapnaaGreatDoorWalk3
import Derived.Test.YthdbijpefkapnaaGreatDoorWalk0
import Derived.Test.YthdbijpefkapnaaGreatDoorCore3
import Derived.Shelf.Strings.Search1
import Derived.Test.YthdbijpefkapnaaGreatDoorShelf
import Derived.Shelf.Strings.Repeat
set_option linter.all false
set_option maxHeartbeats 40000000
open And renaming intro → cD
open BitVec renaming getLsbD_and → AJ, getLsbD_not → AH, getLsbD_ofNat → yn, getLsbD_zero → zM, ofInt → aD, ofNat → pM, toNat_and → EV, toNat_ofInt → cV, toNat_or → HT
open Bool renaming and_eq_false_iff → fm, and_eq_true → aB, and_true → dh, eq_iff_iff → dT, false_eq_true → du, not_eq_false' → aA, not_eq_true' → ax, or_eq_false_iff → cy, true_and → cA
open Function renaming comp_def → be
open Go.IntKind renaming bits → bz, i64 → ar, u64 → bc
open Go.IntWalk renaming i64_in → ay
open Go.Lib renaming hid → au, indexByte → dx, repeatL → oL
open Go.RowKit.Below renaming refl → l7
open Int renaming fdiv_eq_ediv_of_nonneg → zI
open List renaming all_map → bT, getElem?_append_left → aJ, getElem?_append_right → aM, getElem?_eq_getElem → aC, getElem?_eq_some_iff → aw, getElem?_map → aQ, getElem?_set_ne → cN, length → lz, length_append → ab, length_map → bB, length_pos_iff → mq, map → bS, map_append → co, map_cons → aG, map_nil → aL, range → bJ, replicate → bL, replicate_succ → mn, set_append_left → qS, set_append_right → ef, take → qR, take_add_one → pI, take_length → bQ, toList_toArray → aU
open Nat renaming and_two_pow_sub_one_eq_mod → zD, lt_of_lt_of_le → l8, mod_lt → fa, pow_le_pow_right → gx, testBit → Cc, testBit_lt_two_pow → nk, zero_le → bI
open UInt8 renaming toNat → aV
namespace Go.Proofs.YthdbijpefkapnaaGreatDoor
open Go Go.Fen
attribute [local irreducible] ba WP az dI ie cU aR cw
set_option maxRecDepth 8000
def Lw (v:Nat):Nat:=(bJ 8).foldl (fun s i=>s+v / 2 ^ i % 2) 0
theorem Gl (w0:World) (S:List aH) (v:Nat) (hv:v<256) (R:Rt) (h:R (.ret (.int .i64 (Lw v))) S):az Tryz.prog w0 227 [.int .u64 v] S R:=by
 refine eN Tryz.func227 rfl Tryz.ntmps227 fun hO=>?_
 repeat' first | refine st ?_ | (refine br ?_ ?_<;>intro hb) | fail
 refine fR Tryz.results227 ?_
 refine(congrArg (fun z=>R (.ret (.int .i64 z)) S) (?_:_=((Lw v:Nat):Int))).mpr h
 clear h hO
 revert v
 decide +kernel
theorem LL (w0:World) (S:List aH) (v:Nat) (hv:v<256) (R:Rt) (h:R (.ret (.int .i64 (Lw v))) S):az Tryz.prog w0 185 [.int .u64 v] S R:=by
 have h1:=fun S'=>Gl w0 S' v hv
 clear hv
 refine eN Tryz.func185 rfl Tryz.ntmps185 fun hO=>?_
 repeat' first | refine st ?_ | (refine ca ?_;apply h1) | (refine br ?_ ?_<;>intro hb) | fail
 refine fR Tryz.results185 ?_
 exact h
def uI (m:Int):Prop:=-9223372036854775808≤m∧m≤9223372036854775807
theorem Es {x:BitVec 64}{c:Nat} (hc:c<256):(x &&& ~~~(pM 64 255))=0#64↔x.toNat<256:=by
 constructor
 ·intro h
  refine Nat.lt_pow_two_of_testBit (n:=8) x.toNat fun i hi=>?_
  by_cases h64:i<64
  ·have:=congrArg (fun y=>y.getLsbD i) h
   simp only [AJ,AH,h64,decide_true,cA,yn,zM] at this
   have h2:Cc 255 i=false:=nk (l8 (by decide) (gx (by decide) hi))
   rw [h2] at this
   simpa [BitVec.getLsbD] using this
  ·exact nk (l8 x.isLt (gx (by decide) (by omega)))
 ·intro h
  apply BitVec.eq_of_getLsbD_eq
  intro i hi
  simp only [AJ,AH,hi,decide_true,cA,yn,zM]
  by_cases h8:i<8
  ·have:Cc 255 i=true:=by
    have:∀ j,j<8→Cc 255 j=true:=by decide
    exact this i h8
   rw [this];simp
  ·have:x.getLsbD i=false:=nk (l8 h (gx (n:=2) (i:=8) (by decide) (by omega)))
   rw [this];simp
theorem tD (m:Int):((aD 64 m).toNat:Int)=m % 18446744073709551616:=by
 rw [cV]
 have:(0:Int)≤m % ((2 ^ 64:Nat):Int):=Int.emod_nonneg _ (by decide)
 rw [Int.toNat_of_nonneg this];rfl
theorem AM (n:Nat) (h:n<18446744073709551616):(ar.wrap (n:Int)==0)=(n==0):=by
 rw [dT,IntKind.wrap_i64]
 simp only [beq_iff_eq]
 omega
theorem x8 {m:Int} (h:uI m):(ar.wrap ((((aD ar.bits m &&& ~~~ aD ar.bits 255).toNat:Nat):Int))==0)=(decide (0≤m)&&decide (m≤255)):=by
 obtain⟨h1,h2⟩:=h
 show (ar.wrap ((((aD 64 m &&& ~~~ pM 64 255).toNat:Nat):Int))==0)=_
 rw [AM _ (BitVec.isLt _)]
 have e:=Es (x:=aD 64 m) (c:=0) (by decide)
 have t:=tD m
 rw [dT]
 simp only [beq_iff_eq,aB,decide_eq_true_eq]
 rw [show ((aD 64 m &&& ~~~ pM 64 255).toNat=0)↔(aD 64 m &&& ~~~ pM 64 255)=0#64 from ⟨fun e=>BitVec.eq_of_toNat_eq e,fun e=>by rw [e];rfl⟩,e]
 omega
def n9 (m:Int):Bool:=m==1||(m==2||(m==4||(m==8||(m==16||(m==32||(m==64||m==128))))))
theorem JQ:∀ v:Nat,v<256→(((Lw v:Nat):Int)==1)=n9 v:=by decide +kernel
theorem Ld (w0:World) (S:List aH) (m:Int) (hm:uI m) (R:Rt) (h:R (.ret (.bool (n9 m))) S):az Tryz.prog w0 100 [.int .i64 m] S R:=by
 have e:=x8 hm
 simp only [bz] at e
 by_cases hr:0≤m∧m≤255
 ·obtain⟨v,rfl⟩:∃ v:Nat,m=v:=⟨m.toNat,by omega⟩
  have hv:v<256:=by omega
  rw [decide_eq_true hr.1,decide_eq_true hr.2,dh] at e
  have h1:=fun S'=>LL w0 S' v hv
  have hw:bc.wrap (v:Int)=(v:Int):=by simp only [IntKind.wrap,IntKind.signed,bz];simp;omega
  have h2:=JQ v hv
  generalize n9 v=b at h h2
  generalize Lw v=p at h1 h2
  clear hr hv hm
  refine eN Tryz.func100 rfl Tryz.ntmps100 fun hO=>?_
  repeat' first | refine st ?_ | (refine ca ?_;apply h1) | (refine br ?_ ?_<;>intro hb) | fail
  refine fR Tryz.results100 ?_
  exact h
 ·have h3:n9 m=false:=by
   unfold n9
   simp only [cy,beq_eq_false_iff_ne]
   omega
  have h4:(decide (0≤m)&&decide (m≤255))=false:=by simpa using hr
  rw [h4] at e
  rw [h3] at h
  clear hr h3 h4 hm
  refine eN Tryz.func100 rfl Tryz.ntmps100 fun hO=>?_
  repeat' first | refine st ?_ | (refine br ?_ ?_<;>intro hb) | fail
  refine fR Tryz.results100 ?_
  exact h
theorem La (w0:World) (S:List aH) (m:Int) (R:Rt) (h:R (.ret (.bool (m==0))) S):az Tryz.prog w0 97 [.int .i64 m] S R:=by
 refine eN Tryz.func97 rfl Tryz.ntmps97 fun hO=>?_
 repeat' first | refine st ?_ | (refine br ?_ ?_<;>intro hb) | fail
 refine fR Tryz.results97 ?_
 exact h
def ql (m:Int):Bool:=m==3||(n9 m&&(m != 1&&m != 2))
theorem uc {m:Int} (h:n9 m=true):m=1∨m=2∨m=4∨m=8∨m=16∨m=32∨m=64∨m=128:=by
 unfold n9 at h
 simpa using h
theorem Nq {m:Int} (h:n9 m=true):(ar.wrap ((((aD ar.bits m &&& aD ar.bits 3).toNat:Nat):Int))==0)=(m != 1&&m != 2):=by
 rcases uc h with rfl | rfl | rfl | rfl | rfl | rfl | rfl | rfl<;>decide
theorem MO (w0:World) (S:List aH) (m:Int) (hm:uI m) (R:Rt) (h:R (.ret (.bool (ql m))) S):az Tryz.prog w0 102 [.int .i64 m] S R:=by
 have h1:=fun S'=>Ld w0 S' m hm
 unfold ql at h
 cases d3:m==3<;>rw [d3] at h
 ·cases d1:n9 m
  ·rw [d1] at h h1
   clear hm d1
   refine eN Tryz.func102 rfl Tryz.ntmps102 fun hO=>?_
   repeat' first | refine st ?_ | (refine ca ?_;apply h1) | (refine br ?_ ?_<;>intro hb) | fail
   refine fR Tryz.results102 ?_
   exact h
  ·have e:=Nq d1
   simp only [bz] at e
   rw [d1] at h h1
   clear hm d1
   refine eN Tryz.func102 rfl Tryz.ntmps102 fun hO=>?_
   repeat' first | refine st ?_ | (refine ca ?_;apply h1) | (refine br ?_ ?_<;>intro hb) | fail
   refine fR Tryz.results102 ?_
   simpa using h
 ·clear hm h1
  refine eN Tryz.func102 rfl Tryz.ntmps102 fun hO=>?_
  repeat' first | refine st ?_ | (refine br ?_ ?_<;>intro hb) | fail
  refine fR Tryz.results102 ?_
  exact h
theorem I2 (w0:World) (S:List aH) (m:Int) (R:Rt) (h:R (.ret (.bool (decide (0≤m)&&decide (m≤5)))) S):az Tryz.prog w0 104 [.int .i64 m] S R:=by
 cases d:decide (0≤m)<;>rw [d] at h
 all_goals
  refine eN Tryz.func104 rfl Tryz.ntmps104 fun hO=>?_
  repeat' first | refine st ?_ | (refine br ?_ ?_<;>intro hb) | fail
  refine fR Tryz.results104 ?_
  first | exact h | (simpa using h)
def yj (f:FuncId):AV:=.fn (.func f) [] []
def m9 (g:FuncId):AV:=.agg [yj 97,.bool true,.fn (.func 98) [] [.pro [yj g]]]
theorem FG (w0:World) (S:List aH) (g:FuncId) (R:Rt) (h:R (.ret (m9 g)) S):az Tryz.prog w0 96 [yj g] S R:=by
 unfold m9 yj at h
 unfold yj
 refine eN Tryz.func96 rfl Tryz.ntmps96 fun hO=>?_
 repeat' first | refine st ?_ | (refine br ?_ ?_<;>intro hb) | fail
 refine fR Tryz.results96 ?_
 exact h
def Ds:List (AV × AV):=[(.int .i64 0,.agg [yj 97,.bool false,yj 99]),(.int .i64 1,.agg [yj 100,.bool false,yj 101]),(.int .i64 2,.agg [yj 102,.bool false,yj 103]),
 (.int .i64 3,.agg [yj 104,.bool false,yj 105]),(.int .i64 4,m9 106),(.int .i64 5,m9 107),(.int .i64 6,m9 108)]
theorem Lc (w0:World) (S:List aH) (R:Rt) (h:R (.ret (.mval Ds)) S):az Tryz.prog w0 47 [] S R:=by
 have hc:=FG w0
 unfold m9 yj at hc
 unfold Ds m9 yj at h
 refine eN Tryz.func47 rfl Tryz.ntmps47 fun hO=>?_
 repeat' first | refine st ?_ | (refine ca ?_;apply hc) | (refine br ?_ ?_<;>intro hb) | fail
 refine fR Tryz.results47 ?_
 exact h
theorem Gm (w0:World) (S:List aH) (R:Rt) (h:R (.ret (.agg [.int .i64 0,.int .i64 255,.int .i64 16777215])) S):az Tryz.prog w0 109 [] S R:=by
 refine eN Tryz.func109 rfl Tryz.ntmps109 fun hO=>?_
 repeat' first | refine st ?_ | (refine br ?_ ?_<;>intro hb) | fail
 refine fR Tryz.results109 ?_
 exact h
def vF (k:Int):Int:=if k=0 then 0 else if k=1 then 255 else 16777215
def iX (k n:Int):Bool:=(decide (0≤k)&&decide (k≤2))&&(decide (0≤n)&&decide (n≤vF k))
theorem iB (w0:World) (S:List aH) (k n:Int) (R:Rt) (h:R (.ret (.int .i64 (if iX k n then 0 else 130))) S):az Tryz.prog w0 48 [.agg [.int .i64 k,.int .i64 n]] S R:=by
 have hl:=Gm w0
 have H:=au h
 clear h
 have hk3:k=0∨k=1∨k=2∨k<0∨(0≤k∧3≤k):=by omega
 rcases hk3 with rfl | rfl | rfl | hk | ⟨hk,hk3⟩
 case inr.inr.inr.inl =>
  have d1:decide (k<0)=true:=decide_eq_true hk
  have hh:=H.out
  rw [if_neg (by unfold iX;simp;omega)] at hh
  clear hk H
  refine eN Tryz.func48 rfl Tryz.ntmps48 fun hO=>?_
  repeat' first | refine st ?_ | (refine ca ?_;apply hl) | (refine br ?_ ?_<;>intro hb) | refine sd ?_ | apply aE | (apply aO;(· decide +kernel)) | refine bd ?_ ?_ | (refine cd ?_;apply hl) | fail
  refine fR Tryz.results48 ?_
  exact hh
 case inr.inr.inr.inr =>
  have d1:decide (k<0)=false:=decide_eq_false (by omega)
  have d2:decide (3≤k)=true:=decide_eq_true hk3
  have hh:=H.out
  rw [if_neg (by unfold iX;simp;omega)] at hh
  clear hk hk3 H
  refine eN Tryz.func48 rfl Tryz.ntmps48 fun hO=>?_
  repeat' first | refine st ?_ | (refine ca ?_;apply hl) | (refine br ?_ ?_<;>intro hb) | refine sd ?_ | apply aE | (apply aO;(· decide +kernel)) | refine bd ?_ ?_ | (refine cd ?_;apply hl) | fail
  refine fR Tryz.results48 ?_
  exact hh
 all_goals
  rcases(show n<0∨0≤n by omega) with hn | hn
  all_goals
   first
   | have d1:decide (n<0)=true:=decide_eq_true hn
   | have d1:decide (n<0)=false:=decide_eq_false (by omega)
   have Hn:=au hn
   clear hn
   refine eN Tryz.func48 rfl Tryz.ntmps48 fun hO=>?_
   repeat' first | refine st ?_ | (refine ca ?_;apply hl) | (refine br ?_ ?_<;>intro hb) | refine sd ?_ | apply aE | (apply aO;(· decide +kernel)) | refine bd ?_ ?_ | (refine cd ?_;apply hl) | fail
   all_goals refine fR Tryz.results48 ?_
   all_goals
    refine cast (congrArg (fun v=>R (.ret (.int .i64 v)) S) ?_) H.out
    have hn:=Hn.out
    simp only [decide_eq_true_eq,decide_eq_false_iff_not] at *
    first
    | (rw [if_pos (by simp [iX,vF];omega)])
    | (rw [if_neg (by simp [iX,vF];omega)])
def dJ (ck cn:Int):Bool:=ck==0&&cn==0
def pQ (m:Int):Bool:=decide (0≤m)&&decide (m≤5)
def iH (n m ck cn:Int):Bool :=
 if n=0 then m==0&&dJ ck cn else if n=1 then n9 m&&dJ ck cn else if n=2 then ql m&&dJ ck cn else if n=3 then pQ m&&dJ ck cn
 else if n=4∨n=5∨n=6 then m==0&&iX ck cn else false
def mR (a:Ac):Bool:=a.kind==39&&(a.text==[]&&iH a.n a.m a.ck a.cn)
theorem kU:iX 0 0=true:=by decide
theorem sf (n:Int):(n=0∨n=1∨n=2∨n=3∨n=4∨n=5∨n=6)∨((n==0)=false∧(n==1)=false∧(n==2)=false∧(n==3)=false∧(n==4)=false∧(n==5)=false∧(n==6)=false):=by
 simp only [beq_eq_false_iff_ne]
 omega
theorem A9 (w0:World) (S:List aH) (a:Ac) (hm:uI a.m) (R:Rt) (h:R (.ret (.int .i64 (if mR a then 0 else 141))) S):az Tryz.prog w0 27 [a.av] S R:=by
 obtain⟨k,n,m,ck,cn,t⟩:=a
 have hp:=Lc w0
 unfold Ds m9 yj at hp
 have z1:=fun S'=>La w0 S' m
 have z2:=fun S'=>Ld w0 S' m hm
 have z3:=fun S'=>MO w0 S' m hm
 have z4:=fun S'=>I2 w0 S' m
 have hc:=fun S'=>iB w0 S' ck cn
 unfold mR at h
 unfold Ac.av
 simp only at h ⊢ hm
 clear hm
 rw [show (decide (0≤m)&&decide (m≤5))=pQ m from rfl] at z4
 rcases sf n with(rfl | rfl | rfl | rfl | rfl | rfl | rfl) | ⟨c0,c1,c2,c3,c4,c5,c6⟩
 ·clear z2 z3 z4
  refine eN Tryz.func27 rfl Tryz.ntmps27 fun hO=>?_
  refine share ?K1 ?hK1 fun key1=>?main1
  case main1 =>
   repeat' ((fail_if_success (apply bA 2));first | refine st ?_ | (refine ca ?_;apply hp) | (refine br ?_ ?_<;>intro hb) | refine sd ?_ | apply aE | (apply aO;(· decide +kernel)) | refine bd ?_ ?_ | (refine cd ?_;apply hp) | fail)
   all_goals
    refine mf [1000000,1,3,4] ?_
    simp only [iz,go_sem]
    exact key1
  case hK1 =>
   rintro env ⟨e0,e1,e3,e4⟩
   repeat' first | refine st ?_ | (refine ca ?_;first | apply z1 | apply hc) | (refine br ?_ ?_<;>intro hb) | fail
   all_goals refine fR Tryz.results27 ?_
   all_goals
    refine(congrArg (fun z=>R (.ret (.int .i64 z)) S) (?_:_=_)).mpr h
    clear h hp z1 hc hO e0 e1 e3 e4
    simp_all [iH,dJ,kU]
 ·clear z1 z3 z4
  refine eN Tryz.func27 rfl Tryz.ntmps27 fun hO=>?_
  refine share ?K2 ?hK2 fun key1=>?main2
  case main2 =>
   repeat' ((fail_if_success (apply bA 2));first | refine st ?_ | (refine ca ?_;apply hp) | (refine br ?_ ?_<;>intro hb) | refine sd ?_ | apply aE | (apply aO;(· decide +kernel)) | refine bd ?_ ?_ | (refine cd ?_;apply hp) | fail)
   all_goals
    refine mf [1000000,1,3,4] ?_
    simp only [iz,go_sem]
    exact key1
  case hK2 =>
   rintro env ⟨e0,e1,e3,e4⟩
   repeat' first | refine st ?_ | (refine ca ?_;first | apply z2 | apply hc) | (refine br ?_ ?_<;>intro hb) | fail
   all_goals refine fR Tryz.results27 ?_
   all_goals
    refine(congrArg (fun z=>R (.ret (.int .i64 z)) S) (?_:_=_)).mpr h
    clear h hp z2 hc hO e0 e1 e3 e4
    simp_all [iH,dJ,kU]
 ·clear z1 z2 z4
  refine eN Tryz.func27 rfl Tryz.ntmps27 fun hO=>?_
  refine share ?K3 ?hK3 fun key1=>?main3
  case main3 =>
   repeat' ((fail_if_success (apply bA 2));first | refine st ?_ | (refine ca ?_;apply hp) | (refine br ?_ ?_<;>intro hb) | refine sd ?_ | apply aE | (apply aO;(· decide +kernel)) | refine bd ?_ ?_ | (refine cd ?_;apply hp) | fail)
   all_goals
    refine mf [1000000,1,3,4] ?_
    simp only [iz,go_sem]
    exact key1
  case hK3 =>
   rintro env ⟨e0,e1,e3,e4⟩
   repeat' first | refine st ?_ | (refine ca ?_;first | apply z3 | apply hc) | (refine br ?_ ?_<;>intro hb) | fail
   all_goals refine fR Tryz.results27 ?_
   all_goals
    refine(congrArg (fun z=>R (.ret (.int .i64 z)) S) (?_:_=_)).mpr h
    clear h hp z3 hc hO e0 e1 e3 e4
    simp_all [iH,dJ,kU]
 ·clear z1 z2 z3
  refine eN Tryz.func27 rfl Tryz.ntmps27 fun hO=>?_
  refine share ?K4 ?hK4 fun key1=>?main4
  case main4 =>
   repeat' ((fail_if_success (apply bA 2));first | refine st ?_ | (refine ca ?_;apply hp) | (refine br ?_ ?_<;>intro hb) | refine sd ?_ | apply aE | (apply aO;(· decide +kernel)) | refine bd ?_ ?_ | (refine cd ?_;apply hp) | fail)
   all_goals
    refine mf [1000000,1,3,4] ?_
    simp only [iz,go_sem]
    exact key1
  case hK4 =>
   rintro env ⟨e0,e1,e3,e4⟩
   repeat' first | refine st ?_ | (refine ca ?_;first | apply z4 | apply hc) | (refine br ?_ ?_<;>intro hb) | fail
   all_goals refine fR Tryz.results27 ?_
   all_goals
    refine(congrArg (fun z=>R (.ret (.int .i64 z)) S) (?_:_=_)).mpr h
    clear h hp z4 hc hO e0 e1 e3 e4
    simp_all [iH,dJ,kU]
 ·clear z2 z3 z4
  refine eN Tryz.func27 rfl Tryz.ntmps27 fun hO=>?_
  refine share ?K5 ?hK5 fun key1=>?main5
  case main5 =>
   repeat' ((fail_if_success (apply bA 2));first | refine st ?_ | (refine ca ?_;apply hp) | (refine br ?_ ?_<;>intro hb) | refine sd ?_ | apply aE | (apply aO;(· decide +kernel)) | refine bd ?_ ?_ | (refine cd ?_;apply hp) | fail)
   all_goals
    refine mf [1000000,1,3,4] ?_
    simp only [iz,go_sem]
    exact key1
  case hK5 =>
   rintro env ⟨e0,e1,e3,e4⟩
   repeat' first | refine st ?_ | (refine ca ?_;first | apply z1 | apply hc) | (refine br ?_ ?_<;>intro hb) | fail
   all_goals refine fR Tryz.results27 ?_
   all_goals
    refine(congrArg (fun z=>R (.ret (.int .i64 z)) S) (?_:_=_)).mpr h
    clear h hp z1 hc hO e0 e1 e3 e4
    simp_all [iH,dJ,kU]
 ·clear z2 z3 z4
  refine eN Tryz.func27 rfl Tryz.ntmps27 fun hO=>?_
  refine share ?K6 ?hK6 fun key1=>?main6
  case main6 =>
   repeat' ((fail_if_success (apply bA 2));first | refine st ?_ | (refine ca ?_;apply hp) | (refine br ?_ ?_<;>intro hb) | refine sd ?_ | apply aE | (apply aO;(· decide +kernel)) | refine bd ?_ ?_ | (refine cd ?_;apply hp) | fail)
   all_goals
    refine mf [1000000,1,3,4] ?_
    simp only [iz,go_sem]
    exact key1
  case hK6 =>
   rintro env ⟨e0,e1,e3,e4⟩
   repeat' first | refine st ?_ | (refine ca ?_;first | apply z1 | apply hc) | (refine br ?_ ?_<;>intro hb) | fail
   all_goals refine fR Tryz.results27 ?_
   all_goals
    refine(congrArg (fun z=>R (.ret (.int .i64 z)) S) (?_:_=_)).mpr h
    clear h hp z1 hc hO e0 e1 e3 e4
    simp_all [iH,dJ,kU]
 ·clear z2 z3 z4
  refine eN Tryz.func27 rfl Tryz.ntmps27 fun hO=>?_
  refine share ?K7 ?hK7 fun key1=>?main7
  case main7 =>
   repeat' ((fail_if_success (apply bA 2));first | refine st ?_ | (refine ca ?_;apply hp) | (refine br ?_ ?_<;>intro hb) | refine sd ?_ | apply aE | (apply aO;(· decide +kernel)) | refine bd ?_ ?_ | (refine cd ?_;apply hp) | fail)
   all_goals
    refine mf [1000000,1,3,4] ?_
    simp only [iz,go_sem]
    exact key1
  case hK7 =>
   rintro env ⟨e0,e1,e3,e4⟩
   repeat' first | refine st ?_ | (refine ca ?_;first | apply z1 | apply hc) | (refine br ?_ ?_<;>intro hb) | fail
   all_goals refine fR Tryz.results27 ?_
   all_goals
    refine(congrArg (fun z=>R (.ret (.int .i64 z)) S) (?_:_=_)).mpr h
    clear h hp z1 hc hO e0 e1 e3 e4
    simp_all [iH,dJ,kU]
 ·have hn:iH n m ck cn=false:=by
   simp only [beq_eq_false_iff_ne] at c0 c1 c2 c3 c4 c5 c6
   simp [iH,c0,c1,c2,c3,c4,c5,c6]
  rw [hn] at h
  clear z1 z2 z3 z4 hc hn
  refine eN Tryz.func27 rfl Tryz.ntmps27 fun hO=>?_
  repeat' first | refine st ?_ | (refine ca ?_;apply hp) | (refine br ?_ ?_<;>intro hb) | refine sd ?_ | apply aE | (apply aO;(· decide +kernel)) | refine bd ?_ ?_ | (refine cd ?_;apply hp) | fail
  all_goals refine fR Tryz.results27 ?_
  all_goals simpa using h
theorem En (k n:Int):iX k n=true↔(k=0∧n=0)∨(k=1∧0≤n∧n≤255)∨(k=2∧0≤n∧n≤16777215):=by
 unfold iX vF
 simp only [aB,decide_eq_true_eq]
 constructor
 ·rintro⟨⟨a,b⟩,c,d⟩
  split at d
  ·omega
  ·split at d<;>omega
 ·rintro(⟨rfl,rfl⟩ | ⟨rfl,a,b⟩ | ⟨rfl,a,b⟩)
  ·simp
  ·simp;omega
  ·simp;omega
theorem Ln (w0:World) (S:List aH) (k n:Int) (R:Rt) (h:R (.ret (.int .i64 (if iX k n then 0 else 130))) S):az Tryz.prog w0 89 [.agg [.int .i64 k,.int .i64 n]] S R:=by
 refine eN Tryz.func89 rfl Tryz.ntmps89 fun hO=>?_
 repeat' first | refine st ?_ | (refine br ?_ ?_<;>intro hb) | fail
 all_goals refine fR Tryz.results89 ?_
 all_goals
  refine(congrArg (fun z=>R (.ret (.int .i64 z)) S) (?_:_=_)).mpr h
  clear h hO
  have hq:=En k n
  simp only [beq_iff_eq,beq_eq_false_iff_ne,decide_eq_true_eq,decide_eq_false_iff_not,aB,fm] at *
  first
  | rw [if_pos (hq.2 (by omega))]
  | rw [if_neg (fun e=>by have:=hq.1 e;omega)]
theorem Lp (w0:World) (S:List aH) (m:Int) (R:Rt) (h:R (.ret (.bool (n9 m))) S):az Tryz.prog w0 88 [.int .i64 m] S R:=by
 refine eN Tryz.func88 rfl Tryz.ntmps88 fun hO=>?_
 repeat' first | refine st ?_ | (refine br ?_ ?_<;>intro hb) | apply cP | apply eg | fail
 all_goals refine fR Tryz.results88 ?_
 all_goals
  refine(congrArg (fun z=>R (.ret (.bool z)) S) (?_:_=_)).mpr h
  clear h hO
  simp_all [n9]
theorem Bf (w0:World) (S:List aH) (a:Ac) (R:Rt) (h:R (.ret (.int .i64 (if mR a then 0 else 141))) S):az Tryz.prog w0 42 [a.av] S R:=by
 obtain⟨k,n,m,ck,cn,t⟩:=a
 have z2:=fun S'=>Lp w0 S' m
 have hc:=fun S'=>Ln w0 S' ck cn
 unfold mR at h
 unfold Ac.av
 simp only at h ⊢
 rcases sf n with(rfl | rfl | rfl | rfl | rfl | rfl | rfl) | ⟨c0,c1,c2,c3,c4,c5,c6⟩
 ·clear z2 hc
  refine eN Tryz.func42 rfl Tryz.ntmps42 fun hO=>?_
  repeat' first | refine st ?_ | (refine br ?_ ?_<;>intro hb) | fail
  all_goals refine fR Tryz.results42 ?_
  all_goals
   refine(congrArg (fun z=>R (.ret (.int .i64 z)) S) (?_:_=_)).mpr h
   clear h hO
   simp_all [iH,dJ,kU,ql,pQ]<;>(intros;omega)
 ·clear hc
  refine eN Tryz.func42 rfl Tryz.ntmps42 fun hO=>?_
  repeat' first | refine st ?_ | (refine ca ?_;apply z2) | (refine br ?_ ?_<;>intro hb) | fail
  all_goals refine fR Tryz.results42 ?_
  all_goals
   refine(congrArg (fun z=>R (.ret (.int .i64 z)) S) (?_:_=_)).mpr h
   clear h hO z2
   simp_all [iH,dJ,kU,ql,pQ]<;>(intros;omega)
 ·clear hc
  refine eN Tryz.func42 rfl Tryz.ntmps42 fun hO=>?_
  repeat' first | refine st ?_ | (refine ca ?_;apply z2) | (refine br ?_ ?_<;>intro hb) | fail
  all_goals refine fR Tryz.results42 ?_
  all_goals
   refine(congrArg (fun z=>R (.ret (.int .i64 z)) S) (?_:_=_)).mpr h
   clear h hO z2
   simp_all [iH,dJ,kU,ql,pQ]<;>(intros;omega)
 ·clear z2 hc
  refine eN Tryz.func42 rfl Tryz.ntmps42 fun hO=>?_
  repeat' first | refine st ?_ | (refine br ?_ ?_<;>intro hb) | fail
  all_goals refine fR Tryz.results42 ?_
  all_goals
   refine(congrArg (fun z=>R (.ret (.int .i64 z)) S) (?_:_=_)).mpr h
   clear h hO
   simp_all [iH,dJ,kU,ql,pQ]<;>(intros;omega)
 ·clear z2
  refine eN Tryz.func42 rfl Tryz.ntmps42 fun hO=>?_
  repeat' first | refine st ?_ | (refine ca ?_;apply hc) | (refine br ?_ ?_<;>intro hb) | fail
  all_goals refine fR Tryz.results42 ?_
  all_goals
   refine(congrArg (fun z=>R (.ret (.int .i64 z)) S) (?_:_=_)).mpr h
   clear h hO hc
   simp_all [iH,dJ,kU,ql,pQ]<;>(intros;omega)
 ·clear z2
  refine eN Tryz.func42 rfl Tryz.ntmps42 fun hO=>?_
  repeat' first | refine st ?_ | (refine ca ?_;apply hc) | (refine br ?_ ?_<;>intro hb) | fail
  all_goals refine fR Tryz.results42 ?_
  all_goals
   refine(congrArg (fun z=>R (.ret (.int .i64 z)) S) (?_:_=_)).mpr h
   clear h hO hc
   simp_all [iH,dJ,kU,ql,pQ]<;>(intros;omega)
 ·clear z2
  refine eN Tryz.func42 rfl Tryz.ntmps42 fun hO=>?_
  repeat' first | refine st ?_ | (refine ca ?_;apply hc) | (refine br ?_ ?_<;>intro hb) | fail
  all_goals refine fR Tryz.results42 ?_
  all_goals
   refine(congrArg (fun z=>R (.ret (.int .i64 z)) S) (?_:_=_)).mpr h
   clear h hO hc
   simp_all [iH,dJ,kU,ql,pQ]<;>(intros;omega)
 ·have hn:iH n m ck cn=false:=by
   simp only [beq_eq_false_iff_ne] at c0 c1 c2 c3 c4 c5 c6
   simp [iH,c0,c1,c2,c3,c4,c5,c6]
  rw [hn] at h
  clear z2 hc hn
  refine eN Tryz.func42 rfl Tryz.ntmps42 fun hO=>?_
  repeat' first | refine st ?_ | (refine br ?_ ?_<;>intro hb) | fail
  all_goals refine fR Tryz.results42 ?_
  all_goals simpa using h
inductive Sp where
 | rng (a b:Int)
 | zt
def Sp.ok:Sp→Int→Bool
 | .rng a b,n=>decide (a≤n)&&decide (n≤b)
 | .zt,n=>n==0||n==3
def Sp.fv:Sp→AV
 | .rng a b=>.fn (.func 35) [.agg [.int .i64 a,.int .i64 b]] []
 | .zt=>.fn (.func 54) [] []
def vA:List (Int × Sp × Sp):=[(17,.rng 0 3,.rng 0 1),(18,.rng 2 3,.rng 0 0),(19,.rng 1 9999,.rng 1 9999),(20,.rng 0 3,.rng 1 9999),(26,.rng 0 3,.rng 0 0),(27,.rng 0 2,.rng 0 0),(35,.zt,.rng 0 0),(38,.rng 0 9999,.rng 0 9999),(40,.rng 0 6,.rng 0 0),(41,.rng 5 6,.rng 0 0),(2,.rng 0 0,.rng 0 0),(3,.rng 0 0,.rng 0 0),(4,.rng 0 0,.rng 0 0),(5,.rng 0 0,.rng 0 0),(6,.rng 0 0,.rng 0 0),(8,.rng 0 0,.rng 0 0),(9,.rng 0 0,.rng 0 0),(10,.rng 0 0,.rng 0 0),(11,.rng 0 0,.rng 0 0),(12,.rng 0 0,.rng 0 0),(13,.rng 0 0,.rng 0 0),(15,.rng 0 0,.rng 0 0),(16,.rng 0 0,.rng 0 0),(7,.rng 0 1,.rng 0 0),(14,.rng 0 1,.rng 0 0),(42,.rng 0 1,.rng 0 0),(21,.rng 0 1,.rng 1 9999),(33,.rng 0 1,.rng 1 9999),(22,.rng 1 9999,.rng 0 0),(23,.rng 1 9999,.rng 0 0),(24,.rng 1 9999,.rng 0 0),(25,.rng 1 9999,.rng 0 0),(28,.rng 1 9999,.rng 0 0),(29,.rng 1 9999,.rng 0 0),(30,.rng 1 9999,.rng 0 0),(31,.rng 1 9999,.rng 0 0),(32,.rng 1 9999,.rng 0 0),(34,.rng 1 9999,.rng 0 0),(36,.rng 0 9999,.rng 0 1),(37,.rng 0 9999,.rng 0 1),(43,.rng 0 9999,.rng 0 1)]
def Bo:List (AV × AV):=vA.map fun p=>(.int .i64 p.1,.agg [p.2.1.fv,p.2.2.fv])
theorem Mk (w0:World) (S:List aH) (a b n:Int) (R:Rt) (h:R (.ret (.bool (decide (a≤n)&&decide (n≤b)))) S):az Tryz.prog w0 35 [.agg [.int .i64 a,.int .i64 b],.int .i64 n] S R:=by
 cases d:decide (a≤n)<;>rw [d] at h
 all_goals
  refine eN Tryz.func35 rfl Tryz.ntmps35 fun hO=>?_
  repeat' first | refine st ?_ | (refine br ?_ ?_<;>intro hb) | fail
  refine fR Tryz.results35 ?_
  first | exact h | (simpa using h)
theorem Ra (w0:World) (S:List aH) (n:Int) (R:Rt) (h:R (.ret (.bool (n==0||n==3))) S):az Tryz.prog w0 54 [.int .i64 n] S R:=by
 cases d:n==0<;>rw [d] at h
 all_goals
  refine eN Tryz.func54 rfl Tryz.ntmps54 fun hO=>?_
  repeat' first | refine st ?_ | (refine br ?_ ?_<;>intro hb) | fail
  refine fR Tryz.results54 ?_
  first | exact h | (simpa using h)
theorem Hh (w0:World) (S:List aH) (R:Rt) (h:R (.ret (.tup [(Sp.rng 0 0).fv,(Sp.rng 0 1).fv,(Sp.rng 1 9999).fv,(Sp.rng 0 9999).fv])) S):az Tryz.prog w0 53 [] S R:=by
 simp only [Sp.fv] at h
 refine eN Tryz.func53 rfl Tryz.ntmps53 fun hO=>?_
 repeat' first | refine st ?_ | (refine br ?_ ?_<;>intro hb) | fail
 refine fR Tryz.results53 ?_
 exact h
theorem Ez (w0:World) (S:List aH) (R:Rt) (h:R (.ret (.mval Bo)) S):az Tryz.prog w0 29 [] S R:=by
 have hl:=Hh w0
 simp only [Sp.fv] at hl
 simp only [Bo,vA,aG,aL,Sp.fv] at h
 have H:=au h
 clear h
 refine eN Tryz.func29 rfl Tryz.ntmps29 fun hO=>?_
 repeat' first | refine st ?_ | (refine ca ?_;apply hl) | (refine br ?_ ?_<;>intro hb) | apply cP | apply eg | fail
 refine fR Tryz.results29 ?_
 exact H.out
theorem Ih (w0:World) (S:List aH) (n:Nat) (hn:n≤100000) (R:Rt) (h:R (.ret (.int .i64 (((n+2) / 3 * 4:Nat):Int))) S):az Tryz.prog w0 194 [.int .i64 n] S R:=by
 have m1:(if (1099511627776:Int)<(n:Int) then (1099511627776:Int) else (n:Int))=(n:Int):=by rw [if_neg (by omega)]
 have m2:(if (n:Int)>0 then (n:Int) else 0)=(n:Int):=by split<;>omega
 have k1:ar.wrap ((n:Int)+2)=((n+2:Nat):Int):=by rw [ay _ (by omega)];omega
 have k2:ar.wrap (((n+2:Nat):Int).tdiv 3)=(((n+2) / 3:Nat):Int):=A0 (n+2) 3 (by omega)
 have k3:ar.wrap ((((n+2) / 3:Nat):Int) * 4)=(((n+2) / 3 * 4:Nat):Int):=by rw [ay _ (by omega)];omega
 clear hn
 refine eN Tryz.func194 rfl Tryz.ntmps194 fun hO=>?_
 repeat' first | refine st ?_ | (refine br ?_ ?_<;>intro hb) | fail
 refine fR Tryz.results194 ?_
 exact h
theorem LK (w0:World) (S:List aH) (n:Int) (hn:iX 2 n=true) (R:Rt) (h:R (.ret (.tup [.int .i64 n,.bool true])) S):az Tryz.prog w0 188 [.agg [.int .i64 2,.int .i64 n]] S R:=by
 have hc:=fun S'=>iB w0 S' 2 n
 rw [hn,if_pos rfl] at hc
 clear hn
 refine eN Tryz.func188 rfl Tryz.ntmps188 fun hO=>?_
 repeat' first | refine st ?_ | (refine ca ?_;apply hc) | (refine br ?_ ?_<;>intro hb) | fail
 refine fR Tryz.results188 ?_
 exact h
theorem LR (s:List UInt8):dx s 59=if s.dropWhile (fun b=>b != 59)=[] then -1 else ((s.takeWhile (fun b=>b != 59)).length:Int):=by
 induction s with
 | nil=>rfl
 | cons b l ih =>
  rw [dx,List.dropWhile_cons,List.takeWhile_cons]
  by_cases hb:b=59
  ·subst hb;simp
  ·have h1:(b==59)=false:=by simpa using hb
   have h2:(b != 59)=true:=by simpa using hb
   rw [h1,h2]
   simp only [du,if_false,if_true]
   rw [ih]
   split
   ·simp
   ·rw [if_neg (by simp)]
    simp
theorem Nc (w0:World) (S:List aH) (s:List UInt8) (R:Rt) (h:R (.ret (.int .i64 (dx s 59))) S):az Tryz.prog w0 307 [.str s,.int .u8 59] S R:=by
 refine az.lib (vs:=[.string ⟨s.toArray⟩,.int .u8 59]) (v:=.int .i64 (dx s 59)) (c:=.int .i64 (dx s 59)) (Go.Proofs.enters_of Tryz.func307 (by kernel_rfl) rfl) rfl rfl ?_ h
 intro w hb
 refine(Go.Proofs.Any.stringslite_IndexByte Go.Proofs.Tryz.lays217 ⟨s.toArray⟩ 59 w).mono ?_
 rintro e w' ⟨rfl,rfl⟩
 exact⟨rfl,l7 _ _⟩
theorem Ka (w0:World) (S:List aH) (s:List UInt8) (R:Rt) (h:R (.ret (.int .i64 (dx s 59))) S):az Tryz.prog w0 281 [.str s,.str [59]] S R:=by
 have hi:=fun S'=>Nc w0 S' s
 by_cases hs:s=[59]
 ·subst hs
  have h:R (.ret (.int .i64 0)) S:=h
  clear hi
  refine eN Tryz.func281 rfl Tryz.ntmps281 fun hO=>?_
  repeat' first | refine st ?_ | (refine br ?_ ?_<;>intro hb) | fail
  refine fR Tryz.results281 ?_
  exact h
 ·have hne:(([59]:List UInt8)==s)=false:=by
   rw [beq_eq_false_iff_ne]
   exact fun e=>hs e.symm
  generalize dx s 59=i at h hi
  clear hs
  refine eN Tryz.func281 rfl Tryz.ntmps281 fun hO=>?_
  repeat' first | refine st ?_ | (refine ca ?_;apply hi) | (refine br ?_ ?_<;>intro hb) | fail
  refine fR Tryz.results281 ?_
  exact h
def BP (s:List UInt8):AV:=match kD s with | some q=>.tup [.str q.1,.str q.2,.bool true] | none=>.tup [.str s,.str [],.bool false]
theorem LM (w0:World) (S:List aH) (s:List UInt8) (hs:s.length≤10000000) (R:Rt) (h:R (.ret (BP s)) S):az Tryz.prog w0 238 [.str s,.str [59]] S R:=by
 have hi:=fun S'=>Ka w0 S' s
 have htd:=List.takeWhile_append_dropWhile (p:=fun b=>b != 59) (l:=s)
 rw [LR] at hi
 by_cases hd:s.dropWhile (fun b=>b != 59)=[]
 ·rw [if_pos hd] at hi
  unfold BP kD at h
  rw [if_pos hd] at h
  have h:R (.ret (.tup [.str s,.str [],.bool false])) S:=h
  clear htd hd hs
  refine eN Tryz.func238 rfl Tryz.ntmps238 fun hO=>?_
  repeat' first | refine st ?_ | (refine ca ?_;apply hi) | (refine br ?_ ?_<;>intro hb) | fail
  refine fR Tryz.results238 ?_
  exact h
 ·rw [if_neg hd] at hi
  unfold BP kD at h
  rw [if_neg hd] at h
  have h:R (.ret (.tup [.str (s.takeWhile (fun b=>b != 59)),.str ((s.dropWhile (fun b=>b != 59)).drop 1),.bool true])) S:=h
  obtain⟨W,hW⟩:∃ W,s.takeWhile (fun b=>b != 59)=W:=⟨_,rfl⟩
  obtain⟨D,hD⟩:∃ D,s.dropWhile (fun b=>b != 59)=D:=⟨_,rfl⟩
  rw [hW] at hi h htd
  rw [hD] at hd htd h
  have hdl:0<D.length:=mq.2 hd
  have hsl:s.length=W.length+D.length:=by rw [← htd];simp
  have d1:decide ((0:Int)≤(W.length:Int))=true:=by simp
  have hw:ar.wrap ((W.length:Int)+((1:Nat):Int))=((W.length+1:Nat):Int):=by rw [ay _ (by omega)];rfl
  have b1:(W.length:Int)≤(s.length:Int):=by omega
  have b2:((W.length+1:Nat):Int)≤(s.length:Int):=by omega
  have htk:qR W.length s=W:=by rw [← htd];simp
  have hdk:List.drop (W.length+1) s=D.drop 1:=by rw [← htd,← List.drop_drop];simp
  have hts:qR s.length s=s:=bQ
  generalize hE:D.drop 1=E at h hdk
  clear hD hW hd htd hsl hdl hs hE
  refine eN Tryz.func238 rfl Tryz.ntmps238 fun hO=>?_
  repeat' first | refine st ?_ | (refine ca ?_;apply hi) | (refine br ?_ ?_<;>intro hb) | refine sd ?_ | apply aE | (apply aO;(· decide +kernel)) | refine bd ?_ ?_ | (refine cd ?_;apply hi) | fail
  all_goals refine fR Tryz.results238 ?_
  all_goals exact h
theorem Nd (w0:World) (S:List aH) (s:List UInt8) (hs:s.length≤10000000) (R:Rt) (h:R (.ret (BP s)) S):az Tryz.prog w0 202 [.str s,.str [59]] S R:=by
 have hi:=fun S'=>LM w0 S' s hs
 unfold BP at h hi
 clear hs
 cases hq:kD s with
 | none =>
  rw [hq] at h hi
  clear hq
  refine eN Tryz.func202 rfl Tryz.ntmps202 fun hO=>?_
  repeat' first | refine st ?_ | (refine ca ?_;apply hi) | (refine br ?_ ?_<;>intro hb) | fail
  refine fR Tryz.results202 ?_
  exact h
 | some q =>
  rw [hq] at h hi
  obtain⟨u,v⟩:=q
  simp only at h hi
  clear hq
  refine eN Tryz.func202 rfl Tryz.ntmps202 fun hO=>?_
  repeat' first | refine st ?_ | (refine ca ?_;apply hi) | (refine br ?_ ?_<;>intro hb) | fail
  refine fR Tryz.results202 ?_
  exact h
def uQ:Option (List UInt8 × List UInt8)→ed
 | some q=>.ret (.tup [.str q.1,.str q.2])
 | none=>.panic cq
theorem J2 (w0:World) (S:List aH) (s:List UInt8) (hs:s.length≤10000000) (R:Rt) (h:R (uQ (kD s)) S):az Tryz.prog w0 135 [.str s] S R:=by
 have hi:=fun S'=>Nd w0 S' s hs
 have hT:=lK w0
 have hF:=lL w0
 unfold BP at hi
 clear hs
 cases hq:kD s with
 | none =>
  rw [hq] at h hi
  unfold uQ cq at h
  unfold cq at hF
  clear hq hT
  refine eN Tryz.func135 rfl Tryz.ntmps135 fun hO=>?_
  repeat' first | refine st ?_ | (refine ca ?_;first | apply hi | apply hF) | (refine br ?_ ?_<;>intro hb) | fail
  refine fP ?_
  exact h
 | some q =>
  rw [hq] at h hi
  obtain⟨u,v⟩:=q
  unfold uQ at h
  simp only at h hi
  clear hq hF
  refine eN Tryz.func135 rfl Tryz.ntmps135 fun hO=>?_
  repeat' first | refine st ?_ | (refine ca ?_;first | apply hi | apply hT) | (refine br ?_ ?_<;>intro hb) | fail
  refine fR Tryz.results135 ?_
  exact h
theorem J_ (w0:World) (S:List aH) (s:List UInt8) (hs:s.length≤10000000) (R:Rt) (h:R (if gZ s then .ret (Ac.av ⟨44,0,0,0,0,s⟩) else .panic cq) S):az Tryz.prog w0 203 [.str s] S R:=by
 have ht:=fun S'=>DA w0 S' s hs
 unfold Ac.av at h
 clear hs
 cases hb:gZ s with
 | true =>
  rw [hb,if_pos rfl] at h
  rw [hb,if_pos rfl] at ht
  simp only at h
  clear hb
  refine eN Tryz.func203 rfl Tryz.ntmps203 fun hO=>?_
  repeat' first | refine st ?_ | (refine ca ?_;apply ht) | (refine br ?_ ?_<;>intro hb) | fail
  refine fR Tryz.results203 ?_
  exact h
 | false =>
  rw [hb,if_neg (by decide)] at h
  rw [hb,if_neg (by decide)] at ht
  unfold cq at h ht
  clear hb
  refine eN Tryz.func203 rfl Tryz.ntmps203 fun hO=>?_
  repeat' first | refine st ?_ | (refine ca ?_;apply ht) | (refine br ?_ ?_<;>intro hb) | fail
  refine fP ?_
  exact h
theorem Gj (w0:World) (S:List aH) (a:Ac) (hs:a.text.length≤10000000) (hk:a.kind=44) (R:Rt) (h:R (if a=⟨44,0,0,0,0,a.text⟩∧gZ a.text=true then .ret (.str (50::59::a.text)) else .panic cq) S):az Tryz.prog w0 111 [a.av] S R:=by
 have ht:=fun S'=>DA w0 S' a.text hs
 have hpT:=fun S'=>vv w0 S' a ⟨a.kind,0,0,0,0,a.text⟩
 have hpF:=fun S'=>vw w0 S' a ⟨a.kind,0,0,0,0,a.text⟩
 obtain⟨k,n,m,ck,cn,t⟩:=a
 simp only at hk hs ht hpT hpF h
 subst hk
 unfold Ac.av at hpT hpF ⊢
 simp only at hpT hpF ⊢
 have hl:2+t.length≤9223372036854775807:=by omega
 clear hs
 by_cases he:(⟨44,n,m,ck,cn,t⟩:Ac)=⟨44,0,0,0,0,t⟩
 ·have hp:=fun S'=>hpT S' he
  cases hb:gZ t with
  | true =>
   rw [if_pos ⟨he,hb⟩] at h
   rw [hb,if_pos rfl] at ht
   clear hpT hpF he hb
   refine eN Tryz.func111 rfl Tryz.ntmps111 fun hO=>?_
   repeat' first | refine st ?_ | (refine ca ?_;first | apply hp | apply ht) | (refine br ?_ ?_<;>intro hb) | fail
   refine fR Tryz.results111 ?_
   exact h
  | false =>
   rw [if_neg (by rw [hb];simp)] at h
   rw [hb,if_neg (by decide)] at ht
   unfold cq at h ht
   clear hpT hpF he hb
   refine eN Tryz.func111 rfl Tryz.ntmps111 fun hO=>?_
   repeat' first | refine st ?_ | (refine ca ?_;first | apply hp | apply ht) | (refine br ?_ ?_<;>intro hb) | fail
   refine fP ?_
   exact h
 ·have hp:=fun S'=>hpF S' he
  rw [if_neg (fun e=>he e.1)] at h
  unfold cq at h hp
  clear hpT hpF he ht
  refine eN Tryz.func111 rfl Tryz.ntmps111 fun hO=>?_
  repeat' first | refine st ?_ | (refine ca ?_;apply hp) | (refine br ?_ ?_<;>intro hb) | fail
  refine fP ?_
  exact h
def lX (w0:World):Prop:=∀ (S:List aH) (s:List UInt8),s.length≤8192→∀ (R:Rt),R (.ret (yM (fO s))) S→az Tryz.prog w0 74 [.str s] S R
def nJ (w0:World):Prop:=∀ (S:List aH) (a:Ac),a.text.length≤10000→∀ (R:Rt),R (.ret (sa (dc a))) S→az Tryz.prog w0 28 [a.av] S R
def MY (o:Option (List UInt8)):List UInt8:=o.getD []
def M2 (o:Option (List UInt8)):Int:=if o.isSome then 0 else 2
theorem t_ (o:Option (List UInt8)):sa o=.tup [.str (MY o),.int .i64 (M2 o)]:=by cases o<;>rfl
theorem AL (w0:World) (S:List aH) (a g i:Nat) (ad:AV) (bs:List UInt8) (c:UInt8) (hb:Nv S a g i ad bs) (hlen:(bs.length+1) * 1≤140737488355328) (R:Rt)
  (h:R (.ret .inil) ((S.set g (.arr 5 1 0 (i+1) ((bs++[c]).map iI))).set a (.cells [.own a 0,.sown g (i+1) (bs.length+1)] (some 90)))) :
  az Tryz.prog w0 192 [.own a 0,.int .u8 c.toNat] S R:=by
 obtain⟨ha,hg,had⟩:=hb
 have hal:=(aw.1 ha).1
 have hgl:=(aw.1 hg).1
 have hne:a≠g:=by rintro rfl;rw [ha] at hg;cases hg
 obtain⟨S1,hS1⟩:∃ S1,S.set a (.cells [.own a 0,.sown g i bs.length] (some 90))=S1:=⟨_,rfl⟩
 have hck:∀ R:ed→List aH→Prop,R (.ret (.tup [])) S1→az Tryz.prog w0 87 [.own a 0] S R:=by
  intro R hR
  rcases had with rfl | rfl
  ·exact sV w0 S a _ ha (by simpa [AV.lt] using hgl) hal R (hS1▸hR)
  ·have:S.set a (.cells [.own a 0,.sown g i bs.length] (some 90))=S:=gL ha
   rw [this] at hS1
   exact sU w0 S a _ ha R (hS1▸hR)
 have h1:S1[a]? = some (.cells [.own a 0,.sown g i bs.length] (some 90)):=by rw [← hS1];simp [hal]
 have h2:S1[g]? = some (.arr 5 1 0 i (bs.map iI)):=by rw [← hS1,cN hne];exact hg
 have hl1:S1.length=S.length:=by rw [← hS1];simp
 have hbl:(bs.map iI).length=bs.length:=by simp
 have h3:∀ B,(S1.set g B)[a]? = some (.cells [.own a 0,.sown g i bs.length] (some 90)):=by intro B;rw [cN (Ne.symm hne)];exact h1
 have hg1:g<S1.length:=by rw [hl1];exact hgl
 have ha1:a<S1.length:=by rw [hl1];exact hal
 have h4:∀ B,(S1++[B])[g]? = some (.arr 5 1 0 i (bs.map iI)):=by intro B;rw [aJ hg1];exact h2
 have h5:∀ B,(S1++[B])[a]? = some (.cells [.own a 0,.sown g i bs.length] (some 90)):=by intro B;rw [aJ ha1];exact h1
 have h6:∀ B C,(S1++[B]).set g C=S1.set g C++[B]:=by intro B C;exact qS _ _ hg1
 have h7:∀ B C,(S1.set g C++[B])[a]? = some (.cells [.own a 0,.sown g i bs.length] (some 90)):=by intro B C;rw [aJ (by simpa using ha1)];exact h3 C
 have h8:∀ B C D,(S1.set g C++[B]).set a D=(S1.set g C).set a D++[B]:=by intro B C D;exact qS _ _ (by simpa using ha1)
 have hfin:∀ B C,(S1.set g B).set a C=(S.set g B).set a C:=by
  intro B C
  rw [← hS1,List.set_comm _ _ hne,List.set_set]
 rw [co] at h
 have Hfin:=au hfin
 have Hal:=au (cD hal hgl)
 have H:=au h
 have Hl1:=au hl1
 clear hg had hal hgl hne hS1 hfin h hg1 ha1 hl1
 refine eN Tryz.func192 rfl Tryz.ntmps192 fun hO=>?_
 repeat' first | apply dM | apply cW | apply cj | apply cX | apply dN | apply bv | apply dQ | apply bx | apply bl | apply bF | apply bw | apply bj | apply aZ | apply dP | (apply a_;(· rfl)) | (apply bD;simp only [aU]) | (apply bZ;(· rfl);(· simp only [go_sem, *,bT,be,dp];try rfl);(· rfl);simp only [putA]) | (apply cZ;simp only [putA]) | apply bG | (apply cI [];(· simp only [go_sem, *,bT,be,dp];try rfl);(· rfl);(· simp only [go_sem, *,bT,be,dp];try rfl);(· rfl);(iterate 2 (· simp only [go_sem, *,bT,be,dp];try rfl));(first | apply hck);simp only [aR,putA]) | (apply b_;(· simp only [go_sem, *,bT,be,dp];try rfl);(· rfl);(· simp only [go_sem, *,bT,be,dp];try rfl)) | (apply cF;(iterate 2 (· simp only [go_sem, *,bT,be,dp];try rfl));(· rfl);simp only [putA]) | (apply bi;(· simp only [go_sem, *,bT,be,dp];try rfl);(· rfl);simp only [putA]) | (apply ce;(· simp only [go_sem, *,bT,be,dp];try rfl)) | (apply ci;(· simp only [go_sem, *,bT,be,dp];try rfl)) | (apply bE;(· rfl);(fail_if_success (focus (show _=some true;(· simp only [go_sem, *,bT,be,dp];try rfl))));(· simp only [go_sem, *,bT,be,dp];try rfl);all_goals (intro hb;try simp only [ax,aA] at hb)) | (apply cg;(· simp only [go_sem, *,bT,be,dp];try rfl);all_goals (intro hb;try simp only [ax,aA] at hb)) | fail
 refine Au ss ss (by (simp only [go_sem, *,Tryz.results192];try rfl)) (oa (S2:=(S1.set g (.arr 5 1 0 (i+1) (bS iI bs++[iI c]))).set a (.cells [.own a 0,.sown g (i+1) (bs.length+1)] (some 90))) ?_ ?_) ss ss rfl ?_
 ·have hb4:ltL S.length (bS iI bs++[iI c])=true:=by rw [show bS iI bs++[iI c]=bS iI (bs++[c]) by simp];exact wb _ _
  rw [Hfin.out]
  refine bP.set (bP.set hO hb4) ?_
  have:=Hal.out;simp [aH.ltB,ltL,AV.lt,this.1,this.2]
 ·simpa using Hl1.out
 ·have e:((S1.set g (.arr 5 1 0 (i+1) (bS iI bs++[iI c]))).set a (.cells [.own a 0,.sown g (i+1) (bs.length+1)] (some 90))++[aH.arr 5 1 0 0 [iI c]]).take S.length=(S.set g (.arr 5 1 0 (i+1) (bS iI bs++[iI c]))).set a (.cells [.own a 0,.sown g (i+1) (bs.length+1)] (some 90)):=by
   rw [Hfin.out]
   have:=List.take_left (l₁:=(S.set g (.arr 5 1 0 (i+1) (bS iI bs++[iI c]))).set a (.cells [.own a 0,.sown g (i+1) (bs.length+1)] (some 90))) (l₂:=[aH.arr 5 1 0 0 [iI c]])
   simpa using this
  refine cast ?_ H.out
  rw [show ([c].map iI)=[iI c] from rfl,← e]
  rfl
def eK (X:Nat) (ad:AV) (i:Nat) (bs:List UInt8) (fr tz:Int) (hv:AV) (wt rs:Int):List aH :=
 [aH.cells [ad,.sown (X+6) i bs.length] (some 90),aH.cells [.int .i64 fr],aH.cells [.int .i64 tz],aH.cells [hv],aH.cells [.int .i64 wt],aH.cells [.int .i64 rs],aH.arr 5 1 0 i (bs.map iI)]
theorem Mx (w0:World) (X:List aH) (ad:AV) (had:ad=.nilp∨ad=.own X.length 0) (i:Nat) (bs:List UInt8) (fr tz:Int) (hv:AV) (wt rs:Int) (c:UInt8) (hlen:bs.length≤1000000) (R:Rt)
  (h:R (.ret .inil) (X++eK X.length (.own X.length 0) (i+1) (bs++[c]) fr tz hv wt rs)) :
  az Tryz.prog w0 192 [.own X.length 0,.int .u8 c.toNat] (X++eK X.length ad i bs fr tz hv wt rs) R:=by
 refine AL w0 _ X.length (X.length+6) i ad bs c ⟨by simp [eK],by rw [aM (by omega)];simp [eK],had⟩ (by omega) R ?_
 have e:((X++eK X.length ad i bs fr tz hv wt rs).set (X.length+6) (.arr 5 1 0 (i+1) ((bs++[c]).map iI))).set X.length (.cells [.own X.length 0,.sown (X.length+6) (i+1) (bs.length+1)] (some 90)) =
   X++eK X.length (.own X.length 0) (i+1) (bs++[c]) fr tz hv wt rs:=by
  unfold eK
  rw [ef _ _ (by omega),ef _ _ (by omega)]
  simp
 rw [e]
 exact h
theorem Gb (X:List aH) (hX:bP X) (ad:AV) (had:ad=.nilp∨ad=.own X.length 0) (i:Nat) (bs:List UInt8) (fr tz:Int) (f:Nat) (wt rs:Int):bP (X++eK X.length ad i bs fr tz (.fn (.func f) [] [.own X.length 0]) wt rs):=by
 refine bP.app hX ?_
 unfold eK
 have h4:ltL (X.length+7) (bS iI bs)=true:=wb _ _
 rcases had with rfl | rfl<;>simp [aH.ltB,ltL,AV.lt,h4]
theorem An (w0:World) (X:List aH) (hX:bP X) (ad:AV) (had:ad=.nilp∨ad=.own X.length 0) (i:Nat) (bs:List UInt8) (fr tz:Int) (wt rs:Int) (v:Nat) (hv:v<64) (hlen:bs.length≤1000000) (R:Rt)
  (h:R (.ret (.tup [])) (X++eK X.length (.own X.length 0) (i+1) (bs++[bO v]) fr tz (.fn (.func 191) [] [.own X.length 0]) wt rs)) :
  az Tryz.prog w0 191 [.int .i64 v,.own X.length 0] (X++eK X.length ad i bs fr tz (.fn (.func 191) [] [.own X.length 0]) wt rs) R:=by
 have hsg:([65,66,67,68,69,70,71,72,73,74,75,76,77,78,79,80,81,82,83,84,85,86,87,88,89,90,97,98,99,100,101,102,103,104,105,106,107,108,109,110,111,112,113,114,115,116,117,118,119,120,121,122,48,49,50,51,52,53,54,55,56,57,43,47]:List UInt8)[v]? = some (bO v):=by
  have:∀ v,v<64→pU[v]? = some (bO v):=by decide +kernel
  exact this v hv
 generalize bO v=c at h hsg
 have hw:=Mx w0 X ad had i bs fr tz (.fn (.func 191) [] [.own X.length 0]) wt rs c hlen
 have hok:=Gb X hX (.own X.length 0) (.inr rfl) (i+1) (bs++[c]) fr tz 191 wt rs
 generalize hS:X++eK X.length (.own X.length 0) (i+1) (bs++[c]) fr tz (.fn (.func 191) [] [.own X.length 0]) wt rs=S2 at *
 have hl2:S2.length=X.length+7:=by rw [← hS];simp [eK]
 have hl1:(X++eK X.length ad i bs fr tz (.fn (.func 191) [] [.own X.length 0]) wt rs).length=X.length+7:=by simp [eK]
 have hgt:(X++eK X.length ad i bs fr tz (.fn (.func 191) [] [.own X.length 0]) wt rs)[X.length]? = some (aH.cells [ad,.sown (X.length+6) i bs.length] (some 90)):=by simp [eK]
 generalize X++eK X.length ad i bs fr tz (.fn (.func 191) [] [.own X.length 0]) wt rs=S1 at *
 clear hX had hlen hS hv
 have Hok:=au hok
 clear hok
 refine eN Tryz.func191 rfl Tryz.ntmps191 fun hO=>?_
 repeat' first | refine st ?_ | (refine ca ?_;apply hw) | (refine br ?_ ?_<;>intro hb) | fail
 refine GQ Tryz.results191 ?_ ?_ ?_
 ·exact Hok.out
 ·rw [hl1,hl2]
 ·exact h
theorem rZ (w0:World) (S:List aH) (fr tz:Int) (f a:Nat) (hfr:ar.wrap fr=fr) (R:Rt)
  (h:R (.ret (.fn (.func 231) [] [.own (S.length+4) 0,.own S.length 0,.own (S.length+3) 0,.own (S.length+1) 0,.own (S.length+2) 0])) (S++[aH.cells [.int .i64 fr],aH.cells [.int .i64 tz],aH.cells [.fn (.func f) [] [.own a 0]],aH.cells [.int .i64 0],aH.cells [.int .i64 0]])) :
  az Tryz.prog w0 190 [.int .i64 fr,.int .i64 tz,.fn (.func f) [] [.own a 0]] S R:=by
 refine D_ Tryz.func190 rfl (by decide +kernel) (by rw [Tryz.ntmps190];simp) (by rw [Tryz.ntmps190];decide) (fun hO=>?_);rw [Tryz.ntmps190]
 repeat' first | refine st ?_ | (refine br ?_ ?_<;>intro hb) | fail
 (apply D7;iterate 4 (· simp only [go_sem, *,Tryz.results190];try rfl))
 exact h
theorem M_ {a b k:Nat} (ha:a<4294967296) (hk:k≤16) (hb:b<2 ^ k):ar.wrap (((aD ar.bits (ar.wrap ((a:Int) * 2 ^ min k 64)) ||| aD ar.bits (b:Int)).toNat:Nat):Int)=((a * 2 ^ k+b:Nat):Int):=by
 have h2:2 ^ k≤2 ^ 16:=gx (by omega) hk
 have h3:a * 2 ^ k≤4294967296 * 65536:=Nat.mul_le_mul (by omega) h2
 have e1:ar.wrap ((a:Int) * 2 ^ min k 64)=((a * 2 ^ k:Nat):Int):=by
  rw [Nat.min_eq_left (by omega),show ((a:Int) * 2 ^ k)=((a * 2 ^ k:Nat):Int) by simp]
  exact ay _ (by omega)
 rw [e1,HT]
 have e2:(aD ar.bits ((a * 2 ^ k:Nat):Int)).toNat=a * 2 ^ k:=by
  show (aD 64 _).toNat=_
  rw [cV];omega
 have e3:(aD ar.bits (b:Int)).toNat=b:=by
  show (aD 64 _).toNat=_
  rw [cV];omega
 rw [e2,e3]
 have e4:a * 2 ^ k ||| b=a * 2 ^ k+b:=by
  have:=Nat.shiftLeft_add_eq_or_of_lt hb a
  rw [Nat.shiftLeft_eq] at this
  exact this.symm
 rw [e4]
 exact ay _ (by omega)
theorem zu {m k:Nat} (hm:m<4294967296) (hk:k≤16):ar.wrap (((aD ar.bits (m:Int) &&& aD ar.bits ((2 ^ k - 1:Nat):Int)).toNat:Nat):Int)=((m % 2 ^ k:Nat):Int):=by
 rw [EV]
 have h2:2 ^ k≤2 ^ 16:=gx (by omega) hk
 have h0:0<2 ^ k:=Nat.two_pow_pos k
 have e1:(aD ar.bits (m:Int)).toNat=m:=by
  show (aD 64 _).toNat=_
  rw [cV];omega
 have e2:(aD ar.bits ((2 ^ k - 1:Nat):Int)).toNat=2 ^ k - 1:=by
  show (aD 64 _).toNat=_
  rw [cV];omega
 rw [e1,e2,zD m k]
 have:=fa m h0
 exact ay _ (by omega)
theorem li (m k:Nat) (hk:k≤16):(m:Int).fdiv (2 ^ min k 64)=((m / 2 ^ k:Nat):Int):=by
 rw [Nat.min_eq_left (by omega),zI _ (by exact Int.le_of_lt (Int.pow_pos (by decide)))]
 simp
theorem MP (w0:World) (X:List aH) (hX:bP X) (ad:AV) (had:ad=.nilp∨ad=.own X.length 0) (i:Nat) (q:nM) (n:Nat) (hn:n<256) (hq:(q.wait=0∧q.rest=0)∨(q.wait=2∧q.rest<4)∨(q.wait=4∧q.rest<16)) (hlen:q.out.length≤100000) (R:Rt)
  (h:∀ i',R (.ret (.tup [.int .i64 ((eZ q n).wait:Nat),.int .i64 ((eZ q n).rest:Nat)])) (X++eK X.length (.own X.length 0) i' ((eZ q n).out.map bO) 8 6 (.fn (.func 191) [] [.own X.length 0]) ((eZ q n).wait:Nat) ((eZ q n).rest:Nat))) :
  az Tryz.prog w0 231 [.int .i64 n,.own (X.length+5) 0,.own (X.length+1) 0,.own (X.length+4) 0,.own (X.length+2) 0,.own (X.length+3) 0] (X++eK X.length ad i (q.out.map bO) 8 6 (.fn (.func 191) [] [.own X.length 0]) (q.wait:Nat) (q.rest:Nat)) R:=by
 obtain⟨o,w,r⟩:=q
 have w2:ar.wrap 2=2:=by decide
 have w4:ar.wrap 4=4:=by decide
 have w6:ar.wrap 6=6:=by decide
 have w8:ar.wrap 8=8:=by decide
 have w10:ar.wrap 10=10:=by decide
 have w12:ar.wrap 12=12:=by decide
 have wz:ar.wrap 0=0:=by decide
 have c0:((0:Nat):Int)=0:=rfl
 have c2:((2:Nat):Int)=2:=rfl
 have c4:((4:Nat):Int)=4:=rfl
 simp only at hq hlen
 obtain⟨m,hmm⟩:∃ m,m=r * 256+n:=⟨_,rfl⟩
 have hor:=M_ (a:=r) (b:=n) (k:=8) (by omega) (by omega) (by omega)
 have hmp:r * 2 ^ 8+n=m:=by omega
 rw [hmp] at hor
 simp only [bz] at hor
 clear hmp
 have hm:m<256 * 2 ^ w:=by rcases hq with⟨rfl,hr⟩ | ⟨rfl,hr⟩ | ⟨rfl,hr⟩<;>omega
 rcases hq with⟨rfl,hr⟩ | ⟨rfl,hr⟩ | ⟨rfl,hr⟩
 ·have e:eZ ⟨o,0,r⟩ n=⟨o++[m / 4],2,m % 4⟩:=by rw [hmm];rfl
  rw [e] at h
  have hv:m / 4<64:=by omega
  have h1:=li m 2 (by omega)
  have h2:=zu (m:=m) (k:=2) (by omega) (by omega)
  have h3:ar.wrap (ar.wrap (1 * 2 ^ min 2 64) - 1)=3:=by decide
  have h1:(m:Int).fdiv (2 ^ min 2 64)=((m / 4:Nat):Int):=h1
  have h2:ar.wrap (((aD ar.bits (m:Int) &&& aD ar.bits 3).toNat:Nat):Int)=((m % 4:Nat):Int):=h2
  simp only [bz] at h2
  have hp:=An w0 X hX ad had i (o.map bO) 8 6 2 m (m / 4) hv (by rw [bB];omega)
  have hok:=fun B=>Gb X hX (.own X.length 0) (.inr rfl) (i+1) B 8 6 191 2 ((m % 4:Nat):Int)
  simp only [co,aG,aL] at h
  generalize o.map bO++[bO (m / 4)]=B at h hp
  generalize o.map bO=A at h hp ⊢
  have h:=h (i+1)
  unfold eK at h hp hok ⊢
  simp only at h hp hok ⊢
  have Hok:=au (hok B)
  clear hX had hn hr e hm hmm hv hlen hok
  refine eN Tryz.func231 rfl Tryz.ntmps231 fun hO=>?_
  repeat' first | refine st ?_ | (refine ca ?_;apply hp) | (refine br ?_ ?_<;>intro hb) | apply cP | apply eg | refine sd ?_ | apply aE | (apply aO;(· decide +kernel)) | refine bd ?_ ?_ | (refine cd ?_;apply hp) | fail
  ·repeat' first | exact aE | refine gI ?_ | refine ij (by decide +kernel) ?_
  refine GP Tryz.results231 ?_ ?_ ?_
  ·exact Hok.out
  ·simp
  ·exact h
 ·have e:eZ ⟨o,2,r⟩ n=⟨o++[m / 16],4,m % 16⟩:=by rw [hmm];rfl
  rw [e] at h
  have hv:m / 16<64:=by omega
  have h1:=li m 4 (by omega)
  have h2:=zu (m:=m) (k:=4) (by omega) (by omega)
  have h3:ar.wrap (ar.wrap (1 * 2 ^ min 4 64) - 1)=15:=by decide
  have h1:(m:Int).fdiv (2 ^ min 4 64)=((m / 16:Nat):Int):=h1
  have h2:ar.wrap (((aD ar.bits (m:Int) &&& aD ar.bits 15).toNat:Nat):Int)=((m % 16:Nat):Int):=h2
  simp only [bz] at h2
  have hp:=An w0 X hX ad had i (o.map bO) 8 6 4 m (m / 16) hv (by rw [bB];omega)
  have hok:=fun B=>Gb X hX (.own X.length 0) (.inr rfl) (i+1) B 8 6 191 4 ((m % 16:Nat):Int)
  simp only [co,aG,aL] at h
  generalize o.map bO++[bO (m / 16)]=B at h hp
  generalize o.map bO=A at h hp ⊢
  have h:=h (i+1)
  unfold eK at h hp hok ⊢
  simp only at h hp hok ⊢
  have Hok:=au (hok B)
  clear hX had hn hr e hm hmm hv hlen hok
  refine eN Tryz.func231 rfl Tryz.ntmps231 fun hO=>?_
  repeat' first | refine st ?_ | (refine ca ?_;apply hp) | (refine br ?_ ?_<;>intro hb) | apply cP | apply eg | refine sd ?_ | apply aE | (apply aO;(· decide +kernel)) | refine bd ?_ ?_ | (refine cd ?_;apply hp) | fail
  ·repeat' first | exact aE | refine gI ?_ | refine ij (by decide +kernel) ?_
  refine GP Tryz.results231 ?_ ?_ ?_
  ·exact Hok.out
  ·simp
  ·exact h
 ·have e:eZ ⟨o,4,r⟩ n=⟨o++[m / 64,m % 64],0,0⟩:=by rw [hmm];rfl
  rw [e] at h
  have hv:m / 64<64:=by omega
  have hv2:m % 64<64:=by omega
  have h1:=li m 6 (by omega)
  have h2:=zu (m:=m) (k:=6) (by omega) (by omega)
  have h3:ar.wrap (ar.wrap (1 * 2 ^ min 6 64) - 1)=63:=by decide
  have h4:ar.wrap (ar.wrap (1 * 2 ^ min 0 64) - 1)=0:=by decide
  have h1:(m:Int).fdiv (2 ^ min 6 64)=((m / 64:Nat):Int):=h1
  have h2:ar.wrap (((aD ar.bits (m:Int) &&& aD ar.bits 63).toNat:Nat):Int)=((m % 64:Nat):Int):=h2
  simp only [bz] at h2
  obtain⟨u,hu⟩:∃ u,u=m % 64:=⟨_,rfl⟩
  have hu1:(u:Int).fdiv (2 ^ min 0 64)=(u:Int):=by have:=li u 0 (by omega);simpa using this
  have hu2:=zu (m:=u) (k:=0) (by omega) (by omega)
  have hu2:ar.wrap (((aD ar.bits (u:Int) &&& aD ar.bits 0).toNat:Nat):Int)=0:=by rw [Nat.pow_zero,Nat.mod_one] at hu2;exact hu2
  simp only [bz] at hu2
  rw [← hu] at h2 h hv2
  have hp:=An w0 X hX ad had i (o.map bO) 8 6 6 m (m / 64) hv (by rw [bB];omega)
  have hp2:=An w0 X hX (.own X.length 0) (.inr rfl) (i+1) (o.map bO++[bO (m / 64)]) 8 6 0 (u:Int) u hv2 (by rw [ab,bB];simp;omega)
  have hok:=fun B=>Gb X hX (.own X.length 0) (.inr rfl) (i+1+1) B 8 6 191 0 0
  simp only [co,aG,aL] at h
  rw [show bS bO o++[bO (m / 64),bO u]=(bS bO o++[bO (m / 64)])++[bO u] by simp] at h
  generalize hB:o.map bO++[bO (m / 64)]=B at h hp hp2
  generalize hC:B++[bO u]=C at h hp2
  generalize o.map bO=A at h hp ⊢
  have h:=h (i+1+1)
  unfold eK at h hp hp2 hok ⊢
  simp only at h hp hp2 hok ⊢
  have Hok:=au (hok C)
  clear hX had hn hr e hm hmm hv hv2 hlen hok hB hC hu
  refine eN Tryz.func231 rfl Tryz.ntmps231 fun hO=>?_
  repeat' first | refine st ?_ | (refine ca ?_;first | apply hp | apply hp2) | (refine br ?_ ?_<;>intro hb) | apply cP | apply eg | refine sd ?_ | apply aE | (apply aO;(· decide +kernel)) | refine bd ?_ ?_ | (refine cd ?_;first | apply hp | apply hp2) | fail
  ·repeat' first | exact aE | refine gI ?_ | refine ij (by decide +kernel) ?_
  ·repeat' first | exact aE | refine gI ?_ | refine ij (by decide +kernel) ?_
  refine GP Tryz.results231 ?_ ?_ ?_
  ·exact Hok.out
  ·simp
  ·exact h
theorem wa (w0:World) (S:List aH) (a:Nat) (ad v:AV) (l:Nat) (ha:S[a]? = some (.cells [ad,v] (some 90))) (hv:v=.snil∧l=0∨(∃ g i,v=.sown g i l)) (R:Rt) (h:R (.ret (.int .i64 l)) S):az Tryz.prog w0 195 [.own a 0] S R:=by
 rcases hv with⟨rfl,rfl⟩ | ⟨g,i,rfl⟩
 ·have h:R (.ret (.int .i64 0)) S:=h
  refine eN Tryz.func195 rfl Tryz.ntmps195 fun hO=>?_
  repeat' first | refine st ?_ | (refine br ?_ ?_<;>intro hb) | fail
  refine fR Tryz.results195 ?_
  exact h
 ·refine eN Tryz.func195 rfl Tryz.ntmps195 fun hO=>?_
  repeat' first | refine st ?_ | (refine br ?_ ?_<;>intro hb) | fail
  refine fR Tryz.results195 ?_
  exact h
theorem ME (w0:World) (X:List aH) (ad:AV) (had:ad=.nilp∨ad=.own X.length 0) (i:Nat) (bs:List UInt8) (fr tz:Int) (hv:AV) (wt rs:Int) (hpos:1≤bs.length) (R:Rt)
  (h:R (.ret (.str bs)) (X++[aH.cells [ad,.sown (X.length+6) i bs.length] (some 90),aH.cells [.int .i64 fr],aH.cells [.int .i64 tz],aH.cells [hv],aH.cells [.int .i64 wt],aH.cells [.int .i64 rs],.dead])) :
  az Tryz.prog w0 41 [.own X.length 0] (X++eK X.length ad i bs fr tz hv wt rs) R:=by
 refine qo w0 _ X.length (X.length+6) i ad bs ⟨by simp [eK],by rw [aM (by omega)];simp [eK],had⟩ hpos R ?_
 unfold eK
 rw [ef _ _ (by omega)]
 simpa using h
def ip (s:List UInt8) (k:Nat):nM:=((s.map aV).take k).foldl eZ ⟨[],0,0⟩
theorem sJ {s:List UInt8}{k:Nat}{b:UInt8} (h:s[k]? = some b):ip s (k+1)=eZ (ip s k) b.toNat:=by
 unfold ip
 have:(s.map aV)[k]? = some b.toNat:=by rw [aQ,h];rfl
 rw [pI,this,List.foldl_append];rfl
def B7 (q:nM):Prop:=(q.wait=0∧q.rest=0)∨(q.wait=2∧q.rest<4)∨(q.wait=4∧q.rest<16)
theorem Bu {q:nM}{v:Nat} (h:B7 q) (hv:v<256):B7 (eZ q v)∧(eZ q v).out.length≤q.out.length+2:=by
 obtain⟨o,w,r⟩:=q
 unfold B7 eZ at *
 simp only at *
 rcases h with⟨rfl,rfl⟩ | ⟨rfl,h⟩ | ⟨rfl,h⟩<;>simp<;>omega
theorem Al (s:List UInt8):∀ k,k≤s.length→B7 (ip s k)∧(ip s k).out.length≤2 * k
 | 0,_=>by unfold ip B7;simp
 | k+1,h=>by
  obtain⟨h1,h2⟩:=Al s k (by omega)
  have hx:s[k]? = some (s[k]'(by omega)):=aC (by omega)
  obtain⟨h3,h4⟩:=Bu h1 (s[k]'(by omega)).toNat_lt
  rw [sJ hx]
  exact⟨h3,by omega⟩
theorem BN (s:List UInt8):(lS (ip s s.length)).map bO=gY s:=by
 unfold ip gY
 rw [← Eb _ (toNat_lt s)]
 unfold Kx
 rw [show s.length=(s.map aV).length by simp,bQ]
theorem xI (s:List UInt8):(gY s).length=(8 * s.length+5) / 6:=by unfold gY;simp [pq]
theorem JR (n:Nat):(n+2) / 3 * 4=(8 * n+5) / 6+jf ((8 * n+5) / 6):=by unfold jf;omega
theorem Mg:Go.Proofs.Builder.Extra Tryz.prog Go.Proofs.Tryz.lays105_ren where
 sizeBuilder:=by kernel_rfl
 liesBuilder:=by kernel_rfl
 t5:=Go.Proofs.Tryz.lays105.t5
 a5:=Go.Proofs.Tryz.lays105.a5
 z5:=Go.Proofs.Tryz.lays105.z5
 v5:=Go.Proofs.Tryz.lays105.v5
 infoByte:=by kernel_rfl
 cellsByte:=by kernel_rfl
 sizeByte:=by kernel_rfl
 neB5:=by decide +kernel
theorem z_ (w0:World) (S:List aH) (s:List UInt8) (n:Nat) (hn:n≤9223372036854775807) (hl:s.length * n≤140737488355328) (R:Rt) (h:R (.ret (.str (oL s n))) S):az Tryz.prog w0 193 [.str s,.int .i64 n] S R:=by
 refine az.lib (vs:=[.string ⟨s.toArray⟩,.int .i64 n]) (v:=.str (oL s n)) (c:=.string ⟨(oL s n).toArray⟩) (Go.Proofs.enters_of Tryz.func193 (by kernel_rfl) rfl) rfl rfl ?_ h
 intro w hb
 refine(Go.Proofs.Any.strings_Repeat Go.Proofs.Tryz.lays105 Mg ⟨s.toArray⟩ n w hn (by rw [show (⟨s.toArray⟩:ByteArray).size=s.length from rfl];exact hl)).mono ?_
 rintro e w' ⟨rfl,hw⟩
 exact⟨rfl,hw⟩
theorem yE (c:UInt8) (n:Nat):oL [c] n=bL n c:=by
 induction n with
 | zero=>rfl
 | succ n ih=>rw [oL,ih,mn];rfl
theorem DC (w0:World) (S:List aH) (R:Rt) (h:R (.ret (.tup [.str [],.int .i64 0])) S):az Tryz.prog w0 117 [.str []] S R:=by
 have hr:=fun S'=>rZ w0 S' 8 6 191 S.length (by decide)
 have hbe:=fun S' ha=>s_ w0 S' S.length ha
 have hbl:=fun S' ha=>wa w0 S' S.length .nilp .snil 0 ha (.inl ⟨rfl,rfl⟩)
 have hsz:=fun S' (R:Rt) (h:R (.ret (.int .i64 0)) S')=>Ih w0 S' 0 (by decide) R h
 have hre:=fun S' (R:Rt) (h:R (.ret (.str [])) S')=>z_ w0 S' [61] 0 (by decide) (by decide) R h
 have wz:ar.wrap 0=0:=by decide
 have h:R (.ret (.tup [.str [],.int .i64 0])) S:=h
 refine eN Tryz.func117 rfl Tryz.ntmps117 fun hO=>?_
 repeat' first | refine st ?_ | (refine ca ?_;first | apply hr | (apply hbe;(· simp only [go_sem, *];try rfl)) | (apply hbl;(· simp only [go_sem, *];try rfl)) | apply hsz | apply hre) | (refine br ?_ ?_<;>intro hb) | apply cP | apply eg | fail
 refine fR Tryz.results117 ?_
 exact h
theorem Gn (w0:World) (S:List aH) (s:List UInt8) (hs:s.length≤4096) (R:Rt) (h:R (.ret (.tup [.str (iW s),.int .i64 0])) S):az Tryz.prog w0 117 [.str s] S R:=by
 by_cases hn:s=[]
 ·subst hn
  exact DC w0 S R h
 have hpos:0<s.length:=mq.2 hn
 have hr:=fun S'=>rZ w0 S' 8 6 191 S.length (by decide)
 have d0:decide ((4096:Int)<(s.length:Int))=false:=by simp;omega
 have H:=au h
 clear hn h
 refine eN Tryz.func117 rfl Tryz.ntmps117 fun hO=>?_
 repeat' first | refine st ?_ | (refine ca ?_;apply hr) | (refine br ?_ ?_<;>intro hb) | fail
 refine lD (a:=S.length) (j:=1) 5 1 ss ss (by decide) ?_
 simp only [go_sem, *]
 refine dX (fun (p:Nat × Nat × AV) env S'=>p.1≤s.length∧(p.2.2=.nilp∨p.2.2=.own S.length 0)∧env 1000000=.dfr []∧env 0=.str s∧env 4=.own S.length 0∧env 5=.fn (.func 231) [] [.own (S.length+5) 0,.own (S.length+1) 0,.own (S.length+4) 0,.own (S.length+2) 0,.own (S.length+3) 0] ∧
  env 6=.int .i64 ((ip s p.1).wait:Nat)∧env 7=.int .i64 ((ip s p.1).rest:Nat)∧env 15=.int .i64 s.length∧env 16=.int .i64 (p.1:Int) ∧
  S'=S++eK S.length p.2.2 p.2.1 ((ip s p.1).out.map bO) 8 6 (.fn (.func 191) [] [.own S.length 0]) ((ip s p.1).wait:Nat) ((ip s p.1).rest:Nat)) (fun p=>s.length - p.1) (0,0,.nilp) ?_ ?_
 ·exact⟨bI _,.inl rfl,ss,ss,ss,ss,ss,ss,ss,ss,rfl⟩
 ·rintro⟨k,i,ad⟩ env S' ⟨hk,had,e0,f0,f4,f5,f6,f7,f15,f16,rfl⟩ IH
  simp only at hk had f6 f7 f16
  have HI:=au IH
  obtain⟨hi1,hi2⟩:=Al s k hk
  clear IH
  by_cases hlt:k<s.length
  ·obtain⟨b,hx⟩:∃ b,s[k]? = some b:=⟨_,aC hlt⟩
   have h1:decide ((k:Int)<(s.length:Int))=true:=by simpa using hlt
   have hw:ar.wrap ((k:Int)+1)=(k:Int)+1:=ay _ (by omega)
   have hwb:ar.wrap (b.toNat:Int)=(b.toNat:Int):=ay _ (by have:=b.toNat_lt;omega)
   have hg:=MP w0 S hO ad had i (ip s k) b.toNat b.toNat_lt hi1 (by omega)
   rw [← sJ hx] at hg
   generalize hp1:((ip s (k+1)).wait:Int)=p1 at hg
   generalize hp2:((ip s (k+1)).rest:Int)=p2 at hg
   generalize hp3:(ip s (k+1)).out.map bO=p3 at hg
   have Hp:=au (cD hp1 (cD hp2 hp3))
   clear hp1 hp2 hp3
   unfold eK at hg
   simp only at hg ⊢
   generalize ((ip s k).wait:Int)=q1 at *
   generalize ((ip s k).rest:Int)=q2 at *
   generalize (ip s k).out.map bO=q3 at *
   have Hlt:=au hlt
   have HO:=au hO
   clear hlt hk had hpos hs hi1 hi2 hO
   repeat' first | refine st ?_ | (refine ca ?_;apply hg) | (refine br ?_ ?_<;>intro hb) | fail
   intro i'
   repeat' first | refine st ?_ | (refine br ?_ ?_<;>intro hb) | fail
   obtain⟨hp1,hp2,hp3⟩:=Hp.out
   subst hp1 hp2 hp3
   refine HI.out (k+1,i',.own S.length 0) _ _ (by have:=Hlt.out;simp only;omega) ⟨Hlt.out,.inr rfl, ?_, ?_, ?_, ?_, ?_, ?_, ?_, ?_,rfl⟩
   all_goals (simp only [go_sem, *];try rfl)
  ·have hkl:k=s.length:=by omega
   subst hkl
   have h1:decide ((s.length:Int)<(s.length:Int))=false:=by simp
   have hea:=BN s
   have hel:=xI s
   have hpe:=JR s.length
   rw [← hel] at hpe
   have hh:=H.out
   unfold iW at hh
   have hsz:=fun S'=>Ih w0 S' s.length (by omega)
   rw [hpe] at hsz
   have hp4:jf (gY s).length≤3:=by unfold jf;omega
   have hre:=fun S'=>z_ w0 S' [61] (jf (gY s).length) (by omega) (by simp;omega)
   simp only [yE] at hre
   have hwp:ar.wrap (((gY s).length+jf (gY s).length:Nat) - ((gY s).length:Int))=((jf (gY s).length:Nat):Int):=by rw [ay _ (by omega)];omega
   have hBl:1≤(gY s).length:=by omega
   have hle:(gY s).length+(bL (jf (gY s).length) (61:UInt8)).length≤9223372036854775807:=by simp;omega
   generalize ip s s.length=q at *
   generalize jf (gY s).length=pd at *
   have hBl2:(gY s).length≤100000:=by omega
   clear hel hpe hs hpos hk HI H hp4
   obtain⟨o,w,r⟩:=q
   simp only at f6 f7 hi2 ⊢
   unfold B7 at hi1
   simp only at hi1
   generalize gY s=B at *
   rcases hi1 with⟨rfl,rfl⟩ | ⟨rfl,hr2⟩ | ⟨rfl,hr2⟩
   ·have e:o.map bO=B:=by simpa [lS] using hea
    rw [e]
    have hst:=ME w0 S ad had i B 8 6 (.fn (.func 191) [] [.own S.length 0]) 0 0 hBl
    have hln:=fun S' ha=>wa w0 S' S.length ad (.sown (S.length+6) i B.length) B.length ha (.inr ⟨_,_,rfl⟩)
    unfold eK at hst ⊢
    have HO:=au hO
    clear hea had hO hBl hBl2 hi2 e
    repeat' first | refine st ?_ | (refine ca ?_;first | apply hst | apply hsz | (apply hln;(· simp only [go_sem, *];try rfl)) | apply hre) | (refine br ?_ ?_<;>intro hb) | fail
    refine fR Tryz.results117 ?_
    exact hh
   ·have e:o.map bO++[bO (r * 16)]=B:=by rw [← hea];simp [lS]
    obtain⟨v,hv⟩:∃ v,v=r * 16:=⟨_,rfl⟩
    rw [← hv] at e
    have hsh:ar.wrap ((r:Int) * 2 ^ min 4 64)=(v:Int):=by rw [show (2:Int) ^ min 4 64=16 by decide,ay _ (by omega)];omega
    have hwd:ar.wrap 4=4:=by decide
    have hc2:((2:Nat):Int)=2:=rfl
    have hsg:([65,66,67,68,69,70,71,72,73,74,75,76,77,78,79,80,81,82,83,84,85,86,87,88,89,90,97,98,99,100,101,102,103,104,105,106,107,108,109,110,111,112,113,114,115,116,117,118,119,120,121,122,48,49,50,51,52,53,54,55,56,57,43,47]:List UInt8)[v]? = some (bO v):=by
     have:∀ v,v<64→pU[v]? = some (bO v):=by decide +kernel
     exact this v (by omega)
    have hol:o.length≤1000000:=by have:=congrArg lz e;simp at this;omega
    generalize bO v=c at hsg e
    have hwb:=Mx w0 S ad had i (o.map bO) 8 6 (.fn (.func 191) [] [.own S.length 0]) 2 (r:Int) c (by rw [bB];exact hol)
    rw [e] at hwb
    have hst:=ME w0 S (.own S.length 0) (.inr rfl) (i+1) B 8 6 (.fn (.func 191) [] [.own S.length 0]) 2 (r:Int) hBl
    have hln:=fun S' ha=>wa w0 S' S.length (.own S.length 0) (.sown (S.length+6) (i+1) B.length) B.length ha (.inr ⟨_,_,rfl⟩)
    generalize o.map bO=A at *
    unfold eK at hst hwb ⊢
    have HO:=au hO
    clear hea had hO hBl hBl2 hi2 e hol hr2 hv
    repeat' first | refine st ?_ | (refine ca ?_;first | apply hwb | apply hst | apply hsz | (apply hln;(· simp only [go_sem, *];try rfl)) | apply hre) | (refine br ?_ ?_<;>intro hb) | fail
    refine fR Tryz.results117 ?_
    exact hh
   ·have e:o.map bO++[bO (r * 4)]=B:=by rw [← hea];simp [lS]
    obtain⟨v,hv⟩:∃ v,v=r * 4:=⟨_,rfl⟩
    rw [← hv] at e
    have hsh:ar.wrap ((r:Int) * 2 ^ min 2 64)=(v:Int):=by rw [show (2:Int) ^ min 2 64=4 by decide,ay _ (by omega)];omega
    have hwd:ar.wrap 2=2:=by decide
    have hc2:((4:Nat):Int)=4:=rfl
    have hsg:([65,66,67,68,69,70,71,72,73,74,75,76,77,78,79,80,81,82,83,84,85,86,87,88,89,90,97,98,99,100,101,102,103,104,105,106,107,108,109,110,111,112,113,114,115,116,117,118,119,120,121,122,48,49,50,51,52,53,54,55,56,57,43,47]:List UInt8)[v]? = some (bO v):=by
     have:∀ v,v<64→pU[v]? = some (bO v):=by decide +kernel
     exact this v (by omega)
    have hol:o.length≤1000000:=by have:=congrArg lz e;simp at this;omega
    generalize bO v=c at hsg e
    have hwb:=Mx w0 S ad had i (o.map bO) 8 6 (.fn (.func 191) [] [.own S.length 0]) 4 (r:Int) c (by rw [bB];exact hol)
    rw [e] at hwb
    have hst:=ME w0 S (.own S.length 0) (.inr rfl) (i+1) B 8 6 (.fn (.func 191) [] [.own S.length 0]) 4 (r:Int) hBl
    have hln:=fun S' ha=>wa w0 S' S.length (.own S.length 0) (.sown (S.length+6) (i+1) B.length) B.length ha (.inr ⟨_,_,rfl⟩)
    generalize o.map bO=A at *
    unfold eK at hst hwb ⊢
    have HO:=au hO
    clear hea had hO hBl hBl2 hi2 e hol hr2 hv
    repeat' first | refine st ?_ | (refine ca ?_;first | apply hwb | apply hst | apply hsz | (apply hln;(· simp only [go_sem, *];try rfl)) | apply hre) | (refine br ?_ ?_<;>intro hb) | fail
    refine fR Tryz.results117 ?_
    exact hh
end Go.Proofs.YthdbijpefkapnaaGreatDoor
