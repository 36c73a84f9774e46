/- A part of the proof. -/
import Derived.Test.YthdbijpefkapnaaGreatDoorOfWalk0
import Derived.Shelf.LaysM
import Derived.Shelf.Strconv.Itoa3
import Derived.Shelf.Abstract
import Derived.Lib.ItoaLen
import Derived.Lib.AppendIntMem
import Derived.Test.YthdbijpefkapnaaGreatDoorOfShelf
import Derived.Lib.ItoaMem
set_option linter.all false
set_option maxHeartbeats 40000000
open And renaming intro → a7
open BitVec renaming ofInt → ar
open Bool renaming and_eq_true → aq, not_eq_false' → aE, not_eq_true' → ay
open Function renaming comp_def → aY
open Go.IntKind renaming bits → bk, i64 → ae, u8 → a6
open Go.IntWalk renaming i64_in → ai
open Go.Lib renaming hid → ab, itoa → gD
open List renaming all_eq_true → aD, all_map → bz, append_assoc → aP, append_nil → aG, cons_append → fQ, flatMap_cons → kF, foldl_cons → g9, getElem?_append_left → au, getElem?_append_right → aA, getElem?_eq_getElem → ap, getElem?_eq_some_iff → af, getElem?_map → aJ, getElem?_set_ne → be, length_append → ah, length_cons → aB, length_map → bi, length_take_le → nl, map → bn, map_append → aM, map_map → Fl, mem_append → bV, mem_cons → bD, mem_cons_of_mem → iv, mem_map → aN, mem_of_getElem? → ax, mem_singleton → a_, nil_append → gu, not_mem_nil → gZ, set_append_right → eI, take_add_one → jW, take_length → bC, take_of_length_le → dJ, take_zero → aO, toList_toArray → bj
open Nat renaming add_sub_cancel_left → CD, le_refl → ba, mod_eq_of_lt → pS, mod_lt → eh, zero_le → bf
open Option renaming toList_some → iX
open UInt8 renaming ofNat → az, toNat → aK
namespace Go.Proofs.YthdbijpefkapnaaGreatDoor
open Go Go.Fen Go.Proofs.Tryz
attribute [local irreducible] aX WP ao dS i7 cJ aU cC
set_option maxRecDepth 8000
variable (w0:World) (S:List aH)
theorem mF(m:Nat):a6.wrap (m:Int)=((m % 256:Nat):Int):=by
 have h:a6.wrap (m:Int)=(m:Int) % 256:=by simp [IntKind.wrap,IntKind.signed,bk]
 rw [h]
 omega
theorem Mq:∀ x:Nat,x<256→a6.wrap (((ar a6.bits 128 ||| ar a6.bits (a6.wrap (((ar a6.bits (x:Int) &&& ar a6.bits 63).toNat:Nat):Int))).toNat:Nat):Int)=((128+x % 64:Nat):Int):=by decide +kernel
theorem Mp:∀ x:Nat,x<32→a6.wrap (((ar a6.bits 192 ||| ar a6.bits (x:Int)).toNat:Nat):Int)=((192+x:Nat):Int):=by decide +kernel
theorem Mo:∀ x:Nat,x<16→a6.wrap (((ar a6.bits 224 ||| ar a6.bits (x:Int)).toNat:Nat):Int)=((224+x:Nat):Int):=by decide +kernel
theorem Mn:∀ x:Nat,x<8→a6.wrap (((ar a6.bits 240 ||| ar a6.bits (x:Int)).toNat:Nat):Int)=((240+x:Nat):Int):=by decide +kernel
theorem KY(cp k:Nat)(hk:k≤64):(cp:Int).fdiv (2 ^ min k 64)=((cp / 2 ^ k:Nat):Int):=by
 rw [Nat.min_eq_left hk,Int.fdiv_eq_ediv_of_nonneg _ (Int.le_of_lt (Int.pow_pos δ))]
 rw [Int.natCast_ediv,Int.natCast_pow]
 rfl
theorem wW(a cp k:Nat)(hk:k≤64)(ha:S[a]? = some (.cells [.int .i64 cp]))(R:Rt)(h:R (.ret (.int .u8 (128+cp / 2 ^ k % 64:Nat))) S) :
  ao prog w0 270 [.int .i64 k,.own a 0] S R:=by
 have hf:=KY cp k hk
 have hw:=mF (cp / 2 ^ k)
 have hx:=Mq (cp / 2 ^ k % 256) (eh _ δ)
 have hm:cp / 2 ^ k % 256 % 64=cp / 2 ^ k % 64:=ω
 have h0:(0:Int)≤(k:Int):=ω
 rw [hm] at hx
 simp only [bk] at hx
 clear hm hk
 exact γR0 func270 ntmps270 results270 h
def qc(cp:Nat):List UInt8:=(tP cp).map az
theorem Ns(cp:Nat)(hb:cp<4294967296)(R:Rt)(h:R (.ret (.str (qc cp))) S):ao prog w0 229 [.int .i64 cp] S R:=by
 have hck:=fun S'=>CX w0 S' cp
 unfold qc tP at h
 cases hok:tI cp with
 | false =>
  rw [hok,if_neg δ] at h
  rw [hok] at hck
  have h:R (.ret (.str [239,191,189])) S:=h
  have c0:=fun S' ha=>wW w0 S' S.length 65533 0 δ ha
  have c6:=fun S' ha=>wW w0 S' S.length 65533 6 δ ha
  have q6:(128+65533 / 2 ^ 6 % 64:Nat)=191:=rfl
  have q0:(128+65533 / 2 ^ 0 % 64:Nat)=189:=rfl
  rw [q0] at c0
  rw [q6] at c6
  have k0:(((0:Nat):Int))=0:=rfl
  have k6:(((6:Nat):Int))=6:=rfl
  have kc:(((65533:Nat):Int))=65533:=rfl
  rw [k0] at c0
  rw [k6] at c6
  rw [kc] at c0 c6
  have z1:a6.wrap (((ar a6.bits 224 ||| ar a6.bits (a6.wrap ((65533:Int).fdiv (2 ^ min 12 64)))).toNat:Nat):Int)=239:=δ
  simp only [bk] at z1
  clear q0 q6 k0 k6 kc hb hok
  refine eN func229 rfl ntmps229 fun hO=>?_
  refine Δ12 hck c0 c6 ?_
  refine fR results229 ?_
  exact h
 | true =>
  rw [hok,if_pos rfl] at h
  rw [hok] at hck
  have hle:cp≤1114111:=by
   simp only [tI,aq,decide_eq_true_eq] at hok
   exact hok.1
  have c0:=fun S' ha=>wW w0 S' S.length cp 0 δ ha
  have c6:=fun S' ha=>wW w0 S' S.length cp 6 δ ha
  have c12:=fun S' ha=>wW w0 S' S.length cp 12 δ ha
  have k0:(((0:Nat):Int))=0:=rfl
  have k6:(((6:Nat):Int))=6:=rfl
  have k12:(((12:Nat):Int))=12:=rfl
  rw [k0] at c0
  rw [k6] at c6
  rw [k12] at c12
  have f6:=KY cp 6 δ
  have f12:=KY cp 12 δ
  have f18:=KY cp 18 δ
  have w0':=mF cp
  have w6:=mF (cp / 2 ^ 6)
  have w12:=mF (cp / 2 ^ 12)
  have w18:=mF (cp / 2 ^ 18)
  clear hok hb k0 k6 k12
  by_cases h1:cp<128
  ·have d1:decide ((cp:Int)<128)=true:=by simpa using (show (cp:Int)<128 by omega)
   have e:kI cp=[cp]:=by unfold kI;rw [if_pos h1]
   rw [e] at h
   rw [pS (show cp<256 by omega)] at w0'
   have h:R (.ret (.str [az cp])) S:=h
   clear e h1 hle c0 c6 c12 f6 f12 f18 w6 w12 w18
   exact ΓR1 hck func229 ntmps229 results229 h
  have d1:decide ((cp:Int)<128)=false:=κ
  by_cases h2:cp<2048
  ·have d2:decide ((cp:Int)<2048)=true:=κ
   have e:kI cp=[192+cp / 2 ^ 6,128+cp / 2 ^ 0 % 64]:=by unfold kI;rw [if_neg h1,if_pos h2];simp
   rw [e] at h
   have h:R (.ret (.str [az (192+cp / 2 ^ 6),az (128+cp / 2 ^ 0 % 64)])) S:=h
   have hx:cp / 2 ^ 6<32:=ω
   have o:=Mp _ hx
   rw [pS (show cp / 2 ^ 6<256 by omega)] at w6
   simp only [bk] at o
   clear e h1 h2 hle c6 c12 f12 f18 w0' w12 w18
   refine eN func229 rfl ntmps229 fun hO=>?_
   repeat' first|refine st ?_|(refine ca ?_;first|apply hck|(apply c0;(· simp only [go_sem, *];try rfl)))|(refine br ?_ ?_<;>intro hb)|refine sd ?_|apply aw|(apply aF;(· decide +kernel))|refine bd ?_ ?_|(refine cd ?_;first|apply hck|(apply c0;(· simp only [go_sem, *];try rfl)))|fail
   refine fR results229 ?_
   exact h
  have d2:decide ((cp:Int)<2048)=false:=κ
  by_cases h3:cp<65536
  ·have d3:decide ((cp:Int)<65536)=true:=κ
   have e:kI cp=[224+cp / 2 ^ 12,128+cp / 2 ^ 6 % 64,128+cp / 2 ^ 0 % 64]:=by unfold kI;rw [if_neg h1,if_neg h2,if_pos h3];simp
   rw [e] at h
   have h:R (.ret (.str [az (224+cp / 2 ^ 12),az (128+cp / 2 ^ 6 % 64),az (128+cp / 2 ^ 0 % 64)])) S:=h
   have hx:cp / 2 ^ 12<16:=ω
   have o:=Mo _ hx
   rw [pS (show cp / 2 ^ 12<256 by omega)] at w12
   simp only [bk] at o
   clear e h1 h2 h3 hle c12 f6 f18 w0' w6 w18
   refine eN func229 rfl ntmps229 fun hO=>?_
   refine Δ12 hck c0 c6 ?_
   refine fR results229 ?_
   exact h
  have d3:decide ((cp:Int)<65536)=false:=κ
  have e:kI cp=[240+cp / 2 ^ 18,128+cp / 2 ^ 12 % 64,128+cp / 2 ^ 6 % 64,128+cp / 2 ^ 0 % 64]:=by unfold kI;rw [if_neg h1,if_neg h2,if_neg h3];simp
  rw [e] at h
  have h:R (.ret (.str [az (240+cp / 2 ^ 18),az (128+cp / 2 ^ 12 % 64),az (128+cp / 2 ^ 6 % 64),az (128+cp / 2 ^ 0 % 64)])) S:=h
  have hx:cp / 2 ^ 18<8:=ω
  have o:=Mn _ hx
  rw [pS (show cp / 2 ^ 18<256 by omega)] at w18
  simp only [bk] at o
  clear e h1 h2 h3 hle f6 f12 w0' w6 w12
  refine eN func229 rfl ntmps229 fun hO=>?_
  repeat' first|refine st ?_|(refine ca ?_;first|apply hck|(apply c0;(· simp only [go_sem, *];try rfl))|(apply c6;(· simp only [go_sem, *];try rfl))|(apply c12;(· simp only [go_sem, *];try rfl)))|(refine br ?_ ?_<;>intro hb)|refine sd ?_|apply aw|(apply aF;(· decide +kernel))|refine bd ?_ ?_|(refine cd ?_;first|apply hck|(apply c0;(· simp only [go_sem, *];try rfl))|(apply c6;(· simp only [go_sem, *];try rfl))|(apply c12;(· simp only [go_sem, *];try rfl)))|fail
  refine fR results229 ?_
  exact h
def LC(w0:World):Prop:=Lib.TabIs prog w0 "internal/strconv.uint64pow10" .u64 Lib.pow10Tab
theorem itoa(w0:World)(hT:LC w0)(S:List aH)(n:Int)(h1 : -9223372036854775808≤n)(h2:n≤9223372036854775807)(R:Rt)(h:R (.ret (.str (gD n))) S):ao prog w0 86 [.int .i64 n] S R:=by
 refine ao.lib (vs:=[.int .i64 n]) (v:=.str (gD n)) (Go.Proofs.enters_of func86 (by kernel_rfl) rfl) rfl rfl ?_ h
 intro w hb
 refine(Go.Proofs.Any.strconv_Itoa Go.Proofs.Tryz.laysM171 n h1 h2 w (Lib.tabBelow_of_tabIs hT w hb)).mono ?_
 rintro e w' ⟨rfl,k,os,rfl⟩
 exact⟨rfl,Lib.below_grow _ w (ba _) k os⟩
theorem ti(a:Nat)(v:AV)(ha:S[a]? = some (.cells [.nilp,v] (some 90)))(hv:v.lt S.length=true)(hal:a<S.length)(R:Rt)(h:R (.ret (.tup [])) (S.set a (.cells [.own a 0,v] (some 90)))) :
  ao prog w0 87 [.own a 0] S R:=by
 refine eN func87 rfl ntmps87 fun hO=>?_
 refine ε0 ?_
 refine FB (f:=176) ss rfl rfl (fun c w=>?_) rfl ss ?_
 ·rw [run_callFunc_extern func176 (by kernel_rfl) (by kernel_rfl) (by kernel_rfl) (by kernel_rfl),Lib.run_noEscape];rfl
 simp only [putA]
 refine ε0 ?_
 refine K8 results87 ?_ ?_ ?_
 ·exact bH.set hO (by simp [aH.ltB,ltL,AV.lt,hv,hal])
 ·simp
 ·exact h
theorem th(a:Nat)(v:AV)(ha:S[a]? = some (.cells [.own a 0,v] (some 90)))(R:Rt)(h:R (.ret (.tup [])) S) :
  ao prog w0 87 [.own a 0] S R:=by
 refine eN func87 rfl ntmps87 fun hO=>?_
 refine ε0 ?_
 refine fE results87 ?_
 exact h
theorem cY{α:Type _}(l:List α):l.all (fun _=>true)=true:=χ
theorem hY{ops:Array Oper}{i p:Nat}{q:List Nat}{prot:List (Nat × List Nat)}{S S':List aH}(hp:lk ops i p=false)(h:cJ ops i prot S S'):cJ ops i ((p,q)::prot) S S':=o8 hp h
def Oa(S:List aH)(a g i:Nat)(ad:AV)(bs:List UInt8):Prop :=
 S[a]? = some (.cells [ad,.sown g i bs.length] (some 90))∧S[g]? = some (.arr 5 1 0 i (bs.map jG))∧(ad=.nilp∨ad=.own a 0)
theorem wP(a g i:Nat)(ad:AV)(bs s:List UInt8)(hb:Oa S a g i ad bs)(hlen:(bs.length+s.length) * 1≤140737488355328)(R:Rt)
  (h:R (.ret (.tup [.int .i64 s.length,.inil])) ((S.set g (.arr 5 1 0 (i+1) ((bs++s).map jG))).set a (.cells [.own a 0,.sown g (i+1) (bs.length+s.length)] (some 90)))) :
  ao prog w0 40 [.own a 0,.str s] S R:=by
 obtain⟨ha,hg,had⟩:=hb
 have hal:=(af.1 ha).1
 have hgl:=(af.1 hg).1
 have hne:a≠g:=by rintro rfl;rw [ha] at hg;cases hg
 obtain⟨S1,hS1⟩:∃ S1,S.set a (.cells [.own a 0,.sown g i bs.length] (some 90))=S1:=⟨_,rfl⟩
 have hck:∀ R:gL→List aH→Prop,R (.ret (.tup [])) S1→ao prog w0 87 [.own a 0] S R:=by
  intro R hR
  rcases had with rfl|rfl
  ·exact ti w0 S a _ ha (by simpa [AV.lt] using hgl) hal R (hS1▸hR)
  ·have:S.set a (.cells [.own a 0,.sown g i bs.length] (some 90))=S:=gB ha
   rw [this] at hS1
   exact th w0 S a _ ha R (hS1▸hR)
 have h1:S1[a]? = some (.cells [.own a 0,.sown g i bs.length] (some 90)):=by rw [← hS1];simp [hal]
 have h2:S1[g]? = some (.arr 5 1 0 i (bs.map jG)):=by rw [← hS1,be hne];exact hg
 have hl1:S1.length=S.length:=by rw [← hS1];simp
 have hbl:(bs.map jG).length=bs.length:=χ
 have h3:∀ B,(S1.set g B)[a]? = some (.cells [.own a 0,.sown g i bs.length] (some 90)):=by intro B;rw [be (Ne.symm hne)];exact h1
 have hfin:∀ B C,(S1.set g B).set a C=(S.set g B).set a C:=by
  intro B C
  rw [← hS1,List.set_comm _ _ hne,List.set_set]
 have Hfin:=ab hfin
 have Hal:=ab (a7 hal hgl)
 clear hg had hal hgl hne hS1 hfin
 refine eN func40 rfl ntmps40 fun hO=>?_
 repeat' first|apply fX|apply eA|apply dC|apply eB|apply fY|apply b8|apply gh|apply b_|apply bN|apply cM|apply b9|apply bM|apply bv|apply gg|(apply bw;(· rfl))|(apply cK;simp only [bj])|(apply dx;(· rfl);(· simp only [go_sem, *,bz,aY,cY];try rfl);(· rfl);simp only [putA])|(apply eE;simp only [putA])|apply cN|(apply df [];(· simp only [go_sem, *,bz,aY,cY];try rfl);(· rfl);(· simp only [go_sem, *,bz,aY,cY];try rfl);(· rfl);(iterate 2 (· simp only [go_sem, *,bz,aY,cY];try rfl));(first|apply hck);simp only [aU,putA])|(apply dy;(· simp only [go_sem, *,bz,aY,cY];try rfl);(· rfl);(· simp only [go_sem, *,bz,aY,cY];try rfl))|(apply dM;(iterate 2 (· simp only [go_sem, *,bz,aY,cY];try rfl));(· rfl);simp only [putA])|(apply bL;(· simp only [go_sem, *,bz,aY,cY];try rfl);(· rfl);simp only [putA])|(apply dz;(· simp only [go_sem, *,bz,aY,cY];try rfl))|(apply dB;(· simp only [go_sem, *,bz,aY,cY];try rfl))|(apply cL;(· rfl);(fail_if_success (focus (show _=some true;(· simp only [go_sem, *,bz,aY,cY];try rfl))));(· simp only [go_sem, *,bz,aY,cY];try rfl);all_goals (intro hb;try simp only [ay,aE] at hb))|(apply dA;(· simp only [go_sem, *,bz,aY,cY];try rfl);all_goals (intro hb;try simp only [ay,aE] at hb))|fail
 refine Ib results40 ?_ ?_ ?_
 ·rw [Hfin.out]
  refine bH.set (bH.set hO ?_) ?_
  ·have h4:ltL S.length (bn jG bs++bn jG s)=true:=by rw [← aM];exact ww _ _
   exact h4
  ·have:=Hal.out;simp [aH.ltB,ltL,AV.lt,this.1,this.2]
 ·simp [hl1]
 ·rw [Hfin.out];rw [aM] at h;exact h
theorem uP(a g i:Nat)(ad:AV)(bs:List UInt8)(hb:Oa S a g i ad bs)(hpos:1≤bs.length)(R:Rt)
  (h:R (.ret (.str bs)) (S.set g .dead)):ao prog w0 41 [.own a 0] S R:=by
 obtain⟨ha,hg,had⟩:=hb
 have hby:=na bs
 have hok8:=xD bs
 have hbl:(bs.map jG).length=bs.length:=χ
 have hne:a≠g:=by rintro rfl;rw [ha] at hg;cases hg
 have h3:∀ B,(S.set g B)[a]? = some (.cells [ad,.sown g i bs.length] (some 90)):=by intro B;rw [be (Ne.symm hne)];exact ha
 clear hne
 clear had
 refine eN func41 rfl ntmps41 fun hO=>?_
 repeat' first|refine st ?_|(refine br ?_ ?_<;>intro hb)|refine sd ?_|apply aw|(apply aF;(· decide +kernel))|refine bd ?_ ?_|fail
 ·repeat' first|exact aw|refine iG ?_|refine hY (by decide +kernel) ?_|refine vI ((h3 _).trans ha.symm) ?_
 refine Ib results41 ?_ ?_ ?_
 ·exact bH.set hO rfl
 ·simp
 ·exact h
def fA(l:List Nat):List UInt8:=l.flatMap qc
theorem tr(a:Nat)(ha:S[a]? = some (.cells [.nilp,.snil] (some 90)))(R:Rt)(h:R (.ret (.str [])) S):ao prog w0 41 [.own a 0] S R:=by
 refine eN func41 rfl ntmps41 fun hO=>?_
 refine Δ0 ?_
 all_goals refine fR results41 ?_
 all_goals exact h
theorem Q7(w0:World)(X:List aH)(ad:AV)(i:Nat)(bs s:List UInt8)(had:ad=.nilp∨ad=.own X.length 0)(hlen:(bs.length+s.length) * 1≤140737488355328)(R:Rt)
  (h:R (.ret (.tup [.int .i64 s.length,.inil])) (X++[aH.cells [.own X.length 0,.sown (X.length+1) (i+1) (bs++s).length] (some 90),.arr 5 1 0 (i+1) ((bs++s).map jG)])) :
  ao prog w0 40 [.own X.length 0,.str s] (X++[aH.cells [ad,.sown (X.length+1) i bs.length] (some 90),.arr 5 1 0 i (bs.map jG)]) R:=by
 refine wP w0 _ X.length (X.length+1) i ad bs s ⟨χ,by rw [aA ω];simp,had⟩ hlen R ?_
 have e:((X++[aH.cells [ad,.sown (X.length+1) i bs.length] (some 90),.arr 5 1 0 i (bs.map jG)]).set (X.length+1) (.arr 5 1 0 (i+1) ((bs++s).map jG))).set X.length (.cells [.own X.length 0,.sown (X.length+1) (i+1) (bs.length+s.length)] (some 90)) =
   X++[aH.cells [.own X.length 0,.sown (X.length+1) (i+1) (bs++s).length] (some 90),.arr 5 1 0 (i+1) ((bs++s).map jG)]:=by
  rw [eI _ _ ω,eI _ _ ω]
  simp
 rw [e]
 exact h
theorem RD(w0:World)(X:List aH)(ad:AV)(i:Nat)(bs:List UInt8)(had:ad=.nilp∨ad=.own X.length 0)(hpos:1≤bs.length)(R:Rt)
  (h:R (.ret (.str bs)) (X++[aH.cells [ad,.sown (X.length+1) i bs.length] (some 90),.dead])) :
  ao prog w0 41 [.own X.length 0] (X++[aH.cells [ad,.sown (X.length+1) i bs.length] (some 90),.arr 5 1 0 i (bs.map jG)]) R:=by
 refine uP w0 _ X.length (X.length+1) i ad bs ⟨χ,by rw [aA ω];simp,had⟩ hpos R ?_
 rw [eI _ _ ω]
 simpa using h
theorem sk(cp:Nat):1≤(qc cp).length∧(qc cp).length≤4:=by
 unfold qc tP kI
 repeat' split
 all_goals simp
theorem p6(l:List Nat):l.length≤(fA l).length∧(fA l).length≤4 * l.length:=by
 induction l with
 | nil=>simp [fA]
 | cons c l ih =>
  have:=sk c
  unfold fA at ih ⊢
  rw [kF,ah,aB];omega
theorem rU{l:List Nat}{k c:Nat}(h:l[k]? = some c):fA (l.take (k+1))=fA (l.take k)++qc c:=by
 unfold fA
 rw [jW,h]
 simp
theorem LL(l:List Nat)(hb:∀ c∈l,c<4294967296)(hl:l.length≤100000000)(R:Rt)(h:R (.ret (.str (fA l))) S):ao prog w0 187 [.sval false (l.map Co)] S R:=by
 by_cases hn:l=[]
 ·subst hn
  have h:R (.ret (.str [])) S:=h
  have e0:decide ((0:Int)<((0:Nat):Int))=false:=rfl
  have hbe:=fun S' ha=>tr w0 S' S.length ha
  clear hb hl
  refine eN func187 rfl ntmps187 fun hO=>?_
  repeat' first|refine st ?_|(refine ca ?_;(apply hbe;(· simp only [go_sem, *];try rfl)))|(refine br ?_ ?_<;>intro hb)|apply cS|apply gn|fail
  refine fR results187 ?_
  exact h
 ·have hpos:0<l.length:=by
   cases l with
   | nil=>exact absurd rfl hn
   | cons a r=>simp
  refine eN func187 rfl ntmps187 fun hO=>?_
  refine ε0 ?_
  refine nr (a:=S.length) (j:=1) 5 1 ss ss δ ?_
  simp only [go_sem, *]
  refine cD (fun (p:Nat × AV) env S'=>p.1≤l.length∧(p.2=.nilp∨p.2=.own S.length 0)∧env 1000000=.dfr []∧env 3=.own S.length 0∧env 6=.sval false (l.map Co)∧env 7=.int .i64 l.length∧env 8=.int .i64 (p.1:Int) ∧
   S'=S++[aH.cells [p.2,.sown (S.length+1) p.1 (fA (l.take p.1)).length] (some 90),.arr 5 1 0 p.1 ((fA (l.take p.1)).map jG)]) (fun p=>l.length - p.1) (0,.nilp) ?_ ?_
  ·exact⟨bf _,.inl rfl,ss,ss,ss,ss,ss,rfl⟩
  ·rintro⟨k,ad⟩ env S' ⟨hk,had,e0,e3,e6,e7,e8,rfl⟩ IH
   have HI:=ab IH
   have H:=ab h
   have Hb:=ab hb
   have Had:=ab had
   have Hpos:=ab hpos
   clear IH h hb had hn hpos
   have ht:=p6 (l.take k)
   have htk:(l.take k).length≤k:=nl _ _
   simp only at hk e8
   by_cases hlt:k<l.length
   ·obtain⟨c,hx⟩:∃ c,l[k]? = some c:=⟨_,ap hlt⟩
    have h1:decide ((k:Int)<(l.length:Int))=true:=by simpa using hlt
    have hw:ae.wrap ((k:Int)+1)=(k:Int)+1:=ai _ ω
    have hpl:=sk c
    have hput:=fun S'=>Ns w0 S' c (Hb.out c (ax hx))
    have hws:=Q7 w0 S ad k (fA (l.take k)) (qc c) Had.out ω
    rw [← rU hx] at hws
    have Hlt:=ab hlt
    clear hlt hl hk ht htk hpl
    repeat' first|apply fX|apply eA|apply dC|apply eB|apply fY|apply b8|apply gh|apply b_|apply bN|apply cM|apply b9|apply bM|apply bv|apply gg|(apply bw;(· rfl))|(apply cK;simp only [bj])|(apply dx;(· rfl);(· simp only [go_sem, *,Co];try rfl);(· rfl);simp only [putA])|(apply eE;simp only [putA])|apply cN|(apply df [];(· simp only [go_sem, *,Co];try rfl);(· rfl);(· simp only [go_sem, *,Co];try rfl);(· rfl);(iterate 2 (· simp only [go_sem, *,Co];try rfl));(first|apply hput|apply hws);simp only [aU,putA])|(apply dy;(· simp only [go_sem, *,Co];try rfl);(· rfl);(· simp only [go_sem, *,Co];try rfl))|(apply dM;(iterate 2 (· simp only [go_sem, *,Co];try rfl));(· rfl);simp only [putA])|(apply bL;(· simp only [go_sem, *,Co];try rfl);(· rfl);simp only [putA])|(apply dz;(· simp only [go_sem, *,Co];try rfl))|(apply dB;(· simp only [go_sem, *,Co];try rfl))|(apply cL;(· rfl);(fail_if_success (focus (show _=some true;(· simp only [go_sem, *,Co];try rfl))));(· simp only [go_sem, *,Co];try rfl);all_goals (intro hb;try simp only [ay,aE] at hb))|(apply dA;(· simp only [go_sem, *,Co];try rfl);all_goals (intro hb;try simp only [ay,aE] at hb))|fail
    refine HI.out (k+1,.own S.length 0) _ _ (by have:=Hlt.out;simp only;omega) ⟨Hlt.out,.inr rfl, ?_, ?_, ?_, ?_, ?_,rfl⟩
    ·exact ss
    ·exact ss
    ·exact ss
    ·exact ss
    ·exact ss
   ·have hkl:k=l.length:=ω
    have h1:decide ((k:Int)<(l.length:Int))=false:=by simpa using hlt
    have htl:fA (l.take k)=fA l:=by rw [hkl,bC]
    have hp1:1≤(fA l).length:=by have:=p6 l;have:=Hpos.out;omega
    rw [htl]
    have hbs:=RD w0 S ad k (fA l) Had.out hp1
    clear hlt hl hk ht htk htl hkl hp1
    refine ε1 hbs ?_
    refine fR results187 ?_
    exact H.out
def kG(s:List Nat):List Nat × List Nat:=s.foldl (fun q b=>((dN q.1 b).1,q.2++(dN q.1 b).2)) ([],[])
theorem sL:∀ (s:List Nat) (q:List Nat × List Nat),(s.foldl (fun q b=>((dN q.1 b).1,q.2++(dN q.1 b).2)) q).2++gU (s.foldl (fun q b=>((dN q.1 b).1,q.2++(dN q.1 b).2)) q).1=q.2++lW q.1 s
 | [],q=>rfl
 | b::s,q=>by
  rw [g9,sL s]
  simp only [lW,aP]
theorem m9(s:List Nat):ET s=(kG s).2++gU (kG s).1:=by
 have:=sL s ([],[])
 rw [gu] at this
 exact this.symm
theorem oX{s:List Nat}{i b:Nat}(h:s[i]? = some b):kG (s.take (i+1))=((dN (kG (s.take i)).1 b).1,(kG (s.take i)).2++(dN (kG (s.take i)).1 b).2):=by
 unfold kG
 rw [jW,h]
 simp only [iX,List.foldl_append,g9,List.foldl_nil]
theorem rV{p:List Nat}{b:Nat}(hp:∀ x∈p,x<256)(hb:b<256):∀ x∈(dN p b).1,x<256:=by
 have ha:∀ x∈p++[b],x<256:=by
  intro x hx
  rcases bV.1 hx with hx|hx
  ·exact hp x hx
  ·rw [a_.1 hx];exact hb
 unfold dN
 split
 ·simp
 ·split
  ·exact ha
  ·split
   ·simp
   ·unfold gR
    split
    ·simp
    ·split
     ·intro x hx;rw [a_.1 hx];exact hb
     ·simp
theorem I2(s:List Nat)(hs:∀ b∈s,b<256):∀ i,e9 (kG (s.take i)).1=true∧∀ x∈(kG (s.take i)).1,x<256:=by
 intro i
 induction i with
 | zero=>exact⟨rfl,by simp [kG]⟩
 | succ i ih =>
  cases hx:s[i]? with
  | none =>
   rw [List.getElem?_eq_none_iff] at hx
   rw [dJ ω] at ih ⊢
   exact ih
  | some b =>
   rw [oX hx]
   exact⟨qN _ _,rV ih.2 (hs b (ax hx))⟩
theorem AY{p:List Nat}(h:di p=2):iL p<2097152:=by
 match p with
 | []=>decide
 | [a] =>
  obtain⟨h1,_⟩:=qX h
  rcases cX a with⟨h2,hF,hL⟩|⟨h2,hF,hL⟩|⟨h2,h3,hF,hL⟩|⟨h2,h3,hF,hL⟩|⟨h2,h3,hF,hL⟩|⟨h2,h3,hF,hL⟩|⟨h2,h3,hF,hL⟩
  all_goals (rw [hL] at h1;simp at h1)
  simp [iL];omega
 | [a,b]=>simp [iL];omega
 | [a,b,c]=>simp [iL];omega
 | [a,b,c,d]=>simp [iL];omega
 | a::b::c::d::e::r =>
  obtain⟨h1,_⟩:=qX h
  rcases cX a with⟨h2,hF,hL⟩|⟨h2,hF,hL⟩|⟨h2,h3,hF,hL⟩|⟨h2,h3,hF,hL⟩|⟨h2,h3,hF,hL⟩|⟨h2,h3,hF,hL⟩|⟨h2,h3,hF,hL⟩
  all_goals (rw [hL] at h1;simp at h1)
theorem w_(b:Nat):(∀ c∈(gR b).2,c<2097152)∧(gR b).2.length≤1:=by
 unfold gR
 split
 ·next h=>exact⟨by intro c hc;rw [a_.1 hc];exact AY h,χ⟩
 ·split<;>simp
theorem jc(p:List Nat)(b:Nat):(∀ c∈(dN p b).2,c<2097152)∧(dN p b).2.length≤2:=by
 unfold dN
 split
 ·next h=>exact⟨by intro c hc;rw [a_.1 hc];exact AY h,χ⟩
 ·split
  ·simp
  ·split
   ·simp
   ·have:=w_ b
    refine⟨?_,κ⟩
    intro c hc
    rcases bD.1 hc with rfl|hc
    ·decide
    ·exact this.1 c hc
theorem qx:∀ (s p:List Nat),(∀ c∈lW p s,c<2097152)∧(lW p s).length≤2 * s.length+1
 | [],p=>by
  unfold lW gU
  split<;>simp
 | b::s,p=>by
  have h1:=jc p b
  have h2:=qx s (dN p b).1
  unfold lW
  refine⟨?_,by rw [ah,aB];omega⟩
  intro c hc
  rcases bV.1 hc with hc|hc
  ·exact h1.1 c hc
  ·exact h2.1 c hc
def dY(s:List UInt8):List Nat:=ET (s.map aK)
theorem qy(s:List UInt8):(∀ c∈dY s,c<2097152)∧(dY s).length≤2 * s.length+1:=by
 have:=qx (s.map aK) []
 rw [bi] at this
 exact this
theorem C8(s:List Nat):∀ m i,i+m=s.length→∃ z,(kG s).2=(kG (s.take i)).2++z
 | 0,i,h=>⟨[],by rw [dJ ω,aG]⟩
 | m+1,i,h=>by
  obtain⟨z,hz⟩:=C8 s m (i+1) ω
  have hx:s[i]? = some s[i]:=ap ω
  rw [oX hx] at hz
  exact⟨(dN (kG (s.take i)).1 s[i]).2++z,by rw [hz,aP]⟩
theorem Iw{s:List UInt8}{i j c:Nat}{b:UInt8}(hx:s[i]? = some b)(hj:(dN (kG ((s.map aK).take i)).1 b.toNat).2[j]? = some c):(dY s)[(kG ((s.map aK).take i)).2.length+j]? = some c:=by
 have hi:=(af.1 hx).1
 obtain⟨z,hz⟩:=C8 (s.map aK) (s.length - (i+1)) (i+1) κ
 have qn:(s.map aK)[i]? = some b.toNat:=by rw [aJ,hx];rfl
 rw [oX qn] at hz
 have hjl:=(af.1 hj).1
 unfold dY
 rw [m9,hz]
 simp only [aP]
 rw [aA ω,CD,au hjl]
 exact hj
theorem EU{s:List UInt8}{j c:Nat}(hj:(gU (kG (s.map aK)).1)[j]? = some c):(dY s)[(kG (s.map aK)).2.length+j]? = some c:=by
 unfold dY
 rw [m9,aA ω,CD]
 exact hj
def Jg(s:List UInt8):AV:=.fn (.func 268) [] [.pro [.str s]]
theorem LM(s:List UInt8)(R:Rt)(h:R (.ret (Jg s)) S):ao prog w0 228 [.str s] S R:=by
 exact γR0 func228 ntmps228 results228 h
theorem JF(w0:World)(s:List UInt8)(hs:s.length≤100000000)(a n:Nat)(ha:decide (a<n)=true)(I:Nat→List aH→Prop)(hI:∀ k S,I k S→S.length=n∧bH S)
  (hround:∀ k S c,I k S→(dY s)[k]? = some c→∀ (E:List aH) (R':gL→List aH→Prop),(∀ S2 E2,I (k+1) S2→R' (.ret (.bool true)) (S2++(E++E2)))→YA prog w0 a [.int .i64 c] (S++E) R')
  (S:List aH) (h0:I 0 S) (R:Rt) (h:∀ S',I (dY s).length S'→R (.ret (.tup [])) S') :
  ao prog w0 268 [.yld a,.pro [.str s]] S R:=by
 have hn:=(hI _ _ h0).1
 refine eN func268 rfl ntmps268 fun hO=>?_
 refine ε0 ?_
 have hall:∀ b∈s.map aK,b<256:=by
  intro b hb
  obtain⟨x,_,rfl⟩:=aN.1 hb
  exact x.toNat_lt
 have hst:=I2 (s.map aK) hall
 refine cD (fun (p:Nat × AV) env S'=>p.1≤s.length∧(p.2=.snil∧(kG ((s.map aK).take p.1)).1=[]∨p.2=.sval false ((kG ((s.map aK).take p.1)).1.map By))∧env 1000000=.dfr []∧env 0=.yld a∧env 1=.pro [.str s]∧env 3=p.2∧env 12=.int .i64 s.length∧env 13=.int .i64 (p.1:Int)∧I (kG ((s.map aK).take p.1)).2.length S') (fun p=>s.length - p.1) (0,.snil) ?_ ?_
 ·exact⟨bf _,.inl ⟨rfl,rfl⟩,ss,ss,ss,ss,ss,ss,h0⟩
 ·rintro⟨i,pv⟩ env S' ⟨hi,hpv,e0,ey,e1,e3,e12,e13,hIi⟩ IH
  have HI:=ab IH
  have HIi:=ab hIi
  have Hn:=ab hn
  have Hr:=ab hround
  have HJ:=ab hI
  have H:=ab h
  have Hst:=ab hst
  clear IH hIi hn hround hI h hst hall h0
  simp only at hi e13 e3 hpv
  by_cases hlt:i<s.length
  ·obtain⟨b,hx⟩:∃ b,s[i]? = some b:=⟨_,ap hlt⟩
   have h1:decide ((i:Int)<(s.length:Int))=true:=by simpa using hlt
   have hw:ae.wrap ((i:Int)+1)=(i:Int)+1:=ai _ ω
   have qn:(s.map aK)[i]? = some b.toNat:=by rw [aJ,hx];rfl
   have hsu:=oX qn
   have hca:=fun j c=>Iw (j:=j) (c:=c) hx
   have hstep:=fun S'=>IZ w0 S' (kG ((s.map aK).take i)).1 b.toNat b.toNat_lt (Hst.out i).1 (Hst.out i).2
   have hq2:=(jc (kG ((s.map aK).take i)).1 b.toNat).2
   obtain⟨q,hq⟩:∃ q,dN (kG ((s.map aK).take i)).1 b.toNat=q:=⟨_,rfl⟩
   obtain⟨D,hD⟩:∃ D,(kG ((s.map aK).take i)).2=D:=⟨_,rfl⟩
   obtain⟨X,hX⟩:∃ X,(kG ((s.map aK).take i)).1=X:=⟨_,rfl⟩
   rw [hq,hX] at hstep
   rw [hq] at hca hsu hq2
   rw [hD] at hca hsu
   rw [hX] at hpv
   obtain⟨q1,q2⟩:=q
   unfold iB at hstep
   simp only at hstep hca hsu hq2
   have HIi2:=ab (show I D.length S' from hD▸HIi.out)
   have Hca:=ab hca
   have Hsu:=ab hsu
   have Hlt:=ab hlt
   clear HIi Hst hca hsu hX hD hq qn hlt hi
   have Hstep:=ab hstep
   clear hstep
   rcases hpv with⟨rfl,hX0⟩|rfl
   all_goals
    try subst hX0
    refine ε1 Hstep.out ?_
    refine cD (fun (j:Nat) env' S2=>j≤q2.length∧env' 1000000=.dfr []∧env' 0=.yld a∧env' 1=.pro [.str s]∧env' 3=.sval false (q1.map By)∧env' 12=.int .i64 s.length∧env' 13=.int .i64 (i:Int)∧env' 25=.sval false (q2.map Co)∧env' 26=.int .i64 q2.length∧env' 27=.int .i64 (j:Int)∧I (D.length+j) S2) (fun j=>q2.length - j) 0 ?_ ?_
    ·exact⟨bf _,ss,ss,ss,ss,ss,ss,ss,ss,ss,HIi2.out⟩
    ·clear e0 ey e1 e3 e12 e13
     rintro j env2 S2 ⟨hj,f0,fy,f1,f3,f12,f13,f25,f26,f27,hIj⟩ JH
     have HH:=ab JH
     have HIj:=ab hIj
     clear JH hIj
     by_cases hjl:j<q2.length
     ·obtain⟨c,hc⟩:∃ c,q2[j]? = some c:=⟨_,ap hjl⟩
      have j1:decide ((j:Int)<(q2.length:Int))=true:=by simpa using hjl
      have hwj:ae.wrap ((j:Int)+1)=(j:Int)+1:=ai _ ω
      have Hjl:=ab hjl
      clear hjl hj hq2
      repeat' first|apply fX|apply eA|apply dC|apply eB|apply fY|apply b8|apply gh|apply b_|apply bN|apply cM|apply b9|apply bM|apply bv|apply gg|(apply bw;(· rfl))|(apply cK;simp only [bj])|(apply dx;(· rfl);(· simp only [go_sem, *,Co];try rfl);(· rfl);simp only [putA])|(apply eE;simp only [putA])|apply cN|(apply dy;(· simp only [go_sem, *,Co];try rfl);(· rfl);(· simp only [go_sem, *,Co];try rfl))|(apply dM;(iterate 2 (· simp only [go_sem, *,Co];try rfl));(· rfl);simp only [putA])|(apply bL;(· simp only [go_sem, *,Co];try rfl);(· rfl);simp only [putA])|(apply dz;(· simp only [go_sem, *,Co];try rfl))|(apply dB;(· simp only [go_sem, *,Co];try rfl))|(apply cL;(· rfl);(fail_if_success (focus (show _=some true;(· simp only [go_sem, *,Co];try rfl))));(· simp only [go_sem, *,Co];try rfl);all_goals (intro hb;try simp only [ay,aE] at hb))|(apply dA;(· simp only [go_sem, *,Co];try rfl);all_goals (intro hb;try simp only [ay,aE] at hb))|fail
      apply u7
      ·exact ss
      ·rfl
      ·exact ss
      ·rfl
      ·exact ss
      have hy:=Hr.out (D.length+j) S2 c HIj.out (Hca.out j c hc) []
      simp only [aG,gu] at hy
      refine hy _ ?_
      intro S3 E3 hI3
      have hO3:=HJ.out _ _ hI3
      simp only [aU,putA]
      refine ε0 ?_
      refine oQ hO3.2 0 [0,1,3,12,13,25,26,27] (Hn.out.trans hO3.1.symm) ss ss ss ?_
      refine HH.out (j+1) _ _ (by have:=Hjl.out;omega) ⟨Hjl.out, ?_, ?_, ?_, ?_, ?_, ?_, ?_, ?_, ?_, ?_⟩
      ·exact ss
      ·exact ss
      ·exact ss
      ·exact ss
      ·exact ss
      ·exact ss
      ·exact ss
      ·exact ss
      ·exact ss
      ·rw [show D.length+(j+1)=D.length+j+1 from rfl]
       simpa only [aO,aG] using hI3
     ·have j1:decide ((j:Int)<(q2.length:Int))=false:=by simpa using hjl
      have hje:j=q2.length:=ω
      have Hje:=ab hje
      clear hjl hj hje hq2
      refine ε0 ?_
      refine HI.out (i+1,.sval false (q1.map By)) _ _ (by have:=Hlt.out;simp only;omega) ⟨Hlt.out,.inr (by simp only;rw [Hsu.out]), ?_, ?_, ?_, ?_, ?_, ?_, ?_⟩
      ·exact ss
      ·exact ss
      ·exact ss
      ·exact ss
      ·exact ss
      ·exact ss
      ·simp only
       rw [Hsu.out,ah,← Hje.out]
       exact HIj.out
  ·have h1:decide ((i:Int)<(s.length:Int))=false:=by simpa using hlt
   have hie:i=s.length:=ω
   have htk:(s.map aK).take i=s.map aK:=dJ κ
   have hst1:=(Hst.out i).1
   have hIi3:=HIi.out
   rw [htk] at hpv hst1 hIi3
   have hfl:=fun S'=>JE w0 S' (kG (s.map aK)).1 hst1
   have hce:=fun j c=>EU (s:=s) (j:=j) (c:=c)
   have hcl:(dY s).length=(kG (s.map aK)).2.length+(gU (kG (s.map aK)).1).length:=by
    unfold dY
    rw [m9,ah]
   obtain⟨D,hD⟩:∃ D,(kG (s.map aK)).2=D:=⟨_,rfl⟩
   obtain⟨X,hX⟩:∃ X,(kG (s.map aK)).1=X:=⟨_,rfl⟩
   obtain⟨q2,hq2⟩:∃ q2,gU (kG (s.map aK)).1=q2:=⟨_,rfl⟩
   have hq2l:q2.length≤1:=by rw [← hq2];unfold gU;split<;>simp
   rw [hq2,hX] at hfl
   rw [hX] at hpv
   rw [hD,hq2] at hce hcl
   rw [hD] at hIi3
   have HIi2:=ab hIi3
   have Hce:=ab hce
   have Hcl:=ab hcl
   have Hfl:=ab hfl
   clear hIi3 HIi hce hcl hfl hst1 hD hX hq2 htk hie hlt hi Hst HI
   rcases hpv with⟨rfl,hX0⟩|rfl
   all_goals
    try subst hX0
    refine ε1 Hfl.out ?_
    refine cD (fun (j:Nat) env' S2=>j≤q2.length∧env' 1000000=.dfr []∧env' 0=.yld a∧env' 38=.sval false (q2.map Co)∧env' 39=.int .i64 q2.length∧env' 40=.int .i64 (j:Int)∧I (D.length+j) S2) (fun j=>q2.length - j) 0 ?_ ?_
    ·exact⟨bf _,ss,ss,ss,ss,ss,HIi2.out⟩
    ·clear e0 ey e1 e3 e12 e13
     rintro j env2 S2 ⟨hj,f0,fy,f25,f26,f27,hIj⟩ JH
     have HH:=ab JH
     have HIj:=ab hIj
     clear JH hIj
     by_cases hjl:j<q2.length
     ·obtain⟨c,hc⟩:∃ c,q2[j]? = some c:=⟨_,ap hjl⟩
      have j1:decide ((j:Int)<(q2.length:Int))=true:=by simpa using hjl
      have hwj:ae.wrap ((j:Int)+1)=(j:Int)+1:=ai _ ω
      have Hjl:=ab hjl
      clear hjl hj hq2l
      repeat' first|apply fX|apply eA|apply dC|apply eB|apply fY|apply b8|apply gh|apply b_|apply bN|apply cM|apply b9|apply bM|apply bv|apply gg|(apply bw;(· rfl))|(apply cK;simp only [bj])|(apply dx;(· rfl);(· simp only [go_sem, *,Co];try rfl);(· rfl);simp only [putA])|(apply eE;simp only [putA])|apply cN|(apply dy;(· simp only [go_sem, *,Co];try rfl);(· rfl);(· simp only [go_sem, *,Co];try rfl))|(apply dM;(iterate 2 (· simp only [go_sem, *,Co];try rfl));(· rfl);simp only [putA])|(apply bL;(· simp only [go_sem, *,Co];try rfl);(· rfl);simp only [putA])|(apply dz;(· simp only [go_sem, *,Co];try rfl))|(apply dB;(· simp only [go_sem, *,Co];try rfl))|(apply cL;(· rfl);(fail_if_success (focus (show _=some true;(· simp only [go_sem, *,Co];try rfl))));(· simp only [go_sem, *,Co];try rfl);all_goals (intro hb;try simp only [ay,aE] at hb))|(apply dA;(· simp only [go_sem, *,Co];try rfl);all_goals (intro hb;try simp only [ay,aE] at hb))|fail
      apply u7
      ·exact ss
      ·rfl
      ·exact ss
      ·rfl
      ·exact ss
      have hy:=Hr.out (D.length+j) S2 c HIj.out (Hce.out j c hc) []
      simp only [aG,gu] at hy
      refine hy _ ?_
      intro S3 E3 hI3
      have hO3:=HJ.out _ _ hI3
      simp only [aU,putA]
      refine ε0 ?_
      refine oQ hO3.2 0 [0,38,39,40] (Hn.out.trans hO3.1.symm) ss ss ss ?_
      refine HH.out (j+1) _ _ (by have:=Hjl.out;omega) ⟨Hjl.out, ?_, ?_, ?_, ?_, ?_, ?_⟩
      ·exact ss
      ·exact ss
      ·exact ss
      ·exact ss
      ·exact ss
      ·rw [show D.length+(j+1)=D.length+j+1 from rfl]
       simpa only [aO,aG] using hI3
     ·have j1:decide ((j:Int)<(q2.length:Int))=false:=by simpa using hjl
      have hje:j=q2.length:=ω
      have Hje:=ab hje
      clear hjl hj hje hq2l
      refine ε0 ?_
      have hO2:=HJ.out _ _ HIj.out
      apply K0 (S2:=S2) (L:=[])
      ·exact ss
      ·exact ss
      ·exact hO2.1.trans Hn.out.symm
      ·exact hO2.2
      ·(simp only [go_sem, *,results268];try rfl)
      ·exact ss
      ·exact ss
      ·refine H.out _ ?_
       rw [Hcl.out,← Hje.out]
       exact HIj.out
def oc(c:Nat):Bool:=decide (32≤c)&&!(decide (127≤c)&&decide (c≤159))
def ut(s:List UInt8):Bool:=(dY s).all oc&&decide (fA (dY s)=s)
def gG(s:List UInt8):Bool:=decide (s.length≤510)&&ut s
theorem Bl(l:List Nat):(fA l).map aK=I1 l:=by
 induction l with
 | nil=>rfl
 | cons c l ih =>
  show (qc c++fA l).map aK=tP c++I1 l
  rw [aM,ih]
  congr 1
  unfold qc
  exact kL _ (BF c)
theorem y7(c:Nat)(hc:oc c=true):∀ x∈tP c,32≤x∧x≠127:=by
 unfold oc at hc
 simp at hc
 intro x hx
 unfold tP at hx
 split at hx
 ·unfold kI at hx
  repeat' split at hx
  all_goals (simp at hx;omega)
 ·simp [kI] at hx
  omega
def wo(s:List UInt8):Prop:=∀ b∈s,32≤b.toNat∧b.toNat≠127
theorem xE{s:List UInt8}(h:ut s=true):wo s:=by
 unfold ut at h
 rw [aq,aD,decide_eq_true_eq] at h
 obtain⟨h1,h2⟩:=h
 intro b hb
 rw [← h2] at hb
 have hm:b.toNat∈(fA (dY s)).map aK:=aN.2 ⟨b,hb,rfl⟩
 rw [Bl] at hm
 obtain⟨c,hc,hx⟩:=List.mem_flatMap.1 hm
 exact y7 c (h1 c hc) _ hx
def kH(n:Nat):List UInt8:=[114,103,98,58,eb (n / 1048576),eb (n / 65536 % 16),47,eb (n / 4096 % 16),eb (n / 256 % 16),47,eb (n / 16 % 16),eb (n % 16)]
def iW:List UInt8→Option Nat
 | [p0,p1,p2,p3,a,b,q,c,d,r,e,f]=>if p0=114∧p1=103∧p2=98∧p3=58∧q=47∧r=47 then
   (match iV a b,iV c d,iV e f with
   | some x,some y,some z=>some (x * 65536+y * 256+z)
   | _,_,_=>none) else none
 | _=>none
theorem vZ:∀ x,x<16→∀ y,y<16→iV (eb x) (eb y)=some (x * 16+y):=by decide +kernel
theorem BW:∀ x,x<16→32≤(eb x).toNat∧(eb x).toNat≠127∧eb x≠59:=by decide +kernel
theorem Iu{n:Nat}(h:n≤16777215):iW (kH n)=some n:=by
 unfold kH iW
 simp only
 rw [if_pos χ,vZ _ ω _ ω,vZ _ ω _ ω,vZ _ ω _ ω]
 simp only
 congr 1
 omega
theorem Lq{s:List UInt8}{n:Nat}(h:iW s=some n):n≤16777215:=by
 unfold iW at h
 split at h
 ·split at h
  ·split at h
   ·next x y z hx hy hz =>
    have:=rF hx
    have:=rF hy
    have:=rF hz
    cases h
    omega
   ·cases h
  ·cases h
 ·cases h
theorem Bx{n:Nat}(h:n≤16777215):wo (kH n):=by
 intro b hb
 simp only [kH,bD,gZ,or_false] at hb
 have g:=fun x hx=>BW x hx
 rcases hb with rfl|rfl|rfl|rfl|rfl|rfl|rfl|rfl|rfl|rfl|rfl|rfl
 all_goals first
  | decide
  | exact⟨(g _ ω).1,(g _ ω).2.1⟩
def sY(b:UInt8):Bool:=decide (48≤b.toNat)&&decide (b.toNat≤57)
def kn(w:List UInt8):Nat:=w.foldl (fun n b=>n * 10+(b.toNat - 48)) 0
def mR(w:List UInt8):Option Nat:=if w=[]∨3<w.length∨w.all sY=false∨255<kn w then none else some (kn w)
theorem sJ:∀ n:Nat,n<256→mR (gD (n:Int))=some n∧(gD (n:Int)).length≤3∧(gD (n:Int)).all (fun b=>decide (b≠59)&&(decide (32≤b.toNat)&&decide (b.toNat≠127)))=true:=by decide +kernel
theorem KH{w:List UInt8}{n:Nat}(h:mR w=some n):n≤255:=by
 unfold mR at h
 split at h
 ·cases h
 ·next hh=>cases h;omega
def iy(s:List UInt8):Option (List UInt8 × List UInt8):=if s.dropWhile (fun b=>b != 59)=[] then none else some (s.takeWhile (fun b=>b != 59),(s.dropWhile (fun b=>b != 59)).drop 1)
theorem nH:∀ {w:List UInt8} (r:List UInt8),(∀ b∈w,b≠59)→iy (w++59::r)=some (w,r):=by
 intro w r hw
 have h:(w++59::r).takeWhile (fun b=>b != 59)=w∧(w++59::r).dropWhile (fun b=>b != 59)=59::r:=by
  induction w with
  | nil=>exact⟨rfl,rfl⟩
  | cons c w ih =>
   have hc:(c != 59)=true:=by simpa using hw c χ
   obtain⟨h1,h2⟩:=ih (fun b hb=>hw b (iv _ hb))
   simp only [fQ]
   rw [List.takeWhile_cons,List.dropWhile_cons,if_pos hc,if_pos hc,h1,h2]
   exact⟨rfl,rfl⟩
 unfold iy
 rw [h.1,h.2]
 rfl
structure Ac where
 kind:Int
 n:Int
 m:Int
 ck:Int
 cn:Int
 text:List UInt8
 deriving DecidableEq
def zeroA:Ac:=⟨0,0,0,0,0,[]⟩
def cU(a:Ac):Option (List UInt8) :=
 if a=⟨44,0,0,0,0,a.text⟩∧gG a.text=true then some (50::59::a.text)
 else if a=⟨45,a.n,0,2,a.cn,[]⟩∧(0≤a.n∧a.n≤255)∧(0≤a.cn∧a.cn≤16777215) then some (52::59::(gD a.n++59::kH a.cn.toNat))
 else if a=⟨46,0,0,0,0,a.text⟩∧a.text.length≤378 then some (53::50::59::99::59::iw a.text)
 else none
def er(s:List UInt8):Option Ac :=
 if 512<s.length then none else
  match iy s with
  | none=>none
  | some (k,r) =>
   if k=[48]∨k=[50] then (if gG r then some ⟨44,0,0,0,0,r⟩ else none)
   else if k=[52] then
    (match iy r with
    | none=>none
    | some (h,t)=>match mR h,iW t with
     | some n,some c=>some ⟨45,n,0,2,c,[]⟩
     | _,_=>none)
   else if k=[53,50] then
    (match iy r with
    | none=>none
    | some (w,t)=>if w=[99] then
      (match qv t with
      | some c=>if c.length≤378 then some ⟨46,0,0,0,0,c⟩ else none
      | none=>none) else none)
   else none
theorem qQ{a:Ac}{s:List UInt8}(h:cU a=some s) :
  (∃ t,a=⟨44,0,0,0,0,t⟩∧gG t=true∧s=50::59::t) ∨
  (∃ n c:Nat,a=⟨45,n,0,2,c,[]⟩∧n<256∧c≤16777215∧s=52::59::(gD n++59::kH c)) ∨
  (∃ t,a=⟨46,0,0,0,0,t⟩∧t.length≤378∧s=53::50::59::99::59::iw t):=by
 unfold cU at h
 split at h
 ·next hh=>cases h;exact .inl ⟨_,hh.1,hh.2,rfl⟩
 ·split at h
  ·next hh =>
   obtain⟨h1,⟨h2,h3⟩,h4,h5⟩:=hh
   cases h
   obtain⟨n,hn⟩:∃ n:Nat,a.n=n:=⟨a.n.toNat,ω⟩
   obtain⟨c,hc⟩:∃ c:Nat,a.cn=c:=⟨a.cn.toNat,ω⟩
   rw [hn,hc] at h1
   exact .inr (.inl ⟨n,c,h1,ω,ω,by rw [hn,hc];rfl⟩)
  ·split at h
   ·next hh=>cases h;exact .inr (.inr ⟨_,hh.1,hh.2,rfl⟩)
   ·cases h
theorem x6(t:List UInt8):(iw t).length=(t.length+2) / 3 * 4:=by
 unfold iw gx gW
 simp only [ah,bi,List.length_replicate,nF]
 omega
theorem yS:∀ v,v<64→32≤(bt v).toNat∧(bt v).toNat≠127:=by decide +kernel
theorem zE(t:List UInt8):wo (iw t):=by
 intro b hb
 unfold iw gx at hb
 rcases bV.1 hb with hb|hb
 ·obtain⟨v,hv,rfl⟩:=aN.1 hb
  exact yS v (qs _ (toNat_lt t) v hv)
 ·rw [List.eq_of_mem_replicate hb];decide
theorem EG(t:List UInt8):qv (iw t)=some t:=by
 rw [x9]
 have hV:=qs _ (toNat_lt t)
 have hd:tX (iw t)=t:=by
  unfold tX iw gx
  rw [mG _ _ hV,(wj _ (toNat_lt t)).1,Fl]
  conv=>rhs;rw [← List.map_id t]
  apply List.map_congr_left
  intro c _
  simp
 unfold zH
 rw [hd,if_neg χ]
theorem xz{a:Ac}{s:List UInt8}(h:cU a=some s):er s=some a∧0<s.length∧s.length≤512∧wo s:=by
 rcases qQ h with⟨t,rfl,ht,rfl⟩|⟨n,c,rfl,hn,hc,rfl⟩|⟨t,rfl,ht,rfl⟩
 ·have htl:t.length≤510∧ut t=true:=by unfold gG at ht;simpa using ht
  refine⟨?_,χ,κ, ?_⟩
  ·unfold er
   have hcut:iy (50::59::t)=some ([50],t):=nH (w:=[50]) t χ
   rw [if_neg κ,hcut]
   simp [ht]
  ·intro b hb
   simp only [bD] at hb
   rcases hb with rfl|rfl|hb
   ·decide
   ·decide
   ·exact xE htl.2 b hb
 ·obtain⟨h1,h2,h3⟩:=sJ n hn
  rw [aD] at h3
  have hw:∀ b∈gD (n:Int),b≠59:=fun b hb=>by have:=h3 b hb;simp at this;exact this.1
  have hl:(kH c).length=12:=rfl
  refine⟨?_,χ,κ, ?_⟩
  ·unfold er
   have hcut:iy (52::59::(gD (n:Int)++59::kH c))=some ([52],gD (n:Int)++59::kH c):=nH (w:=[52]) _ χ
   rw [if_neg κ,hcut]
   simp only
   rw [if_neg δ,if_pos trivial,nH _ hw]
   simp only [h1,Iu hc]
  ·intro b hb
   simp only [bD,bV] at hb
   rcases hb with rfl|rfl|hb|rfl|hb
   ·decide
   ·decide
   ·have:=h3 b hb;simp at this;exact⟨this.2.1,this.2.2⟩
   ·decide
   ·exact Bx hc b hb
 ·have hl:=x6 t
  refine⟨?_,χ,κ, ?_⟩
  ·unfold er
   have hcut:iy (53::50::59::99::59::iw t)=some ([53,50],99::59::iw t):=nH (w:=[53,50]) _ χ
   have hcut2:iy (99::59::iw t)=some ([99],iw t):=nH (w:=[99]) _ χ
   rw [if_neg κ,hcut]
   simp only
   rw [if_neg δ,if_neg δ,if_pos trivial,hcut2]
   simp only [if_true,EG,ht]
  ·intro b hb
   simp only [bD] at hb
   rcases hb with rfl|rfl|rfl|rfl|rfl|hb
   ·decide
   ·decide
   ·decide
   ·decide
   ·decide
   ·exact zE t b hb
theorem xy{s:List UInt8}{a:Ac}(h:er s=some a):(∃ u,cU a=some u)∧s.length≤512:=by
 unfold er at h
 split at h
 ·cases h
 next hl =>
 refine⟨?_,ω⟩
 split at h
 ·cases h
 ·split at h
  ·split at h
   ·next ht=>cases h;exact⟨_,by unfold cU;rw [if_pos ⟨rfl,ht⟩]⟩
   ·cases h
  ·split at h
   ·split at h
    ·cases h
    ·split at h
     ·next n c hn hc =>
      cases h
      have h1:=KH hn
      have h2:=Lq hc
      exact⟨_,by unfold cU;rw [if_neg χ,if_pos ⟨rfl,⟨χ,κ⟩,χ,κ⟩]⟩
     ·cases h
   ·split at h
    ·split at h
     ·cases h
     ·split at h
      ·split at h
       ·split at h
        ·next hc=>cases h;exact⟨_,by unfold cU;rw [if_neg χ,if_neg χ,if_pos ⟨rfl,hc⟩]⟩
        ·cases h
       ·cases h
      ·cases h
    ·cases h
def ea(c:Int):AV:=.int .i64 c
@[go_sem] theorem ea.plainL(l:List Int):plainL (l.map ea)=true:=fL (fun _=>rfl) l
@[go_sem] theorem ea.ltL(l:List Int)(n:Nat):ltL n (l.map ea)=true:=c_.2 fun x hx=>by obtain⟨y,_,rfl⟩:=aN.1 hx;rfl
@[go_sem] theorem ea.ok(l:List Int):cI 1 (l.map ea)=true:=by
 unfold cI;rw [aD];intro x hx;obtain⟨y,_,rfl⟩:=aN.1 hx;rfl
end Go.Proofs.YthdbijpefkapnaaGreatDoor
