/- YthdbijpefkapnaaGreatDoorWalk1: a part of the proof. -/
import Derived.Test.YthdbijpefkapnaaGreatDoorWalk0
import Derived.Shelf.LaysM
import Derived.Shelf.Strconv.Itoa3
import Derived.Shelf.Abstract
import Derived.Lib.ItoaLen
import Derived.Lib.AppendIntMem
import Derived.Test.YthdbijpefkapnaaGreatDoorShelf
import Derived.Test.YthdbijpefkapnaaGreatDoorCore3
import Derived.Lib.ItoaMem
set_option linter.all false
set_option maxHeartbeats 40000000
open And renaming intro → a6
open BitVec renaming ofInt → ar
open Bool renaming and_eq_true → ao, not_eq_false' → aE, not_eq_true' → aw
open Function renaming comp_def → aU
open Go.IntKind renaming bits → bh, i64 → ae, u8 → aX
open Go.IntWalk renaming i64_in → ah
open Go.Lib renaming hid → ab, itoa → gn
open List renaming all_eq_true → aC, all_map → bu, append_assoc → aN, append_nil → aG, cons_append → ft, flatMap_cons → ka, foldl_cons → gI, getElem?_append_left → az, getElem?_append_right → aD, getElem?_eq_getElem → al, getElem?_eq_some_iff → af, getElem?_map → aI, getElem?_set_ne → bT, length_append → ai, length_cons → aB, length_map → be, map → bx, map_append → aY, map_map → Ef, mem_append → cH, mem_cons → bz, mem_cons_of_mem → gY, mem_map → aM, mem_of_getElem? → ax, mem_singleton → bk, nil_append → fS, not_mem_nil → gK, set_append_right → fb, take_add_one → sC, take_length → bt, take_of_length_le → dV, take_zero → aP, toList_toArray → bg
open Nat renaming add_sub_cancel_left → BI, le_refl → a8, mod_eq_of_lt → ph, mod_lt → dY, zero_le → bf
open Option renaming toList_some → ip
open UInt8 renaming ofNat → ay, toNat → aJ
namespace Go.Proofs.YthdbijpefkapnaaGreatDoor
open Go Go.Fen Go.Proofs.Tryz
attribute [local irreducible] aW WP aj dS jl cQ aV cV
set_option maxRecDepth 8000
variable (w0:World) (S:List aH)
theorem l6(m:Nat):aX.wrap (m:Int)=((m % 256:Nat):Int):=by
 have h:aX.wrap (m:Int)=(m:Int) % 256:=by simp [IntKind.wrap,IntKind.signed,bh]
 rw [h]
 omega
theorem KR:∀ x:Nat,x<256→aX.wrap (((ar aX.bits 128 ||| ar aX.bits (aX.wrap (((ar aX.bits (x:Int) &&& ar aX.bits 63).toNat:Nat):Int))).toNat:Nat):Int)=((128+x % 64:Nat):Int):=by decide +kernel
theorem KQ:∀ x:Nat,x<32→aX.wrap (((ar aX.bits 192 ||| ar aX.bits (x:Int)).toNat:Nat):Int)=((192+x:Nat):Int):=by decide +kernel
theorem KP:∀ x:Nat,x<16→aX.wrap (((ar aX.bits 224 ||| ar aX.bits (x:Int)).toNat:Nat):Int)=((224+x:Nat):Int):=by decide +kernel
theorem KO:∀ x:Nat,x<8→aX.wrap (((ar aX.bits 240 ||| ar aX.bits (x:Int)).toNat:Nat):Int)=((240+x:Nat):Int):=by decide +kernel
theorem JE(cp k:Nat)(hk:k≤64):(cp:Int).fdiv (2 ^ min k 64)=((cp / 2 ^ k:Nat):Int):=by
 rw [Nat.min_eq_left hk,Int.fdiv_eq_ediv_of_nonneg _ (Int.le_of_lt (Int.pow_pos (by decide)))]
 rw [Int.natCast_ediv,Int.natCast_pow]
 rfl
theorem vW(a cp k:Nat)(hk:k≤64)(ha:S[a]? = some (.cells [.int .i64 cp]))(R:Rt)(h:R (.ret (.int .u8 (128+cp / 2 ^ k % 64:Nat))) S) :
  aj prog w0 270 [.int .i64 k,.own a 0] S R:=by
 have hf:=JE cp k hk
 have hw:=l6 (cp / 2 ^ k)
 have hx:=KR (cp / 2 ^ k % 256) (dY _ (by decide))
 have hm:cp / 2 ^ k % 256 % 64=cp / 2 ^ k % 64:=by omega
 have h0:(0:Int)≤(k:Int):=by omega
 rw [hm] at hx
 simp only [bh] at hx
 clear hm hk
 refine eN func270 rfl ntmps270 fun hO=>?_
 repeat' first|refine st ?_|(refine br ?_ ?_<;>intro hb)|fail
 refine fR results270 ?_
 exact h
def pC(cp:Nat):List UInt8:=(sL cp).map ay
theorem L0(cp:Nat)(hb:cp<4294967296)(R:Rt)(h:R (.ret (.str (pC cp))) S):aj prog w0 229 [.int .i64 cp] S R:=by
 have hck:=fun S'=>B3 w0 S' cp
 unfold pC sL at h
 cases hok:sG cp with
 | false =>
  rw [hok,if_neg (by decide)] at h
  rw [hok] at hck
  have h:R (.ret (.str [239,191,189])) S:=h
  have c0:=fun S' ha=>vW w0 S' S.length 65533 0 (by decide) ha
  have c6:=fun S' ha=>vW w0 S' S.length 65533 6 (by decide) ha
  have q6:(128+65533 / 2 ^ 6 % 64:Nat)=191:=rfl
  have q0:(128+65533 / 2 ^ 0 % 64:Nat)=189:=rfl
  rw [q0] at c0
  rw [q6] at c6
  have k0:(((0:Nat):Int))=0:=rfl
  have k6:(((6:Nat):Int))=6:=rfl
  have kc:(((65533:Nat):Int))=65533:=rfl
  rw [k0] at c0
  rw [k6] at c6
  rw [kc] at c0 c6
  have z1:aX.wrap (((ar aX.bits 224 ||| ar aX.bits (aX.wrap ((65533:Int).fdiv (2 ^ min 12 64)))).toNat:Nat):Int)=239:=by decide
  simp only [bh] at z1
  clear q0 q6 k0 k6 kc hb hok
  refine eN func229 rfl ntmps229 fun hO=>?_
  repeat' first|refine st ?_|(refine ca ?_;first|apply hck|(apply c0;(· simp only [go_sem, *];try rfl))|(apply c6;(· simp only [go_sem, *];try rfl)))|(refine br ?_ ?_<;>intro hb)|refine sd ?_|apply au|(apply aF;(· decide +kernel))|refine bd ?_ ?_|(refine cd ?_;first|apply hck|(apply c0;(· simp only [go_sem, *];try rfl))|(apply c6;(· simp only [go_sem, *];try rfl)))|fail
  refine fR results229 ?_
  exact h
 | true =>
  rw [hok,if_pos rfl] at h
  rw [hok] at hck
  have hle:cp≤1114111:=by
   simp only [sG,ao,decide_eq_true_eq] at hok
   exact hok.1
  have c0:=fun S' ha=>vW w0 S' S.length cp 0 (by decide) ha
  have c6:=fun S' ha=>vW w0 S' S.length cp 6 (by decide) ha
  have c12:=fun S' ha=>vW w0 S' S.length cp 12 (by decide) ha
  have k0:(((0:Nat):Int))=0:=rfl
  have k6:(((6:Nat):Int))=6:=rfl
  have k12:(((12:Nat):Int))=12:=rfl
  rw [k0] at c0
  rw [k6] at c6
  rw [k12] at c12
  have f6:=JE cp 6 (by decide)
  have f12:=JE cp 12 (by decide)
  have f18:=JE cp 18 (by decide)
  have w0':=l6 cp
  have w6:=l6 (cp / 2 ^ 6)
  have w12:=l6 (cp / 2 ^ 12)
  have w18:=l6 (cp / 2 ^ 18)
  clear hok hb k0 k6 k12
  by_cases h1:cp<128
  ·have d1:decide ((cp:Int)<128)=true:=by simpa using (show (cp:Int)<128 by omega)
   have e:kh cp=[cp]:=by unfold kh;rw [if_pos h1]
   rw [e] at h
   rw [ph (show cp<256 by omega)] at w0'
   have h:R (.ret (.str [ay cp])) S:=h
   clear e h1 hle c0 c6 c12 f6 f12 f18 w6 w12 w18
   refine eN func229 rfl ntmps229 fun hO=>?_
   repeat' first|refine st ?_|(refine ca ?_;apply hck)|(refine br ?_ ?_<;>intro hb)|refine sd ?_|apply au|(apply aF;(· decide +kernel))|refine bd ?_ ?_|(refine cd ?_;apply hck)|fail
   refine fR results229 ?_
   exact h
  have d1:decide ((cp:Int)<128)=false:=by simp;omega
  by_cases h2:cp<2048
  ·have d2:decide ((cp:Int)<2048)=true:=by simp;omega
   have e:kh cp=[192+cp / 2 ^ 6,128+cp / 2 ^ 0 % 64]:=by unfold kh;rw [if_neg h1,if_pos h2];simp
   rw [e] at h
   have h:R (.ret (.str [ay (192+cp / 2 ^ 6),ay (128+cp / 2 ^ 0 % 64)])) S:=h
   have hx:cp / 2 ^ 6<32:=by omega
   have o:=KQ _ hx
   rw [ph (show cp / 2 ^ 6<256 by omega)] at w6
   simp only [bh] at o
   clear e h1 h2 hle c6 c12 f12 f18 w0' w12 w18
   refine eN func229 rfl ntmps229 fun hO=>?_
   repeat' first|refine st ?_|(refine ca ?_;first|apply hck|(apply c0;(· simp only [go_sem, *];try rfl)))|(refine br ?_ ?_<;>intro hb)|refine sd ?_|apply au|(apply aF;(· decide +kernel))|refine bd ?_ ?_|(refine cd ?_;first|apply hck|(apply c0;(· simp only [go_sem, *];try rfl)))|fail
   refine fR results229 ?_
   exact h
  have d2:decide ((cp:Int)<2048)=false:=by simp;omega
  by_cases h3:cp<65536
  ·have d3:decide ((cp:Int)<65536)=true:=by simp;omega
   have e:kh cp=[224+cp / 2 ^ 12,128+cp / 2 ^ 6 % 64,128+cp / 2 ^ 0 % 64]:=by unfold kh;rw [if_neg h1,if_neg h2,if_pos h3];simp
   rw [e] at h
   have h:R (.ret (.str [ay (224+cp / 2 ^ 12),ay (128+cp / 2 ^ 6 % 64),ay (128+cp / 2 ^ 0 % 64)])) S:=h
   have hx:cp / 2 ^ 12<16:=by omega
   have o:=KP _ hx
   rw [ph (show cp / 2 ^ 12<256 by omega)] at w12
   simp only [bh] at o
   clear e h1 h2 h3 hle c12 f6 f18 w0' w6 w18
   refine eN func229 rfl ntmps229 fun hO=>?_
   repeat' first|refine st ?_|(refine ca ?_;first|apply hck|(apply c0;(· simp only [go_sem, *];try rfl))|(apply c6;(· simp only [go_sem, *];try rfl)))|(refine br ?_ ?_<;>intro hb)|refine sd ?_|apply au|(apply aF;(· decide +kernel))|refine bd ?_ ?_|(refine cd ?_;first|apply hck|(apply c0;(· simp only [go_sem, *];try rfl))|(apply c6;(· simp only [go_sem, *];try rfl)))|fail
   refine fR results229 ?_
   exact h
  have d3:decide ((cp:Int)<65536)=false:=by simp;omega
  have e:kh cp=[240+cp / 2 ^ 18,128+cp / 2 ^ 12 % 64,128+cp / 2 ^ 6 % 64,128+cp / 2 ^ 0 % 64]:=by unfold kh;rw [if_neg h1,if_neg h2,if_neg h3];simp
  rw [e] at h
  have h:R (.ret (.str [ay (240+cp / 2 ^ 18),ay (128+cp / 2 ^ 12 % 64),ay (128+cp / 2 ^ 6 % 64),ay (128+cp / 2 ^ 0 % 64)])) S:=h
  have hx:cp / 2 ^ 18<8:=by omega
  have o:=KO _ hx
  rw [ph (show cp / 2 ^ 18<256 by omega)] at w18
  simp only [bh] at o
  clear e h1 h2 h3 hle f6 f12 w0' w6 w12
  refine eN func229 rfl ntmps229 fun hO=>?_
  repeat' first|refine st ?_|(refine ca ?_;first|apply hck|(apply c0;(· simp only [go_sem, *];try rfl))|(apply c6;(· simp only [go_sem, *];try rfl))|(apply c12;(· simp only [go_sem, *];try rfl)))|(refine br ?_ ?_<;>intro hb)|refine sd ?_|apply au|(apply aF;(· decide +kernel))|refine bd ?_ ?_|(refine cd ?_;first|apply hck|(apply c0;(· simp only [go_sem, *];try rfl))|(apply c6;(· simp only [go_sem, *];try rfl))|(apply c12;(· simp only [go_sem, *];try rfl)))|fail
  refine fR results229 ?_
  exact h
def J8(w0:World):Prop:=Lib.TabIs prog w0 "internal/strconv.uint64pow10" .u64 Lib.pow10Tab
theorem itoa(w0:World)(hT:J8 w0)(S:List aH)(n:Int)(h1 : -9223372036854775808≤n)(h2:n≤9223372036854775807)(R:Rt)(h:R (.ret (.str (gn n))) S):aj prog w0 86 [.int .i64 n] S R:=by
 refine aj.lib (vs:=[.int .i64 n]) (v:=.str (gn n)) (Go.Proofs.enters_of func86 (by kernel_rfl) rfl) rfl rfl ?_ h
 intro w hb
 refine(Go.Proofs.Any.strconv_Itoa Go.Proofs.Tryz.laysM171 n h1 h2 w (Lib.tabBelow_of_tabIs hT w hb)).mono ?_
 rintro e w' ⟨rfl,k,os,rfl⟩
 exact⟨rfl,Lib.below_grow _ w (a8 _) k os⟩
theorem si(a:Nat)(v:AV)(ha:S[a]? = some (.cells [.nilp,v] (some 90)))(hv:v.lt S.length=true)(hal:a<S.length)(R:Rt)(h:R (.ret (.tup [])) (S.set a (.cells [.own a 0,v] (some 90)))) :
  aj prog w0 87 [.own a 0] S R:=by
 refine eN func87 rfl ntmps87 fun hO=>?_
 repeat' first|refine st ?_|(refine br ?_ ?_<;>intro hb)|fail
 refine Ey (f:=176) ss rfl rfl (fun c w=>?_) rfl ss ?_
 ·rw [run_callFunc_extern func176 (by kernel_rfl) (by kernel_rfl) (by kernel_rfl) (by kernel_rfl),Lib.run_noEscape];rfl
 simp only [putA]
 repeat' first|refine st ?_|(refine br ?_ ?_<;>intro hb)|fail
 refine JI results87 ?_ ?_ ?_
 ·exact bD.set hO (by simp [aH.ltB,ltL,AV.lt,hv,hal])
 ·simp
 ·exact h
theorem sg(a:Nat)(v:AV)(ha:S[a]? = some (.cells [.own a 0,v] (some 90)))(R:Rt)(h:R (.ret (.tup [])) S) :
  aj prog w0 87 [.own a 0] S R:=by
 refine eN func87 rfl ntmps87 fun hO=>?_
 repeat' first|refine st ?_|(refine br ?_ ?_<;>intro hb)|fail
 refine fE results87 ?_
 exact h
theorem cP{α:Type _}(l:List α):l.all (fun _=>true)=true:=by simp
theorem gQ{ops:Array Oper}{i p:Nat}{q:List Nat}{prot:List (Nat × List Nat)}{S S':List aH}(hp:kQ ops i p=false)(h:cQ ops i prot S S'):cQ ops i ((p,q)::prot) S S':=ou hp h
def MK(S:List aH)(a g i:Nat)(ad:AV)(bs:List UInt8):Prop :=
 S[a]? = some (.cells [ad,.sown g i bs.length] (some 90))∧S[g]? = some (.arr 5 1 0 i (bs.map jj))∧(ad=.nilp∨ad=.own a 0)
theorem vP(a g i:Nat)(ad:AV)(bs s:List UInt8)(hb:MK S a g i ad bs)(hlen:(bs.length+s.length) * 1≤140737488355328)(R:Rt)
  (h:R (.ret (.tup [.int .i64 s.length,.inil])) ((S.set g (.arr 5 1 0 (i+1) ((bs++s).map jj))).set a (.cells [.own a 0,.sown g (i+1) (bs.length+s.length)] (some 90)))) :
  aj prog w0 40 [.own a 0,.str s] S R:=by
 obtain⟨ha,hg,had⟩:=hb
 have hal:=(af.1 ha).1
 have hgl:=(af.1 hg).1
 have hne:a≠g:=by rintro rfl;rw [ha] at hg;cases hg
 obtain⟨S1,hS1⟩:∃ S1,S.set a (.cells [.own a 0,.sown g i bs.length] (some 90))=S1:=⟨_,rfl⟩
 have hck:∀ R:gC→List aH→Prop,R (.ret (.tup [])) S1→aj prog w0 87 [.own a 0] S R:=by
  intro R hR
  rcases had with rfl|rfl
  ·exact si w0 S a _ ha (by simpa [AV.lt] using hgl) hal R (hS1▸hR)
  ·have:S.set a (.cells [.own a 0,.sown g i bs.length] (some 90))=S:=gk ha
   rw [this] at hS1
   exact sg w0 S a _ ha R (hS1▸hR)
 have h1:S1[a]? = some (.cells [.own a 0,.sown g i bs.length] (some 90)):=by rw [← hS1];simp [hal]
 have h2:S1[g]? = some (.arr 5 1 0 i (bs.map jj)):=by rw [← hS1,bT hne];exact hg
 have hl1:S1.length=S.length:=by rw [← hS1];simp
 have hbl:(bs.map jj).length=bs.length:=by simp
 have h3:∀ B,(S1.set g B)[a]? = some (.cells [.own a 0,.sown g i bs.length] (some 90)):=by intro B;rw [bT (Ne.symm hne)];exact h1
 have hfin:∀ B C,(S1.set g B).set a C=(S.set g B).set a C:=by
  intro B C
  rw [← hS1,List.set_comm _ _ hne,List.set_set]
 have Hfin:=ab hfin
 have Hal:=ab (a6 hal hgl)
 clear hg had hal hgl hne hS1 hfin
 refine eN func40 rfl ntmps40 fun hO=>?_
 repeat' first|apply fK|apply eg|apply dx|apply eh|apply fL|apply bU|apply fQ|apply bW|apply bJ|apply cE|apply bV|apply bI|apply bo|apply fO|(apply bp;(· rfl))|(apply cC;simp only [bg])|(apply dq;(· rfl);(· simp only [go_sem, *,bu,aU,cP];try rfl);(· rfl);simp only [putA])|(apply eo;simp only [putA])|apply cF|(apply cZ [];(· simp only [go_sem, *,bu,aU,cP];try rfl);(· rfl);(· simp only [go_sem, *,bu,aU,cP];try rfl);(· rfl);(iterate 2 (· simp only [go_sem, *,bu,aU,cP];try rfl));(first|apply hck);simp only [aV,putA])|(apply dr;(· simp only [go_sem, *,bu,aU,cP];try rfl);(· rfl);(· simp only [go_sem, *,bu,aU,cP];try rfl))|(apply dF;(iterate 2 (· simp only [go_sem, *,bu,aU,cP];try rfl));(· rfl);simp only [putA])|(apply bH;(· simp only [go_sem, *,bu,aU,cP];try rfl);(· rfl);simp only [putA])|(apply dt;(· simp only [go_sem, *,bu,aU,cP];try rfl))|(apply dw;(· simp only [go_sem, *,bu,aU,cP];try rfl))|(apply cD;(· rfl);(fail_if_success (focus (show _=some true;(· simp only [go_sem, *,bu,aU,cP];try rfl))));(· simp only [go_sem, *,bu,aU,cP];try rfl);all_goals (intro hb;try simp only [aw,aE] at hb))|(apply du;(· simp only [go_sem, *,bu,aU,cP];try rfl);all_goals (intro hb;try simp only [aw,aE] at hb))|fail
 refine Gl results40 ?_ ?_ ?_
 ·rw [Hfin.out]
  refine bD.set (bD.set hO ?_) ?_
  ·have h4:ltL S.length (bx jj bs++bx jj s)=true:=by rw [← aY];exact vz _ _
   exact h4
  ·have:=Hal.out;simp [aH.ltB,ltL,AV.lt,this.1,this.2]
 ·simp [hl1]
 ·rw [Hfin.out];rw [aY] at h;exact h
theorem tX(a g i:Nat)(ad:AV)(bs:List UInt8)(hb:MK S a g i ad bs)(hpos:1≤bs.length)(R:Rt)
  (h:R (.ret (.str bs)) (S.set g .dead)):aj prog w0 41 [.own a 0] S R:=by
 obtain⟨ha,hg,had⟩:=hb
 have hby:=mD bs
 have hok8:=wE bs
 have hbl:(bs.map jj).length=bs.length:=by simp
 have hne:a≠g:=by rintro rfl;rw [ha] at hg;cases hg
 have h3:∀ B,(S.set g B)[a]? = some (.cells [ad,.sown g i bs.length] (some 90)):=by intro B;rw [bT (Ne.symm hne)];exact ha
 clear hne
 clear had
 refine eN func41 rfl ntmps41 fun hO=>?_
 repeat' first|refine st ?_|(refine br ?_ ?_<;>intro hb)|refine sd ?_|apply au|(apply aF;(· decide +kernel))|refine bd ?_ ?_|fail
 ·repeat' first|exact au|refine ic ?_|refine gQ (by decide +kernel) ?_|refine uK ((h3 _).trans ha.symm) ?_
 refine Gl results41 ?_ ?_ ?_
 ·exact bD.set hO rfl
 ·simp
 ·exact h
def fj(l:List Nat):List UInt8:=l.flatMap pC
theorem so(a:Nat)(ha:S[a]? = some (.cells [.nilp,.snil] (some 90)))(R:Rt)(h:R (.ret (.str [])) S):aj prog w0 41 [.own a 0] S R:=by
 refine eN func41 rfl ntmps41 fun hO=>?_
 repeat' first|refine st ?_|(refine br ?_ ?_<;>intro hb)|refine sd ?_|apply au|(apply aF;(· decide +kernel))|refine bd ?_ ?_|fail
 all_goals refine fR results41 ?_
 all_goals exact h
theorem PM(w0:World)(X:List aH)(ad:AV)(i:Nat)(bs s:List UInt8)(had:ad=.nilp∨ad=.own X.length 0)(hlen:(bs.length+s.length) * 1≤140737488355328)(R:Rt)
  (h:R (.ret (.tup [.int .i64 s.length,.inil])) (X++[aH.cells [.own X.length 0,.sown (X.length+1) (i+1) (bs++s).length] (some 90),.arr 5 1 0 (i+1) ((bs++s).map jj)])) :
  aj prog w0 40 [.own X.length 0,.str s] (X++[aH.cells [ad,.sown (X.length+1) i bs.length] (some 90),.arr 5 1 0 i (bs.map jj)]) R:=by
 refine vP w0 _ X.length (X.length+1) i ad bs s ⟨by simp,by rw [aD (by omega)];simp,had⟩ hlen R ?_
 have e:((X++[aH.cells [ad,.sown (X.length+1) i bs.length] (some 90),.arr 5 1 0 i (bs.map jj)]).set (X.length+1) (.arr 5 1 0 (i+1) ((bs++s).map jj))).set X.length (.cells [.own X.length 0,.sown (X.length+1) (i+1) (bs.length+s.length)] (some 90)) =
   X++[aH.cells [.own X.length 0,.sown (X.length+1) (i+1) (bs++s).length] (some 90),.arr 5 1 0 (i+1) ((bs++s).map jj)]:=by
  rw [fb _ _ (by omega),fb _ _ (by omega)]
  simp
 rw [e]
 exact h
theorem Qh(w0:World)(X:List aH)(ad:AV)(i:Nat)(bs:List UInt8)(had:ad=.nilp∨ad=.own X.length 0)(hpos:1≤bs.length)(R:Rt)
  (h:R (.ret (.str bs)) (X++[aH.cells [ad,.sown (X.length+1) i bs.length] (some 90),.dead])) :
  aj prog w0 41 [.own X.length 0] (X++[aH.cells [ad,.sown (X.length+1) i bs.length] (some 90),.arr 5 1 0 i (bs.map jj)]) R:=by
 refine tX w0 _ X.length (X.length+1) i ad bs ⟨by simp,by rw [aD (by omega)];simp,had⟩ hpos R ?_
 rw [fb _ _ (by omega)]
 simpa using h
theorem rp(cp:Nat):1≤(pC cp).length∧(pC cp).length≤4:=by
 unfold pC sL kh
 repeat' split
 all_goals simp
theorem pu(l:List Nat):l.length≤(fj l).length∧(fj l).length≤4 * l.length:=by
 induction l with
 | nil=>simp [fj]
 | cons c l ih =>
  have:=rp c
  unfold fj at ih ⊢
  rw [ka,ai,aB];omega
theorem ra{l:List Nat}{k c:Nat}(h:l[k]? = some c):fj (l.take (k+1))=fj (l.take k)++pC c:=by
 unfold fj
 rw [sC,h]
 simp
theorem Kg(l:List Nat)(hb:∀ c∈l,c<4294967296)(hl:l.length≤100000000)(R:Rt)(h:R (.ret (.str (fj l))) S):aj prog w0 187 [.sval false (l.map Co)] S R:=by
 by_cases hn:l=[]
 ·subst hn
  have h:R (.ret (.str [])) S:=h
  have e0:decide ((0:Int)<((0:Nat):Int))=false:=rfl
  have hbe:=fun S' ha=>so w0 S' S.length ha
  clear hb hl
  refine eN func187 rfl ntmps187 fun hO=>?_
  repeat' first|refine st ?_|(refine ca ?_;(apply hbe;(· simp only [go_sem, *];try rfl)))|(refine br ?_ ?_<;>intro hb)|apply cT|apply fZ|fail
  refine fR results187 ?_
  exact h
 ·have hpos:0<l.length:=by
   cases l with
   | nil=>exact absurd rfl hn
   | cons a r=>simp
  refine eN func187 rfl ntmps187 fun hO=>?_
  repeat' first|refine st ?_|(refine br ?_ ?_<;>intro hb)|fail
  refine mL (a:=S.length) (j:=1) 5 1 ss ss (by decide) ?_
  simp only [go_sem, *]
  refine cW (fun (p:Nat × AV) env S'=>p.1≤l.length∧(p.2=.nilp∨p.2=.own S.length 0)∧env 1000000=.dfr []∧env 3=.own S.length 0∧env 6=.sval false (l.map Co)∧env 7=.int .i64 l.length∧env 8=.int .i64 (p.1:Int) ∧
   S'=S++[aH.cells [p.2,.sown (S.length+1) p.1 (fj (l.take p.1)).length] (some 90),.arr 5 1 0 p.1 ((fj (l.take p.1)).map jj)]) (fun p=>l.length - p.1) (0,.nilp) ?_ ?_
  ·exact⟨bf _,.inl rfl,ss,ss,ss,ss,ss,rfl⟩
  ·rintro⟨k,ad⟩ env S' ⟨hk,had,e0,e3,e6,e7,e8,rfl⟩ IH
   have HI:=ab IH
   have H:=ab h
   have Hb:=ab hb
   have Had:=ab had
   have Hpos:=ab hpos
   clear IH h hb had hn hpos
   have ht:=pu (l.take k)
   have htk:(l.take k).length≤k:=List.length_take_le _ _
   simp only at hk e8
   by_cases hlt:k<l.length
   ·obtain⟨c,hx⟩:∃ c,l[k]? = some c:=⟨_,al hlt⟩
    have h1:decide ((k:Int)<(l.length:Int))=true:=by simpa using hlt
    have hw:ae.wrap ((k:Int)+1)=(k:Int)+1:=ah _ (by omega)
    have hpl:=rp c
    have hput:=fun S'=>L0 w0 S' c (Hb.out c (ax hx))
    have hws:=PM w0 S ad k (fj (l.take k)) (pC c) Had.out (by omega)
    rw [← ra hx] at hws
    have Hlt:=ab hlt
    clear hlt hl hk ht htk hpl
    repeat' first|apply fK|apply eg|apply dx|apply eh|apply fL|apply bU|apply fQ|apply bW|apply bJ|apply cE|apply bV|apply bI|apply bo|apply fO|(apply bp;(· rfl))|(apply cC;simp only [bg])|(apply dq;(· rfl);(· simp only [go_sem, *,Co];try rfl);(· rfl);simp only [putA])|(apply eo;simp only [putA])|apply cF|(apply cZ [];(· simp only [go_sem, *,Co];try rfl);(· rfl);(· simp only [go_sem, *,Co];try rfl);(· rfl);(iterate 2 (· simp only [go_sem, *,Co];try rfl));(first|apply hput|apply hws);simp only [aV,putA])|(apply dr;(· simp only [go_sem, *,Co];try rfl);(· rfl);(· simp only [go_sem, *,Co];try rfl))|(apply dF;(iterate 2 (· simp only [go_sem, *,Co];try rfl));(· rfl);simp only [putA])|(apply bH;(· simp only [go_sem, *,Co];try rfl);(· rfl);simp only [putA])|(apply dt;(· simp only [go_sem, *,Co];try rfl))|(apply dw;(· simp only [go_sem, *,Co];try rfl))|(apply cD;(· rfl);(fail_if_success (focus (show _=some true;(· simp only [go_sem, *,Co];try rfl))));(· simp only [go_sem, *,Co];try rfl);all_goals (intro hb;try simp only [aw,aE] at hb))|(apply du;(· simp only [go_sem, *,Co];try rfl);all_goals (intro hb;try simp only [aw,aE] at hb))|fail
    refine HI.out (k+1,.own S.length 0) _ _ (by have:=Hlt.out;simp only;omega) ⟨Hlt.out,.inr rfl, ?_, ?_, ?_, ?_, ?_,rfl⟩
    ·(simp only [go_sem, *];try rfl)
    ·(simp only [go_sem, *];try rfl)
    ·(simp only [go_sem, *];try rfl)
    ·(simp only [go_sem, *];try rfl)
    ·(simp only [go_sem, *];try rfl)
   ·have hkl:k=l.length:=by omega
    have h1:decide ((k:Int)<(l.length:Int))=false:=by simpa using hlt
    have htl:fj (l.take k)=fj l:=by rw [hkl,bt]
    have hp1:1≤(fj l).length:=by have:=pu l;have:=Hpos.out;omega
    rw [htl]
    have hbs:=Qh w0 S ad k (fj l) Had.out hp1
    clear hlt hl hk ht htk htl hkl hp1
    repeat' first|refine st ?_|(refine ca ?_;apply hbs)|(refine br ?_ ?_<;>intro hb)|fail
    refine fR results187 ?_
    exact H.out
def kf(s:List Nat):List Nat × List Nat:=s.foldl (fun q b=>((dP q.1 b).1,q.2++(dP q.1 b).2)) ([],[])
theorem rM:∀ (s:List Nat) (q:List Nat × List Nat),(s.foldl (fun q b=>((dP q.1 b).1,q.2++(dP q.1 b).2)) q).2++gB (s.foldl (fun q b=>((dP q.1 b).1,q.2++(dP q.1 b).2)) q).1=q.2++lw q.1 s
 | [],q=>rfl
 | b::s,q=>by
  rw [gI,rM s]
  simp only [lw,aN]
theorem mB(s:List Nat):DR s=(kf s).2++gB (kf s).1:=by
 have:=rM s ([],[])
 rw [fS] at this
 exact this.symm
theorem oc{s:List Nat}{i b:Nat}(h:s[i]? = some b):kf (s.take (i+1))=((dP (kf (s.take i)).1 b).1,(kf (s.take i)).2++(dP (kf (s.take i)).1 b).2):=by
 unfold kf
 rw [sC,h]
 simp only [ip,List.foldl_append,gI,List.foldl_nil]
theorem rd{p:List Nat}{b:Nat}(hp:∀ x∈p,x<256)(hb:b<256):∀ x∈(dP p b).1,x<256:=by
 have ha:∀ x∈p++[b],x<256:=by
  intro x hx
  rcases cH.1 hx with hx|hx
  ·exact hp x hx
  ·rw [bk.1 hx];exact hb
 unfold dP
 split
 ·simp
 ·split
  ·exact ha
  ·split
   ·simp
   ·unfold gA
    split
    ·simp
    ·split
     ·intro x hx;rw [bk.1 hx];exact hb
     ·simp
theorem G3(s:List Nat)(hs:∀ b∈s,b<256):∀ i,fc (kf (s.take i)).1=true∧∀ x∈(kf (s.take i)).1,x<256:=by
 intro i
 induction i with
 | zero=>exact⟨rfl,by simp [kf]⟩
 | succ i ih =>
  cases hx:s[i]? with
  | none =>
   rw [List.getElem?_eq_none_iff] at hx
   rw [dV (by omega)] at ih ⊢
   exact ih
  | some b =>
   rw [oc hx]
   exact⟨qb _ _,rd ih.2 (hs b (ax hx))⟩
theorem zP{p:List Nat}(h:dc p=2):ij p<2097152:=by
 match p with
 | []=>decide
 | [a] =>
  obtain⟨h1,_⟩:=qm h
  rcases cO a with⟨h2,hF,hL⟩|⟨h2,hF,hL⟩|⟨h2,h3,hF,hL⟩|⟨h2,h3,hF,hL⟩|⟨h2,h3,hF,hL⟩|⟨h2,h3,hF,hL⟩|⟨h2,h3,hF,hL⟩
  all_goals (rw [hL] at h1;simp at h1)
  simp [ij];omega
 | [a,b]=>simp [ij];omega
 | [a,b,c]=>simp [ij];omega
 | [a,b,c,d]=>simp [ij];omega
 | a::b::c::d::e::r =>
  obtain⟨h1,_⟩:=qm h
  rcases cO a with⟨h2,hF,hL⟩|⟨h2,hF,hL⟩|⟨h2,h3,hF,hL⟩|⟨h2,h3,hF,hL⟩|⟨h2,h3,hF,hL⟩|⟨h2,h3,hF,hL⟩|⟨h2,h3,hF,hL⟩
  all_goals (rw [hL] at h1;simp at h1)
theorem v7(b:Nat):(∀ c∈(gA b).2,c<2097152)∧(gA b).2.length≤1:=by
 unfold gA
 split
 ·next h=>exact⟨by intro c hc;rw [bk.1 hc];exact zP h,by simp⟩
 ·split<;>simp
theorem jR(p:List Nat)(b:Nat):(∀ c∈(dP p b).2,c<2097152)∧(dP p b).2.length≤2:=by
 unfold dP
 split
 ·next h=>exact⟨by intro c hc;rw [bk.1 hc];exact zP h,by simp⟩
 ·split
  ·simp
  ·split
   ·simp
   ·have:=v7 b
    refine⟨?_,by simp;omega⟩
    intro c hc
    rcases bz.1 hc with rfl|hc
    ·decide
    ·exact this.1 c hc
theorem pT:∀ (s p:List Nat),(∀ c∈lw p s,c<2097152)∧(lw p s).length≤2 * s.length+1
 | [],p=>by
  unfold lw gB
  split<;>simp
 | b::s,p=>by
  have h1:=jR p b
  have h2:=pT s (dP p b).1
  unfold lw
  refine⟨?_,by rw [ai,aB];omega⟩
  intro c hc
  rcases cH.1 hc with hc|hc
  ·exact h1.1 c hc
  ·exact h2.1 c hc
def dN(s:List UInt8):List Nat:=DR (s.map aJ)
theorem pU(s:List UInt8):(∀ c∈dN s,c<2097152)∧(dN s).length≤2 * s.length+1:=by
 have:=pT (s.map aJ) []
 rw [be] at this
 exact this
theorem Cb(s:List Nat):∀ m i,i+m=s.length→∃ z,(kf s).2=(kf (s.take i)).2++z
 | 0,i,h=>⟨[],by rw [dV (by omega),aG]⟩
 | m+1,i,h=>by
  obtain⟨z,hz⟩:=Cb s m (i+1) (by omega)
  have hx:s[i]? = some s[i]:=al (by omega)
  rw [oc hx] at hz
  exact⟨(dP (kf (s.take i)).1 s[i]).2++z,by rw [hz,aN]⟩
theorem GA{s:List UInt8}{i j c:Nat}{b:UInt8}(hx:s[i]? = some b)(hj:(dP (kf ((s.map aJ).take i)).1 b.toNat).2[j]? = some c):(dN s)[(kf ((s.map aJ).take i)).2.length+j]? = some c:=by
 have hi:=(af.1 hx).1
 obtain⟨z,hz⟩:=Cb (s.map aJ) (s.length - (i+1)) (i+1) (by simp;omega)
 have qM:(s.map aJ)[i]? = some b.toNat:=by rw [aI,hx];rfl
 rw [oc qM] at hz
 have hjl:=(af.1 hj).1
 unfold dN
 rw [mB,hz]
 simp only [aN]
 rw [aD (by omega),BI,az hjl]
 exact hj
theorem DT{s:List UInt8}{j c:Nat}(hj:(gB (kf (s.map aJ)).1)[j]? = some c):(dN s)[(kf (s.map aJ)).2.length+j]? = some c:=by
 unfold dN
 rw [mB,aD (by omega),BI]
 exact hj
def Hu(s:List UInt8):AV:=.fn (.func 268) [] [.pro [.str s]]
theorem Kh(s:List UInt8)(R:Rt)(h:R (.ret (Hu s)) S):aj prog w0 228 [.str s] S R:=by
 refine eN func228 rfl ntmps228 fun hO=>?_
 repeat' first|refine st ?_|(refine br ?_ ?_<;>intro hb)|fail
 refine fR results228 ?_
 exact h
theorem Ij(w0:World)(s:List UInt8)(hs:s.length≤100000000)(a n:Nat)(ha:decide (a<n)=true)(I:Nat→List aH→Prop)(hI:∀ k S,I k S→S.length=n∧bD S)
  (hround:∀ k S c,I k S→(dN s)[k]? = some c→∀ (E:List aH) (R':gC→List aH→Prop),(∀ S2 E2,I (k+1) S2→R' (.ret (.bool true)) (S2++(E++E2)))→YA prog w0 a [.int .i64 c] (S++E) R')
  (S:List aH) (h0:I 0 S) (R:Rt) (h:∀ S',I (dN s).length S'→R (.ret (.tup [])) S') :
  aj prog w0 268 [.yld a,.pro [.str s]] S R:=by
 have hn:=(hI _ _ h0).1
 refine eN func268 rfl ntmps268 fun hO=>?_
 repeat' first|refine st ?_|(refine br ?_ ?_<;>intro hb)|fail
 have hall:∀ b∈s.map aJ,b<256:=by
  intro b hb
  obtain⟨x,_,rfl⟩:=aM.1 hb
  exact x.toNat_lt
 have hst:=G3 (s.map aJ) hall
 refine cW (fun (p:Nat × AV) env S'=>p.1≤s.length∧(p.2=.snil∧(kf ((s.map aJ).take p.1)).1=[]∨p.2=.sval false ((kf ((s.map aJ).take p.1)).1.map By))∧env 1000000=.dfr []∧env 0=.yld a∧env 1=.pro [.str s]∧env 3=p.2∧env 12=.int .i64 s.length∧env 13=.int .i64 (p.1:Int)∧I (kf ((s.map aJ).take p.1)).2.length S') (fun p=>s.length - p.1) (0,.snil) ?_ ?_
 ·exact⟨bf _,.inl ⟨rfl,rfl⟩,ss,ss,ss,ss,ss,ss,h0⟩
 ·rintro⟨i,pv⟩ env S' ⟨hi,hpv,e0,ey,e1,e3,e12,e13,hIi⟩ IH
  have HI:=ab IH
  have HIi:=ab hIi
  have Hn:=ab hn
  have Hr:=ab hround
  have HJ:=ab hI
  have H:=ab h
  have Hst:=ab hst
  clear IH hIi hn hround hI h hst hall h0
  simp only at hi e13 e3 hpv
  by_cases hlt:i<s.length
  ·obtain⟨b,hx⟩:∃ b,s[i]? = some b:=⟨_,al hlt⟩
   have h1:decide ((i:Int)<(s.length:Int))=true:=by simpa using hlt
   have hw:ae.wrap ((i:Int)+1)=(i:Int)+1:=ah _ (by omega)
   have qM:(s.map aJ)[i]? = some b.toNat:=by rw [aI,hx];rfl
   have hsu:=oc qM
   have hca:=fun j c=>GA (j:=j) (c:=c) hx
   have hstep:=fun S'=>G0 w0 S' (kf ((s.map aJ).take i)).1 b.toNat b.toNat_lt (Hst.out i).1 (Hst.out i).2
   have hq2:=(jR (kf ((s.map aJ).take i)).1 b.toNat).2
   obtain⟨q,hq⟩:∃ q,dP (kf ((s.map aJ).take i)).1 b.toNat=q:=⟨_,rfl⟩
   obtain⟨D,hD⟩:∃ D,(kf ((s.map aJ).take i)).2=D:=⟨_,rfl⟩
   obtain⟨X,hX⟩:∃ X,(kf ((s.map aJ).take i)).1=X:=⟨_,rfl⟩
   rw [hq,hX] at hstep
   rw [hq] at hca hsu hq2
   rw [hD] at hca hsu
   rw [hX] at hpv
   obtain⟨q1,q2⟩:=q
   unfold h_ at hstep
   simp only at hstep hca hsu hq2
   have HIi2:=ab (show I D.length S' from hD▸HIi.out)
   have Hca:=ab hca
   have Hsu:=ab hsu
   have Hlt:=ab hlt
   clear HIi Hst hca hsu hX hD hq qM hlt hi
   have Hstep:=ab hstep
   clear hstep
   rcases hpv with⟨rfl,hX0⟩|rfl
   all_goals
    try subst hX0
    repeat' first|refine st ?_|(refine ca ?_;apply Hstep.out)|(refine br ?_ ?_<;>intro hb)|fail
    refine cW (fun (j:Nat) env' S2=>j≤q2.length∧env' 1000000=.dfr []∧env' 0=.yld a∧env' 1=.pro [.str s]∧env' 3=.sval false (q1.map By)∧env' 12=.int .i64 s.length∧env' 13=.int .i64 (i:Int)∧env' 25=.sval false (q2.map Co)∧env' 26=.int .i64 q2.length∧env' 27=.int .i64 (j:Int)∧I (D.length+j) S2) (fun j=>q2.length - j) 0 ?_ ?_
    ·exact⟨bf _,ss,ss,ss,ss,ss,ss,ss,ss,ss,HIi2.out⟩
    ·clear e0 ey e1 e3 e12 e13
     rintro j env2 S2 ⟨hj,f0,fy,f1,f3,f12,f13,f25,f26,f27,hIj⟩ JH
     have HH:=ab JH
     have HIj:=ab hIj
     clear JH hIj
     by_cases hjl:j<q2.length
     ·obtain⟨c,hc⟩:∃ c,q2[j]? = some c:=⟨_,al hjl⟩
      have j1:decide ((j:Int)<(q2.length:Int))=true:=by simpa using hjl
      have hwj:ae.wrap ((j:Int)+1)=(j:Int)+1:=ah _ (by omega)
      have Hjl:=ab hjl
      clear hjl hj hq2
      repeat' first|apply fK|apply eg|apply dx|apply eh|apply fL|apply bU|apply fQ|apply bW|apply bJ|apply cE|apply bV|apply bI|apply bo|apply fO|(apply bp;(· rfl))|(apply cC;simp only [bg])|(apply dq;(· rfl);(· simp only [go_sem, *,Co];try rfl);(· rfl);simp only [putA])|(apply eo;simp only [putA])|apply cF|(apply dr;(· simp only [go_sem, *,Co];try rfl);(· rfl);(· simp only [go_sem, *,Co];try rfl))|(apply dF;(iterate 2 (· simp only [go_sem, *,Co];try rfl));(· rfl);simp only [putA])|(apply bH;(· simp only [go_sem, *,Co];try rfl);(· rfl);simp only [putA])|(apply dt;(· simp only [go_sem, *,Co];try rfl))|(apply dw;(· simp only [go_sem, *,Co];try rfl))|(apply cD;(· rfl);(fail_if_success (focus (show _=some true;(· simp only [go_sem, *,Co];try rfl))));(· simp only [go_sem, *,Co];try rfl);all_goals (intro hb;try simp only [aw,aE] at hb))|(apply du;(· simp only [go_sem, *,Co];try rfl);all_goals (intro hb;try simp only [aw,aE] at hb))|fail
      apply ug
      ·(simp only [go_sem, *];try rfl)
      ·rfl
      ·(simp only [go_sem, *];try rfl)
      ·rfl
      ·(simp only [go_sem, *];try rfl)
      have hy:=Hr.out (D.length+j) S2 c HIj.out (Hca.out j c hc) []
      simp only [aG,fS] at hy
      refine hy _ ?_
      intro S3 E3 hI3
      have hO3:=HJ.out _ _ hI3
      simp only [aV,putA]
      repeat' first|refine st ?_|(refine br ?_ ?_<;>intro hb)|fail
      refine n7 hO3.2 0 [0,1,3,12,13,25,26,27] (Hn.out.trans hO3.1.symm) ss ss ss ?_
      refine HH.out (j+1) _ _ (by have:=Hjl.out;omega) ⟨Hjl.out, ?_, ?_, ?_, ?_, ?_, ?_, ?_, ?_, ?_, ?_⟩
      ·(simp only [go_sem, *];try rfl)
      ·(simp only [go_sem, *];try rfl)
      ·(simp only [go_sem, *];try rfl)
      ·(simp only [go_sem, *];try rfl)
      ·(simp only [go_sem, *];try rfl)
      ·(simp only [go_sem, *];try rfl)
      ·(simp only [go_sem, *];try rfl)
      ·(simp only [go_sem, *];try rfl)
      ·(simp only [go_sem, *];try rfl)
      ·rw [show D.length+(j+1)=D.length+j+1 from rfl]
       simpa only [aP,aG] using hI3
     ·have j1:decide ((j:Int)<(q2.length:Int))=false:=by simpa using hjl
      have hje:j=q2.length:=by omega
      have Hje:=ab hje
      clear hjl hj hje hq2
      repeat' first|refine st ?_|(refine br ?_ ?_<;>intro hb)|fail
      refine HI.out (i+1,.sval false (q1.map By)) _ _ (by have:=Hlt.out;simp only;omega) ⟨Hlt.out,.inr (by simp only;rw [Hsu.out]), ?_, ?_, ?_, ?_, ?_, ?_, ?_⟩
      ·(simp only [go_sem, *];try rfl)
      ·(simp only [go_sem, *];try rfl)
      ·(simp only [go_sem, *];try rfl)
      ·(simp only [go_sem, *];try rfl)
      ·(simp only [go_sem, *];try rfl)
      ·(simp only [go_sem, *];try rfl)
      ·simp only
       rw [Hsu.out,ai,← Hje.out]
       exact HIj.out
  ·have h1:decide ((i:Int)<(s.length:Int))=false:=by simpa using hlt
   have hie:i=s.length:=by omega
   have htk:(s.map aJ).take i=s.map aJ:=dV (by simp;omega)
   have hst1:=(Hst.out i).1
   have hIi3:=HIi.out
   rw [htk] at hpv hst1 hIi3
   have hfl:=fun S'=>Ii w0 S' (kf (s.map aJ)).1 hst1
   have hce:=fun j c=>DT (s:=s) (j:=j) (c:=c)
   have hcl:(dN s).length=(kf (s.map aJ)).2.length+(gB (kf (s.map aJ)).1).length:=by
    unfold dN
    rw [mB,ai]
   obtain⟨D,hD⟩:∃ D,(kf (s.map aJ)).2=D:=⟨_,rfl⟩
   obtain⟨X,hX⟩:∃ X,(kf (s.map aJ)).1=X:=⟨_,rfl⟩
   obtain⟨q2,hq2⟩:∃ q2,gB (kf (s.map aJ)).1=q2:=⟨_,rfl⟩
   have hq2l:q2.length≤1:=by rw [← hq2];unfold gB;split<;>simp
   rw [hq2,hX] at hfl
   rw [hX] at hpv
   rw [hD,hq2] at hce hcl
   rw [hD] at hIi3
   have HIi2:=ab hIi3
   have Hce:=ab hce
   have Hcl:=ab hcl
   have Hfl:=ab hfl
   clear hIi3 HIi hce hcl hfl hst1 hD hX hq2 htk hie hlt hi Hst HI
   rcases hpv with⟨rfl,hX0⟩|rfl
   all_goals
    try subst hX0
    repeat' first|refine st ?_|(refine ca ?_;apply Hfl.out)|(refine br ?_ ?_<;>intro hb)|fail
    refine cW (fun (j:Nat) env' S2=>j≤q2.length∧env' 1000000=.dfr []∧env' 0=.yld a∧env' 38=.sval false (q2.map Co)∧env' 39=.int .i64 q2.length∧env' 40=.int .i64 (j:Int)∧I (D.length+j) S2) (fun j=>q2.length - j) 0 ?_ ?_
    ·exact⟨bf _,ss,ss,ss,ss,ss,HIi2.out⟩
    ·clear e0 ey e1 e3 e12 e13
     rintro j env2 S2 ⟨hj,f0,fy,f25,f26,f27,hIj⟩ JH
     have HH:=ab JH
     have HIj:=ab hIj
     clear JH hIj
     by_cases hjl:j<q2.length
     ·obtain⟨c,hc⟩:∃ c,q2[j]? = some c:=⟨_,al hjl⟩
      have j1:decide ((j:Int)<(q2.length:Int))=true:=by simpa using hjl
      have hwj:ae.wrap ((j:Int)+1)=(j:Int)+1:=ah _ (by omega)
      have Hjl:=ab hjl
      clear hjl hj hq2l
      repeat' first|apply fK|apply eg|apply dx|apply eh|apply fL|apply bU|apply fQ|apply bW|apply bJ|apply cE|apply bV|apply bI|apply bo|apply fO|(apply bp;(· rfl))|(apply cC;simp only [bg])|(apply dq;(· rfl);(· simp only [go_sem, *,Co];try rfl);(· rfl);simp only [putA])|(apply eo;simp only [putA])|apply cF|(apply dr;(· simp only [go_sem, *,Co];try rfl);(· rfl);(· simp only [go_sem, *,Co];try rfl))|(apply dF;(iterate 2 (· simp only [go_sem, *,Co];try rfl));(· rfl);simp only [putA])|(apply bH;(· simp only [go_sem, *,Co];try rfl);(· rfl);simp only [putA])|(apply dt;(· simp only [go_sem, *,Co];try rfl))|(apply dw;(· simp only [go_sem, *,Co];try rfl))|(apply cD;(· rfl);(fail_if_success (focus (show _=some true;(· simp only [go_sem, *,Co];try rfl))));(· simp only [go_sem, *,Co];try rfl);all_goals (intro hb;try simp only [aw,aE] at hb))|(apply du;(· simp only [go_sem, *,Co];try rfl);all_goals (intro hb;try simp only [aw,aE] at hb))|fail
      apply ug
      ·(simp only [go_sem, *];try rfl)
      ·rfl
      ·(simp only [go_sem, *];try rfl)
      ·rfl
      ·(simp only [go_sem, *];try rfl)
      have hy:=Hr.out (D.length+j) S2 c HIj.out (Hce.out j c hc) []
      simp only [aG,fS] at hy
      refine hy _ ?_
      intro S3 E3 hI3
      have hO3:=HJ.out _ _ hI3
      simp only [aV,putA]
      repeat' first|refine st ?_|(refine br ?_ ?_<;>intro hb)|fail
      refine n7 hO3.2 0 [0,38,39,40] (Hn.out.trans hO3.1.symm) ss ss ss ?_
      refine HH.out (j+1) _ _ (by have:=Hjl.out;omega) ⟨Hjl.out, ?_, ?_, ?_, ?_, ?_, ?_⟩
      ·(simp only [go_sem, *];try rfl)
      ·(simp only [go_sem, *];try rfl)
      ·(simp only [go_sem, *];try rfl)
      ·(simp only [go_sem, *];try rfl)
      ·(simp only [go_sem, *];try rfl)
      ·rw [show D.length+(j+1)=D.length+j+1 from rfl]
       simpa only [aP,aG] using hI3
     ·have j1:decide ((j:Int)<(q2.length:Int))=false:=by simpa using hjl
      have hje:j=q2.length:=by omega
      have Hje:=ab hje
      clear hjl hj hje hq2l
      repeat' first|refine st ?_|(refine br ?_ ?_<;>intro hb)|fail
      have hO2:=HJ.out _ _ HIj.out
      apply JG (S2:=S2) (L:=[])
      ·(simp only [go_sem, *];try rfl)
      ·(simp only [go_sem, *];try rfl)
      ·exact hO2.1.trans Hn.out.symm
      ·exact hO2.2
      ·(simp only [go_sem, *,results268];try rfl)
      ·(simp only [go_sem, *];try rfl)
      ·(simp only [go_sem, *];try rfl)
      ·refine H.out _ ?_
       rw [Hcl.out,← Hje.out]
       exact HIj.out
def nB(c:Nat):Bool:=decide (32≤c)&&!(decide (127≤c)&&decide (c≤159))
def tv(s:List UInt8):Bool:=(dN s).all nB&&decide (fj (dN s)=s)
def gq(s:List UInt8):Bool:=decide (s.length≤510)&&tv s
theorem Al(l:List Nat):(fj l).map aJ=G2 l:=by
 induction l with
 | nil=>rfl
 | cons c l ih =>
  show (pC c++fj l).map aJ=sL c++G2 l
  rw [aY,ih]
  congr 1
  unfold pC
  exact kl _ (AE c)
theorem xZ(c:Nat)(hc:nB c=true):∀ x∈sL c,32≤x∧x≠127:=by
 unfold nB at hc
 simp at hc
 intro x hx
 unfold sL at hx
 split at hx
 ·unfold kh at hx
  repeat' split at hx
  all_goals (simp at hx;omega)
 ·simp [kh] at hx
  omega
def vt(s:List UInt8):Prop:=∀ b∈s,32≤b.toNat∧b.toNat≠127
theorem wF{s:List UInt8}(h:tv s=true):vt s:=by
 unfold tv at h
 rw [ao,aC,decide_eq_true_eq] at h
 obtain⟨h1,h2⟩:=h
 intro b hb
 rw [← h2] at hb
 have hm:b.toNat∈(fj (dN s)).map aJ:=aM.2 ⟨b,hb,rfl⟩
 rw [Al] at hm
 obtain⟨c,hc,hx⟩:=List.mem_flatMap.1 hm
 exact xZ c (h1 c hc) _ hx
def kg(n:Nat):List UInt8:=[114,103,98,58,dU (n / 1048576),dU (n / 65536 % 16),47,dU (n / 4096 % 16),dU (n / 256 % 16),47,dU (n / 16 % 16),dU (n % 16)]
def iv:List UInt8→Option Nat
 | [p0,p1,p2,p3,a,b,q,c,d,r,e,f]=>if p0=114∧p1=103∧p2=98∧p3=58∧q=47∧r=47 then
   (match iu a b,iu c d,iu e f with
   | some x,some y,some z=>some (x * 65536+y * 256+z)
   | _,_,_=>none) else none
 | _=>none
theorem u9:∀ x,x<16→∀ y,y<16→iu (dU x) (dU y)=some (x * 16+y):=by decide +kernel
theorem AZ:∀ x,x<16→32≤(dU x).toNat∧(dU x).toNat≠127∧dU x≠59:=by decide +kernel
theorem Gy{n:Nat}(h:n≤16777215):iv (kg n)=some n:=by
 unfold kg iv
 simp only
 rw [if_pos (by simp),u9 _ (by omega) _ (by omega),u9 _ (by omega) _ (by omega),u9 _ (by omega) _ (by omega)]
 simp only
 congr 1
 omega
theorem JY{s:List UInt8}{n:Nat}(h:iv s=some n):n≤16777215:=by
 unfold iv at h
 split at h
 ·split at h
  ·split at h
   ·next x y z hx hy hz =>
    have:=qN hx
    have:=qN hy
    have:=qN hz
    cases h
    omega
   ·cases h
  ·cases h
 ·cases h
theorem Az{n:Nat}(h:n≤16777215):vt (kg n):=by
 intro b hb
 simp only [kg,bz,gK,or_false] at hb
 have g:=fun x hx=>AZ x hx
 rcases hb with rfl|rfl|rfl|rfl|rfl|rfl|rfl|rfl|rfl|rfl|rfl|rfl
 all_goals first
  | decide
  | exact⟨(g _ (by omega)).1,(g _ (by omega)).2.1⟩
def rY(b:UInt8):Bool:=decide (48≤b.toNat)&&decide (b.toNat≤57)
def jP(w:List UInt8):Nat:=w.foldl (fun n b=>n * 10+(b.toNat - 48)) 0
def mm(w:List UInt8):Option Nat:=if w=[]∨3<w.length∨w.all rY=false∨255<jP w then none else some (jP w)
theorem rL:∀ n:Nat,n<256→mm (gn (n:Int))=some n∧(gn (n:Int)).length≤3∧(gn (n:Int)).all (fun b=>decide (b≠59)&&(decide (32≤b.toNat)&&decide (b.toNat≠127)))=true:=by decide +kernel
theorem Jo{w:List UInt8}{n:Nat}(h:mm w=some n):n≤255:=by
 unfold mm at h
 split at h
 ·cases h
 ·next hh=>cases h;omega
def hY(s:List UInt8):Option (List UInt8 × List UInt8):=if s.dropWhile (fun b=>b != 59)=[] then none else some (s.takeWhile (fun b=>b != 59),(s.dropWhile (fun b=>b != 59)).drop 1)
theorem mW:∀ {w:List UInt8} (r:List UInt8),(∀ b∈w,b≠59)→hY (w++59::r)=some (w,r):=by
 intro w r hw
 have h:(w++59::r).takeWhile (fun b=>b != 59)=w∧(w++59::r).dropWhile (fun b=>b != 59)=59::r:=by
  induction w with
  | nil=>exact⟨rfl,rfl⟩
  | cons c w ih =>
   have hc:(c != 59)=true:=by simpa using hw c (by simp)
   obtain⟨h1,h2⟩:=ih (fun b hb=>hw b (gY _ hb))
   simp only [ft]
   rw [List.takeWhile_cons,List.dropWhile_cons,if_pos hc,if_pos hc,h1,h2]
   exact⟨rfl,rfl⟩
 unfold hY
 rw [h.1,h.2]
 rfl
structure Ac where
 kind:Int
 n:Int
 m:Int
 ck:Int
 cn:Int
 text:List UInt8
 deriving DecidableEq
def zeroA:Ac:=⟨0,0,0,0,0,[]⟩
def cK(a:Ac):Option (List UInt8) :=
 if a=⟨44,0,0,0,0,a.text⟩∧gq a.text=true then some (50::59::a.text)
 else if a=⟨45,a.n,0,2,a.cn,[]⟩∧(0≤a.n∧a.n≤255)∧(0≤a.cn∧a.cn≤16777215) then some (52::59::(gn a.n++59::kg a.cn.toNat))
 else if a=⟨46,0,0,0,0,a.text⟩∧a.text.length≤378 then some (53::50::59::99::59::hU a.text)
 else none
def ea(s:List UInt8):Option Ac :=
 if 512<s.length then none else
  match hY s with
  | none=>none
  | some (k,r) =>
   if k=[48]∨k=[50] then (if gq r then some ⟨44,0,0,0,0,r⟩ else none)
   else if k=[52] then
    (match hY r with
    | none=>none
    | some (h,t)=>match mm h,iv t with
     | some n,some c=>some ⟨45,n,0,2,c,[]⟩
     | _,_=>none)
   else if k=[53,50] then
    (match hY r with
    | none=>none
    | some (w,t)=>if w=[99] then
      (match pR t with
      | some c=>if c.length≤378 then some ⟨46,0,0,0,0,c⟩ else none
      | none=>none) else none)
   else none
theorem qe{a:Ac}{s:List UInt8}(h:cK a=some s) :
  (∃ t,a=⟨44,0,0,0,0,t⟩∧gq t=true∧s=50::59::t) ∨
  (∃ n c:Nat,a=⟨45,n,0,2,c,[]⟩∧n<256∧c≤16777215∧s=52::59::(gn n++59::kg c)) ∨
  (∃ t,a=⟨46,0,0,0,0,t⟩∧t.length≤378∧s=53::50::59::99::59::hU t):=by
 unfold cK at h
 split at h
 ·next hh=>cases h;exact .inl ⟨_,hh.1,hh.2,rfl⟩
 ·split at h
  ·next hh =>
   obtain⟨h1,⟨h2,h3⟩,h4,h5⟩:=hh
   cases h
   obtain⟨n,hn⟩:∃ n:Nat,a.n=n:=⟨a.n.toNat,by omega⟩
   obtain⟨c,hc⟩:∃ c:Nat,a.cn=c:=⟨a.cn.toNat,by omega⟩
   rw [hn,hc] at h1
   exact .inr (.inl ⟨n,c,h1,by omega,by omega,by rw [hn,hc];rfl⟩)
  ·split at h
   ·next hh=>cases h;exact .inr (.inr ⟨_,hh.1,hh.2,rfl⟩)
   ·cases h
theorem w_(t:List UInt8):(hU t).length=(t.length+2) / 3 * 4:=by
 unfold hU gh gD
 simp only [ai,be,List.length_replicate,mU]
 omega
theorem xT:∀ v,v<64→32≤(bm v).toNat∧(bm v).toNat≠127:=by decide +kernel
theorem yy(t:List UInt8):vt (hU t):=by
 intro b hb
 unfold hU gh at hb
 rcases cH.1 hb with hb|hb
 ·obtain⟨v,hv,rfl⟩:=aM.1 hb
  exact xT v (pP _ (toNat_lt t) v hv)
 ·rw [List.eq_of_mem_replicate hb];decide
theorem DH(t:List UInt8):pR (hU t)=some t:=by
 rw [xc]
 have hV:=pP _ (toNat_lt t)
 have hd:sU (hU t)=t:=by
  unfold sU hU gh
  rw [l7 _ _ hV,(vl _ (toNat_lt t)).1,Ef]
  conv=>rhs;rw [← List.map_id t]
  apply List.map_congr_left
  intro c _
  simp
 unfold yB
 rw [hd,if_neg (by simp)]
theorem wA{a:Ac}{s:List UInt8}(h:cK a=some s):ea s=some a∧0<s.length∧s.length≤512∧vt s:=by
 rcases qe h with⟨t,rfl,ht,rfl⟩|⟨n,c,rfl,hn,hc,rfl⟩|⟨t,rfl,ht,rfl⟩
 ·have htl:t.length≤510∧tv t=true:=by unfold gq at ht;simpa using ht
  refine⟨?_,by simp,by simp;omega, ?_⟩
  ·unfold ea
   have hcut:hY (50::59::t)=some ([50],t):=mW (w:=[50]) t (by simp)
   rw [if_neg (by simp;omega),hcut]
   simp [ht]
  ·intro b hb
   simp only [bz] at hb
   rcases hb with rfl|rfl|hb
   ·decide
   ·decide
   ·exact wF htl.2 b hb
 ·obtain⟨h1,h2,h3⟩:=rL n hn
  rw [aC] at h3
  have hw:∀ b∈gn (n:Int),b≠59:=fun b hb=>by have:=h3 b hb;simp at this;exact this.1
  have hl:(kg c).length=12:=rfl
  refine⟨?_,by simp,by simp;omega, ?_⟩
  ·unfold ea
   have hcut:hY (52::59::(gn (n:Int)++59::kg c))=some ([52],gn (n:Int)++59::kg c):=mW (w:=[52]) _ (by simp)
   rw [if_neg (by simp;omega),hcut]
   simp only
   rw [if_neg (by decide),if_pos trivial,mW _ hw]
   simp only [h1,Gy hc]
  ·intro b hb
   simp only [bz,cH] at hb
   rcases hb with rfl|rfl|hb|rfl|hb
   ·decide
   ·decide
   ·have:=h3 b hb;simp at this;exact⟨this.2.1,this.2.2⟩
   ·decide
   ·exact Az hc b hb
 ·have hl:=w_ t
  refine⟨?_,by simp,by simp;omega, ?_⟩
  ·unfold ea
   have hcut:hY (53::50::59::99::59::hU t)=some ([53,50],99::59::hU t):=mW (w:=[53,50]) _ (by simp)
   have hcut2:hY (99::59::hU t)=some ([99],hU t):=mW (w:=[99]) _ (by simp)
   rw [if_neg (by simp;omega),hcut]
   simp only
   rw [if_neg (by decide),if_neg (by decide),if_pos trivial,hcut2]
   simp only [if_true,DH,ht]
  ·intro b hb
   simp only [bz] at hb
   rcases hb with rfl|rfl|rfl|rfl|rfl|hb
   ·decide
   ·decide
   ·decide
   ·decide
   ·decide
   ·exact yy t b hb
theorem wy{s:List UInt8}{a:Ac}(h:ea s=some a):(∃ u,cK a=some u)∧s.length≤512:=by
 unfold ea at h
 split at h
 ·cases h
 next hl =>
 refine⟨?_,by omega⟩
 split at h
 ·cases h
 ·split at h
  ·split at h
   ·next ht=>cases h;exact⟨_,by unfold cK;rw [if_pos ⟨rfl,ht⟩]⟩
   ·cases h
  ·split at h
   ·split at h
    ·cases h
    ·split at h
     ·next n c hn hc =>
      cases h
      have h1:=Jo hn
      have h2:=JY hc
      exact⟨_,by unfold cK;rw [if_neg (by simp),if_pos ⟨rfl,⟨by simp,by simp;omega⟩,by simp,by simp;omega⟩]⟩
     ·cases h
   ·split at h
    ·split at h
     ·cases h
     ·split at h
      ·split at h
       ·split at h
        ·next hc=>cases h;exact⟨_,by unfold cK;rw [if_neg (by simp),if_neg (by simp),if_pos ⟨rfl,hc⟩]⟩
        ·cases h
       ·cases h
      ·cases h
    ·cases h
def eE(c:Int):AV:=.int .i64 c
@[go_sem] theorem eE.plainL(l:List Int):plainL (l.map eE)=true:=fA (fun _=>rfl) l
@[go_sem] theorem eE.ltL(l:List Int)(n:Nat):ltL n (l.map eE)=true:=db.2 fun x hx=>by obtain⟨y,_,rfl⟩:=aM.1 hx;rfl
@[go_sem] theorem eE.ok(l:List Int):cN 1 (l.map eE)=true:=by
 unfold cN;rw [aC];intro x hx;obtain⟨y,_,rfl⟩:=aM.1 hx;rfl
end Go.Proofs.YthdbijpefkapnaaGreatDoor
