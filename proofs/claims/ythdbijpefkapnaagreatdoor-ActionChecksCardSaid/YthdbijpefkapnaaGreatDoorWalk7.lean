/- YthdbijpefkapnaaGreatDoorWalk7. Texts of the proof of a law about texts: a layer of abstract values above the worlds, the types, the walks of the functions that the law reaches, the law and its card. Own work of an AI agent. -/
import Derived.Test.YthdbijpefkapnaaGreatDoorWalk6
import Derived.Test.YthdbijpefkapnaaGreatDoorWalk4
import Derived.Test.YthdbijpefkapnaaGreatDoorWalk0
import Derived.Test.YthdbijpefkapnaaGreatDoorWalk2
import Derived.Test.YthdbijpefkapnaaGreatDoorCore3
set_option linter.all false
set_option maxHeartbeats 40000000
open Bool renaming and_assoc → yh, eq_iff_iff → dT, false_eq_true → du, not_eq_false' → aA, not_eq_true' → ax
open Function renaming comp_def → be
open Go.Lib renaming hid → au
open Go.RowKit renaming Hid → B_
open Int renaming cast_ofNat_Int → bU
open List renaming all_eq_true → aF, append_assoc → ai, append_nil → aP, cons_append → al, drop_zero → aq, find?_cons → lc, find?_eq_none → ym, getElem?_append_left → aJ, getElem?_eq_some_iff → aw, map → bS, map_append → co, map_cons → aG, map_nil → aL, mem_append → dg, mem_append_left → ly, mem_append_right → dR, mem_cons → dj, mem_cons_of_mem → ia, mem_cons_self → dL, mem_map → aX, mem_of_find?_eq_some → qu, mem_singleton → bC, nil_append → ap, nodup_append → iu, range → bJ, set_append_right → ef, take_length → bQ, take_succ_cons → ae, take_zero → ao, toList_toArray → aU
open List.Perm renaming append_left → i7
open List.cons renaming injEq → np
open Nat renaming le_refl → bg
open Option renaming isSome_none → Cb, isSome_some → Ca, map_eq_none_iff → yc, map_eq_some_iff → aW
open Prod renaming fst → cK
open Prod.mk renaming injEq → k_
namespace Go.Proofs.YthdbijpefkapnaaGreatDoor
open Go Go.Fen
attribute [local irreducible] ba WP az dI ie cU aR cw
set_option maxRecDepth 8000
def KW (s:List UInt8):Option Ac:=if gZ s then some ⟨44,0,0,0,0,s⟩ else none
theorem Ae (w0:World) (S:List aH) (s:List UInt8) (hs:s.length≤10000000) (R:Rt) (h:R (iP (KW s)) S):az Tryz.prog w0 203 [.str s] S R:=by
 refine J_ w0 S s hs R ?_
 unfold KW at h
 cases hb:gZ s with
 | true=>rw [hb] at h;exact h
 | false=>rw [hb] at h;exact h
theorem Bi {s k r:List UInt8} (h1:¬ 512<s.length) (h2:kD s=some (k,r)):fO s=if k=[48]∨k=[50] then KW r else if k=[52] then Li r else if k=[53,50] then Lh r else none:=by
 unfold fO
 rw [if_neg h1,h2]
 simp only
 unfold KW Li Lh
 rfl
theorem Gk (w0:World) (hS:EB w0) (hG:KS w0) (S:List aH) (s:List UInt8) (i:Nat) (ha:S[i]? = some (.cells [.str s])) (hs:s.length≤8192) (R:Rt) (h:R (iP (fO s)) S):az Tryz.prog w0 134 [.own i 0] S R:=by
 have hm:=J7 w0
 unfold MS at hm
 have hmT:=lK w0
 have hmF:=lL w0
 unfold cq at hmF
 have hal:=(aw.1 ha).1
 have ha1:∀ L:List aH,(S++L)[i]? = some (.cells [.str s]):=fun L=>by rw [aJ hal];exact ha
 clear hal
 by_cases h5:512<s.length
 ·have d1:decide ((s.length:Int)≤512)=false:=by simp;omega
  have e:fO s=none:=by unfold fO;rw [if_pos h5]
  rw [e] at h
  unfold iP cq at h
  simp only at h
  clear h5 e hS hG hs hmT
  refine eN Tryz.func134 rfl Tryz.ntmps134 fun hO=>?_
  repeat' first | refine st ?_ | (refine ca ?_;apply hmF) | (refine br ?_ ?_<;>intro hb) | fail
  refine fP ?_
  exact h
 have d1:decide ((s.length:Int)≤512)=true:=by simp;omega
 have ht:=fun S'=>J2 w0 S' s (by omega)
 cases hq:kD s with
 | none =>
  have e:fO s=none:=by unfold fO;rw [if_neg h5,hq]
  rw [e] at h
  rw [hq] at ht
  unfold iP cq at h
  unfold uQ cq at ht
  simp only at h ht
  clear h5 e hS hG hs hmF hq
  refine eN Tryz.func134 rfl Tryz.ntmps134 fun hO=>?_
  repeat' first | refine st ?_ | (refine ca ?_;first | apply ht | apply hmT) | (refine br ?_ ?_<;>intro hb) | fail
  refine fP ?_
  exact h
 | some q =>
 obtain⟨k,r⟩:=q
 obtain⟨hkl,hrl⟩:=vY hq
 rw [Bi h5 hq] at h
 rw [hq] at ht
 unfold uQ at ht
 simp only at ht
 by_cases h0:k=[48]
 ·subst h0
  rw [if_pos (.inl rfl)] at h
  have hr:=fun S'=>Ae w0 S' r (by omega)
  generalize KW r=o at h hr
  clear h5 hq hS hG hs hkl hrl
  unfold iP at h hr
  cases o with
  | none =>
   unfold cq at h hr
   simp only at h hr
   refine eN Tryz.func134 rfl Tryz.ntmps134 fun hO=>?_
   repeat' first | refine st ?_ | (refine ca ?_;first | apply ht | apply hmT | apply hm | apply hr) | (refine br ?_ ?_<;>intro hb) | fail
   refine fP ?_
   exact h
  | some a =>
   obtain⟨ak,an,am,ac,ad,at'⟩:=a
   unfold Ac.av at h hr
   simp only at h hr
   refine eN Tryz.func134 rfl Tryz.ntmps134 fun hO=>?_
   repeat' first | refine st ?_ | (refine ca ?_;first | apply ht | apply hmT | apply hm | apply hr) | (refine br ?_ ?_<;>intro hb) | fail
   refine fR Tryz.results134 ?_
   exact h
 by_cases h2:k=[50]
 ·subst h2
  rw [if_pos (.inr rfl)] at h
  have hr:=fun S'=>Ae w0 S' r (by omega)
  generalize KW r=o at h hr
  clear h5 hq hS hG hs hkl hrl
  unfold iP at h hr
  cases o with
  | none =>
   unfold cq at h hr
   simp only at h hr
   refine eN Tryz.func134 rfl Tryz.ntmps134 fun hO=>?_
   repeat' first | refine st ?_ | (refine ca ?_;first | apply ht | apply hmT | apply hm | apply hr) | (refine br ?_ ?_<;>intro hb) | fail
   refine fP ?_
   exact h
  | some a =>
   obtain⟨ak,an,am,ac,ad,at'⟩:=a
   unfold Ac.av at h hr
   simp only at h hr
   refine eN Tryz.func134 rfl Tryz.ntmps134 fun hO=>?_
   repeat' first | refine st ?_ | (refine ca ?_;first | apply ht | apply hmT | apply hm | apply hr) | (refine br ?_ ?_<;>intro hb) | fail
   refine fR Tryz.results134 ?_
   exact h
 by_cases h4:k=[52]
 ·subst h4
  rw [if_neg (by decide),if_pos rfl] at h
  have hr:=fun S'=>J9 w0 hS hG S' r (by omega)
  generalize Li r=o at h hr
  clear h5 hq hS hG hs hkl hrl
  unfold iP at h hr
  cases o with
  | none =>
   unfold cq at h hr
   simp only at h hr
   refine eN Tryz.func134 rfl Tryz.ntmps134 fun hO=>?_
   repeat' first | refine st ?_ | (refine ca ?_;first | apply ht | apply hmT | apply hm | apply hr) | (refine br ?_ ?_<;>intro hb) | fail
   refine fP ?_
   exact h
  | some a =>
   obtain⟨ak,an,am,ac,ad,at'⟩:=a
   unfold Ac.av at h hr
   simp only at h hr
   refine eN Tryz.func134 rfl Tryz.ntmps134 fun hO=>?_
   repeat' first | refine st ?_ | (refine ca ?_;first | apply ht | apply hmT | apply hm | apply hr) | (refine br ?_ ?_<;>intro hb) | fail
   refine fR Tryz.results134 ?_
   exact h
 by_cases h52:k=[53,50]
 ·subst h52
  rw [if_neg (by decide),if_neg (by decide),if_pos rfl] at h
  have hr:=fun S'=>J8 w0 S' r (by omega)
  generalize Lh r=o at h hr
  clear h5 hq hS hG hs hkl hrl
  unfold iP at h hr
  cases o with
  | none =>
   unfold cq at h hr
   simp only at h hr
   refine eN Tryz.func134 rfl Tryz.ntmps134 fun hO=>?_
   repeat' first | refine st ?_ | (refine ca ?_;first | apply ht | apply hmT | apply hm | apply hr) | (refine br ?_ ?_<;>intro hb) | fail
   refine fP ?_
   exact h
  | some a =>
   obtain⟨ak,an,am,ac,ad,at'⟩:=a
   unfold Ac.av at h hr
   simp only at h hr
   refine eN Tryz.func134 rfl Tryz.ntmps134 fun hO=>?_
   repeat' first | refine st ?_ | (refine ca ?_;first | apply ht | apply hmT | apply hm | apply hr) | (refine br ?_ ?_<;>intro hb) | fail
   refine fR Tryz.results134 ?_
   exact h
 ·rw [if_neg (by rintro(e | e)<;>contradiction),if_neg h4,if_neg h52] at h
  have b0:(k==[48])=false:=by simpa using h0
  have b2:(k==[50])=false:=by simpa using h2
  have b4:(k==[52])=false:=by simpa using h4
  have b5:(k==[53,50])=false:=by simpa using h52
  unfold iP cq at h
  simp only at h
  clear h0 h2 h4 h52 h5 hq hS hG hs hkl hrl
  refine eN Tryz.func134 rfl Tryz.ntmps134 fun hO=>?_
  repeat' first | refine st ?_ | (refine ca ?_;first | apply ht | apply hmT | apply hm | apply hmF) | (refine br ?_ ?_<;>intro hb) | fail
  refine fP ?_
  exact h
theorem Q4 (w0:World) (S:List aH) (K:List aH→Prop) (h:K S):wi Tryz.prog w0 201 [] .inil S K:=by
 refine rq (eO (eO (df []) 1 .inil) 0 .inil) S Tryz.func201 (by decide +kernel) rfl rfl rfl rfl rfl (by decide) (by rw [Tryz.ntmps201];simp) (by rw [Tryz.ntmps201];decide) rfl ?_ ?_
 ·rfl
 ·rw [Tryz.ntmps201]
  repeat' first | refine st ?_ | (refine br ?_ ?_<;>intro hb) | fail
  exact⟨.inl rfl,ss,fun _ _ _ e=>.inl e,by rw [bQ];exact h⟩
theorem Q3 (w0:World) (S:List aH) (K:List aH→Prop) (h:K S):wi Tryz.prog w0 201 [] cq S K:=by
 refine rq (eO (eO (df []) 1 cq) 0 cq) S Tryz.func201 (by decide +kernel) rfl rfl rfl rfl rfl (by decide) (by rw [Tryz.ntmps201];simp) (by rw [Tryz.ntmps201];decide) rfl ?_ ?_
 ·rfl
 ·rw [Tryz.ntmps201]
  repeat' first | apply dM | apply cW | apply cj | apply cX | apply dN | apply bv | apply dQ | apply bx | apply bl | apply bF | apply bw | apply bj | apply aZ | apply dP | (apply a_;(· rfl)) | (apply bD;simp only [aU]) | (apply bZ;(· rfl);(· simp only [go_sem, *,cq];try rfl);(· rfl);simp only [putA]) | (apply cZ;simp only [putA]) | apply bG | (apply b_;(· simp only [go_sem, *,cq];try rfl);(· rfl);(· simp only [go_sem, *,cq];try rfl)) | (apply cF;(iterate 2 (· simp only [go_sem, *,cq];try rfl));(· rfl);simp only [putA]) | (apply bi;(· simp only [go_sem, *,cq];try rfl);(· rfl);simp only [putA]) | (apply ce;(· simp only [go_sem, *,cq];try rfl)) | (apply ci;(· simp only [go_sem, *,cq];try rfl)) | (apply bE;(· rfl);(fail_if_success (focus (show _=some true;(· simp only [go_sem, *,cq];try rfl))));(· simp only [go_sem, *,cq];try rfl);all_goals (intro hb;try simp only [ax,aA] at hb)) | (apply cg;(· simp only [go_sem, *,cq];try rfl);all_goals (intro hb;try simp only [ax,aA] at hb)) | fail
  exact⟨.inl rfl,ss,fun _ _ _ e=>.inl e,by rw [bQ];exact h⟩
theorem Kc (w0:World) (S:List aH) (i:Nat) (cs:List AV) (ha:S[i]? = some (.cells cs)) (o:Option Ac) (hC:∀ S' (R:Rt),S'[i]? = some (.cells cs)→R (iP o) S'→az Tryz.prog w0 134 [.own i 0] S' R) (R:Rt) (h:R (.ret (yM o)) S):az Tryz.prog w0 133 [.fn (.func 134) [] [.own i 0]] S R:=by
 have hal:=(aw.1 ha).1
 have ha1:∀ L:List aH,(S++L)[i]? = some (.cells cs):=fun L=>by rw [aJ hal];exact ha
 clear hal
 refine Ea Tryz.func133 rfl (by decide +kernel) (by rw [Tryz.ntmps133];simp) (by rw [Tryz.ntmps133];decide) (fun hO=>?_);rw [Tryz.ntmps133]
 cases o with
 | none =>
  unfold yM zeroA Ac.av at h
  unfold iP cq at hC
  simp only at h hC
  repeat' first | refine st ?_ | (refine br ?_ ?_<;>intro hb) | fail
  apply rg
  ·(simp only [go_sem, *];try rfl)
  ·rfl
  ·(simp only [go_sem, *];try rfl)
  ·(simp only [go_sem, *];try rfl)
  ·rfl
  simp only [putA]
  repeat' first | refine st ?_ | (refine ca ?_;(apply hC;(· simp only [go_sem, *];try rfl))) | (refine br ?_ ?_<;>intro hb) | fail
  refine⟨_,_,_,ss,Q3 w0 _ _ ?_⟩
  refine⟨[.agg [.int .i64 0,.int .i64 0,.int .i64 0,.int .i64 0,.int .i64 0,.str []],.bool false],by (simp only [go_sem, *,Tryz.results133];try rfl),iR _ _,ss, ?_⟩
  rw [List.take_left]
  exact h
 | some a =>
  obtain⟨k,n,m,ck,cn,t⟩:=a
  unfold yM Ac.av at h
  unfold iP Ac.av at hC
  simp only at h hC
  repeat' first | refine st ?_ | (refine br ?_ ?_<;>intro hb) | fail
  apply rg
  ·(simp only [go_sem, *];try rfl)
  ·rfl
  ·(simp only [go_sem, *];try rfl)
  ·(simp only [go_sem, *];try rfl)
  ·rfl
  simp only [putA]
  repeat' first | refine st ?_ | (refine ca ?_;(apply hC;(· simp only [go_sem, *];try rfl))) | (refine br ?_ ?_<;>intro hb) | fail
  refine⟨_,_,_,ss,Q4 w0 _ _ ?_⟩
  refine⟨[.agg [.int .i64 k,.int .i64 n,.int .i64 m,.int .i64 ck,.int .i64 cn,.str t],.bool true],by (simp only [go_sem, *,Tryz.results133];try rfl),iR _ _,ss, ?_⟩
  rw [List.take_left]
  exact h
theorem F1 (w0:World) (hS:EB w0) (hG:KS w0):lX w0:=by
 intro S s hs R h
 have hc:=fun S' i R ha=>Gk w0 hS hG S' s i ha hs R
 have hd:=fun S' i ha=>Kc w0 S' i [.str s] ha (fO s) (fun S2 R ha2 h2=>hc S2 i R ha2 h2)
 clear hc hS hG hs
 generalize fO s=o at hd h
 unfold yM at hd h
 cases o with
 | none =>
  unfold zeroA Ac.av at hd h
  simp only at hd h
  refine eN Tryz.func74 rfl Tryz.ntmps74 fun hO=>?_
  repeat' first | refine st ?_ | (refine ca ?_;(apply hd;(· simp only [go_sem, *];try rfl))) | (refine br ?_ ?_<;>intro hb) | fail
  refine fR Tryz.results74 ?_
  exact h
 | some a =>
  obtain⟨k,n,m,ck,cn,t⟩:=a
  unfold Ac.av at hd h
  simp only at hd h
  refine eN Tryz.func74 rfl Tryz.ntmps74 fun hO=>?_
  repeat' first | refine st ?_ | (refine ca ?_;(apply hd;(· simp only [go_sem, *];try rfl))) | (refine br ?_ ?_<;>intro hb) | fail
  refine fR Tryz.results74 ?_
  exact h
def jD (k:Int):Option (Sp × Sp):=(vA.find? fun p=>k==p.1).map (·.2)
def dU (a:Ac):Bool :=
 if a.kind=1 then decide (0≤jq a.n)&&(a.m==0&&(dJ a.ck a.cn&&a.text==[]))
 else if a.kind=39 then mR a
 else if a.kind=44∨a.kind=45∨a.kind=46 then (dc a).isSome
 else match jD a.kind with
  | some (x,y)=>x.ok a.n&&(y.ok a.m&&(dJ a.ck a.cn&&a.text==[]))
  | none=>false
theorem x_ (w0:World) (S:List aH) (k n m:Int) (R:Rt) (h:R (.ret (.agg [.int .i64 k,.int .i64 n,.int .i64 m,.int .i64 0,.int .i64 0,.str []])) S):az Tryz.prog w0 26 [.int .i64 k,.int .i64 n,.int .i64 m] S R:=by
 refine eN Tryz.func26 rfl Tryz.ntmps26 fun hO=>?_
 repeat' first | refine st ?_ | (refine br ?_ ?_<;>intro hb) | fail
 refine fR Tryz.results26 ?_
 exact h
theorem sD (k:Int):∀ l:List (Int × Sp × Sp),(l.map fun p=>((.int .i64 p.1:AV),(AV.agg [p.2.1.fv,p.2.2.fv]))).find? (fun e=>kR (.int .i64 k) e.1)=((l.find? fun p=>k==p.1).map fun p=>((.int .i64 p.1:AV),(AV.agg [p.2.1.fv,p.2.2.fv])))
 | []=>rfl
 | p::l=>by
  rw [aG,lc,lc,sD k l]
  show (match k==p.1 with | true=>_ | false=>_)=_
  cases k==p.1<;>rfl
theorem Gq {k:Int}{x y:Sp} (h:jD k=some (x,y)):∃ c d,y=.rng c d:=by
 unfold jD at h
 obtain⟨p,hp,e⟩:=aW.1 h
 have hall:(vA.all fun p=>match p.2.2 with | .rng _ _=>true | .zt=>false)=true:=by decide
 have:=aF.1 hall p (qu hp)
 rw [e] at this
 cases y with
 | rng c d=>exact⟨c,d,rfl⟩
 | zt=>cases this
theorem yZ (k:Int):k=1∨k=39∨(k=44∨k=45∨k=46)∨((k==1)=false∧(k==39)=false∧(k==44)=false∧(k==45)=false∧(k==46)=false):=by
 simp only [beq_eq_false_iff_ne]
 omega
theorem Bz {k:Int}{x y:Sp} (h:jD k=some (x,y)):∃ j:Int,Bo.find? (fun e=>kR (.int .i64 k) e.1)=some (.int .i64 j,.agg [x.fv,y.fv]):=by
 unfold jD at h
 obtain⟨⟨j,x',y'⟩,hp,e⟩:=aW.1 h
 cases e
 exact⟨j,by unfold Bo;rw [sD,hp];rfl⟩
theorem BA {k:Int} (h:jD k=none):Bo.find? (fun e=>kR (.int .i64 k) e.1)=none:=by
 unfold jD at h
 have:=yc.1 h
 unfold Bo
 rw [sD,this];rfl
theorem AB (n m ck cn:Int) (t:List UInt8):dU ⟨1,n,m,ck,cn,t⟩=(decide (0≤jq n)&&(m==0&&(dJ ck cn&&t==[]))):=rfl
theorem tf (n m ck cn:Int) (t:List UInt8):dU ⟨39,n,m,ck,cn,t⟩=mR ⟨39,n,m,ck,cn,t⟩:=rfl
theorem pB {k:Int} (hk:k=44∨k=45∨k=46) (n m ck cn:Int) (t:List UInt8):dU ⟨k,n,m,ck,cn,t⟩=(dc ⟨k,n,m,ck,cn,t⟩).isSome:=by
 unfold dU
 rw [if_neg (by simp only;omega),if_neg (by simp only;omega),if_pos hk]
def ud (k n m ck cn:Int) (t:List UInt8):Option (Sp × Sp)→Bool
 | some (x,y)=>x.ok n&&(y.ok m&&(dJ ck cn&&t==[]))
 | none=>false
theorem pC {k:Int} (c1:(k==1)=false) (c2:(k==39)=false) (c3:(k==44)=false) (c4:(k==45)=false) (c5:(k==46)=false) (n m ck cn:Int) (t:List UInt8):dU ⟨k,n,m,ck,cn,t⟩=ud k n m ck cn t (jD k):=by
 simp only [beq_eq_false_iff_ne] at c1 c2 c3 c4 c5
 unfold dU
 rw [if_neg (by simp only;omega),if_neg (by simp only;omega),if_neg (by simp only;omega)]
 unfold ud
 cases jD k<;>rfl
theorem ng (w0:World) (hM:lY w0) (hW:lW w0) (hQ:nJ w0) (S:List aH) (a:Ac) (hm:uI a.m) (ht:a.text.length≤10000) (R:Rt) (h:R (.ret (.int .i64 (if dU a then 0 else 200))) S):az Tryz.prog w0 11 [a.av] S R:=by
 have hpen:=fun S'=>A9 w0 S' a hm
 have hpr:=fun S'=>hQ S' a ht
 rw [t_] at hpr
 obtain⟨k,n,m,ck,cn,t⟩:=a
 have hwd:=fun S'=>QF w0 hM hW S' n
 have hac:=x_ w0
 have hb0:∀ l:List UInt8,(l==l)=true:=by simp
 have hb1:∀ i:Int,(i==i)=true:=by simp
 simp only at hm ht
 rcases yZ k with rfl | rfl | hk | ⟨c1,c2,c3,c4,c5⟩
 ·rw [AB] at h
  have e0:decide (0≤jq n) = !decide (jq n<0):=by rw [dT];simp
  rw [e0] at h
  generalize jq n=w at h hwd
  unfold Ac.av
  simp only
  clear hpen hpr hQ hM hW hm ht e0
  cases hdw:decide (w<0)
  all_goals
   refine eN Tryz.func11 rfl Tryz.ntmps11 fun hO=>?_
   repeat' first | refine st ?_ | (refine ca ?_;first | apply hwd | apply hac) | (refine br ?_ ?_<;>intro hb) | refine sd ?_ | apply aE | (apply aO;(· decide +kernel)) | refine bd ?_ ?_ | (refine cd ?_;first | apply hwd | apply hac) | fail
   all_goals refine fR Tryz.results11 ?_
  all_goals
   refine(congrArg (fun z=>R (.ret (.int .i64 z)) S) (?_:_=_)).mpr h
   clear h hO hwd hac
   simp_all [dJ]
 ·rw [tf] at h
  generalize mR ⟨39,n,m,ck,cn,t⟩=b at h hpen
  unfold Ac.av at hpen ⊢
  simp only at hpen ⊢
  clear hwd hac hpr hQ hM hW hm ht
  cases b
  all_goals
   refine eN Tryz.func11 rfl Tryz.ntmps11 fun hO=>?_
   repeat' first | refine st ?_ | (refine ca ?_;apply hpen) | (refine br ?_ ?_<;>intro hb) | fail
   refine fR Tryz.results11 ?_
   exact h
 ·have hk1:(k==1)=false∧(k==39)=false:=by simp only [beq_eq_false_iff_ne];omega
  rw [pB hk] at h
  unfold M2 at hpr
  generalize dc ⟨k,n,m,ck,cn,t⟩=b at h hpr
  generalize MY b=u at hpr
  unfold Ac.av at hpr ⊢
  simp only at hpr ⊢
  clear hwd hac hpen hQ hM hW hm ht
  obtain⟨k1,k2⟩:=hk1
  cases b
  all_goals
   simp only [Cb,Ca,du,if_true,if_false] at h hpr
   rcases hk with rfl | rfl | rfl
   all_goals
    clear k1 k2
    refine eN Tryz.func11 rfl Tryz.ntmps11 fun hO=>?_
    repeat' first | refine st ?_ | (refine ca ?_;apply hpr) | (refine br ?_ ?_<;>intro hb) | fail
    refine fR Tryz.results11 ?_
    exact h
 ·rw [pC c1 c2 c3 c4 c5] at h
  have hnu:=Ez w0
  have h2:=Mk w0
  have h3:=Ra w0
  clear hpen hpr hwd hac hQ hM hW hm ht
  unfold Ac.av
  simp only
  cases ho:jD k with
  | none =>
   have hf:=BA ho
   simp only [go_sem] at hf
   rw [ho] at h
   clear ho h2 h3
   refine eN Tryz.func11 rfl Tryz.ntmps11 fun hO=>?_
   repeat' first | refine st ?_ | (refine ca ?_;apply hnu) | (refine br ?_ ?_<;>intro hb) | refine sd ?_ | apply aE | (apply aO;(· decide +kernel)) | refine bd ?_ ?_ | (refine cd ?_;apply hnu) | fail
   all_goals refine fR Tryz.results11 ?_
   all_goals exact h
  | some q =>
   obtain⟨x,y⟩:=q
   obtain⟨j,hf⟩:=Bz ho
   obtain⟨c,d,rfl⟩:=Gq ho
   simp only [go_sem] at hf
   rw [ho] at h
   clear ho
   rw [show ud k n m ck cn t (some (x,.rng c d))=(x.ok n&&((Sp.rng c d).ok m&&(dJ ck cn&&t==[]))) from rfl] at h
   cases x with
   | rng a b =>
    simp only [Sp.fv] at hf
    generalize hu1:(Sp.rng a b).ok n=u1 at h
    generalize hu2:(Sp.rng c d).ok m=u2 at h
    have g1:=fun S'=>h2 S' a b n
    have g2:=fun S'=>h2 S' c d m
    rw [show (decide (a≤n)&&decide (n≤b))=u1 from hu1] at g1
    rw [show (decide (c≤m)&&decide (m≤d))=u2 from hu2] at g2
    clear hu1 hu2 h2 h3
    refine eN Tryz.func11 rfl Tryz.ntmps11 fun hO=>?_
    refine share ?K1 ?hK1 fun key1=>?main1
    case main1 =>
     repeat' ((fail_if_success (apply bA 4));first | refine st ?_ | (refine ca ?_;apply hnu) | (refine br ?_ ?_<;>intro hb) | refine sd ?_ | apply aE | (apply aO;(· decide +kernel)) | refine bd ?_ ?_ | (refine cd ?_;apply hnu) | fail)
     all_goals
      refine mf [1000000,1,3,4,5] ?_
      simp only [iz,go_sem]
      exact key1
    case hK1 =>
     rintro env ⟨e0,e1,e3,e4,e5⟩
     repeat' first | refine st ?_ | (refine ca ?_;first | apply g1 | apply g2) | (refine br ?_ ?_<;>intro hb) | fail
     all_goals refine fR Tryz.results11 ?_
     all_goals
      refine(congrArg (fun z=>R (.ret (.int .i64 z)) S) (?_:_=_)).mpr h
      clear h hO g1 g2 hf hnu e0 e1 e3 e4 e5
      simp_all [dJ]
   | zt =>
    simp only [Sp.fv] at hf
    generalize hu1:Sp.zt.ok n=u1 at h
    generalize hu2:(Sp.rng c d).ok m=u2 at h
    have g1:=fun S'=>h3 S' n
    have g2:=fun S'=>h2 S' c d m
    rw [show (n==0||n==3)=u1 from hu1] at g1
    rw [show (decide (c≤m)&&decide (m≤d))=u2 from hu2] at g2
    clear hu1 hu2 h2 h3
    refine eN Tryz.func11 rfl Tryz.ntmps11 fun hO=>?_
    refine share ?K2 ?hK2 fun key1=>?main2
    case main2 =>
     repeat' ((fail_if_success (apply bA 4));first | refine st ?_ | (refine ca ?_;apply hnu) | (refine br ?_ ?_<;>intro hb) | refine sd ?_ | apply aE | (apply aO;(· decide +kernel)) | refine bd ?_ ?_ | (refine cd ?_;apply hnu) | fail)
     all_goals
      refine mf [1000000,1,3,4,5] ?_
      simp only [iz,go_sem]
      exact key1
    case hK2 =>
     rintro env ⟨e0,e1,e3,e4,e5⟩
     repeat' first | refine st ?_ | (refine ca ?_;first | apply g1 | apply g2) | (refine br ?_ ?_<;>intro hb) | fail
     all_goals refine fR Tryz.results11 ?_
     all_goals
      refine(congrArg (fun z=>R (.ret (.int .i64 z)) S) (?_:_=_)).mpr h
      clear h hO g1 g2 hf hnu e0 e1 e3 e4 e5
      simp_all [dJ]
theorem Ib (w0:World) (S:List aH) (n a b:Int) (R:Rt) (h:R (.ret (.bool (decide (a≤n)&&decide (n≤b)))) S):az Tryz.prog w0 71 [.int .i64 n,.int .i64 a,.int .i64 b] S R:=by
 cases d:decide (a≤n)<;>rw [d] at h
 all_goals
  refine eN Tryz.func71 rfl Tryz.ntmps71 fun hO=>?_
  repeat' first | refine st ?_ | (refine br ?_ ?_<;>intro hb) | fail
  refine fR Tryz.results71 ?_
  first | exact h | (simpa using h)
theorem Dl (w0:World) (S:List aH) (n:Int) (R:Rt) (h:R (.ret (.bool (decide (1≤n)&&decide (n≤9999)))) S):az Tryz.prog w0 95 [.int .i64 n] S R:=by
 have hi:=Ib w0
 refine eN Tryz.func95 rfl Tryz.ntmps95 fun hO=>?_
 repeat' first | refine st ?_ | (refine ca ?_;apply hi) | (refine br ?_ ?_<;>intro hb) | fail
 refine fR Tryz.results95 ?_
 exact h
def qE (k n m:Int):Bool:=if k=1 then decide (0≤jq n)&&m==0 else match jD k with
 | some (x,y)=>x.ok n&&y.ok m
 | none=>false
theorem Dk (w0:World) (S:List aH) (k n m ck cn:Int) (t:List UInt8) (R:Rt) (h:R (.ret (.bool (qE k n m))) S):az Tryz.prog w0 44 [.agg [.int .i64 k,.int .i64 n,.int .i64 m,.int .i64 ck,.int .i64 cn,.str t]] S R:=by
  have hi:=Ib w0
  have hc:=Dl w0
  have hw:=fun S'=>QG w0 S' n
  refine eN Tryz.func44 rfl Tryz.ntmps44 fun hO=>?_
  repeat' first | refine st ?_ | (refine ca ?_;first | apply hi | apply hc | apply hw) | (refine br ?_ ?_<;>intro hb) | fail
  all_goals refine fR Tryz.results44 ?_
  all_goals
    refine(congrArg (fun z=>R (.ret (.bool z)) S) (?_:_=_)).mpr h
    clear h hO hi hc hw
    simp only [beq_iff_eq,beq_eq_false_iff_ne] at *
    rw [dT]
    first
    | (simp_all [qE,jD,vA,List.find?,Sp.ok];done)
    | (simp_all [qE,jD,vA,List.find?,Sp.ok]<;>omega)
    | (have hn:jD k=none:=by
        unfold jD
        simp only [yc,ym,vA,List.forall_mem_cons]
        simp_all
       simp_all [qE])
theorem Ex {k:Int} (c2:(k==39)=false) (c3:(k==44)=false) (c4:(k==45)=false) (c5:(k==46)=false) (n m ck cn:Int) (t:List UInt8):dU ⟨k,n,m,ck,cn,t⟩=(qE k n m&&(dJ ck cn&&t==[])):=by
 by_cases c1:k=1
 ·subst c1
  rw [AB]
  unfold qE
  rw [if_pos rfl,yh]
 ·rw [pC (beq_eq_false_iff_ne.2 c1) c2 c3 c4 c5]
  unfold qE
  rw [if_neg c1]
  cases jD k with
  | none=>rfl
  | some q=>obtain⟨x,y⟩:=q;simp only [ud,yh]
theorem rk (w0:World) (S:List aH) (a:Ac) (ht:a.text.length≤10000) (R:Rt) (h:R (.ret (.bool (dU a))) S):az Tryz.prog w0 23 [a.av] S R:=by
 have hpen:=fun S'=>Bf w0 S' a
 have hpr:=fun S'=>Jh w0 S' a ht
 rw [t_] at hpr
 obtain⟨k,n,m,ck,cn,t⟩:=a
 have hnu:=fun S'=>Dk w0 S' k n m ck cn t
 simp only at ht
 by_cases c39:k=39
 ·subst c39
  rw [tf] at h
  generalize mR ⟨39,n,m,ck,cn,t⟩=b at h hpen
  unfold Ac.av at hpen ⊢
  simp only at hpen ⊢
  clear hnu hpr ht
  cases b
  all_goals
   refine eN Tryz.func23 rfl Tryz.ntmps23 fun hO=>?_
   repeat' first | refine st ?_ | (refine ca ?_;apply hpen) | (refine br ?_ ?_<;>intro hb) | fail
   refine fR Tryz.results23 ?_
   exact h
 by_cases hk:k=44∨k=45∨k=46
 ·rw [pB hk] at h
  unfold M2 at hpr
  generalize dc ⟨k,n,m,ck,cn,t⟩=b at h hpr
  generalize MY b=u at hpr
  unfold Ac.av at hpr ⊢
  simp only at hpr ⊢
  clear hnu hpen ht
  cases b
  all_goals
   simp only [Cb,Ca,du,if_true,if_false] at h hpr
   rcases hk with rfl | rfl | rfl
   all_goals
    clear c39
    refine eN Tryz.func23 rfl Tryz.ntmps23 fun hO=>?_
    repeat' first | refine st ?_ | (refine ca ?_;apply hpr) | (refine br ?_ ?_<;>intro hb) | fail
    refine fR Tryz.results23 ?_
    exact h
 ·have c2:(k==39)=false:=by rw [beq_eq_false_iff_ne];exact c39
  have c3:(k==44)=false:=by rw [beq_eq_false_iff_ne];omega
  have c4:(k==45)=false:=by rw [beq_eq_false_iff_ne];omega
  have c5:(k==46)=false:=by rw [beq_eq_false_iff_ne];omega
  rw [Ex c2 c3 c4 c5] at h
  generalize qE k n m=b at h hnu
  unfold Ac.av
  simp only
  clear hpen hpr ht hk c39
  refine eN Tryz.func23 rfl Tryz.ntmps23 fun hO=>?_
  repeat' first | refine st ?_ | (refine ca ?_;apply hnu) | (refine br ?_ ?_<;>intro hb) | fail
  all_goals refine fR Tryz.results23 ?_
  all_goals
   refine(congrArg (fun z=>R (.ret (.bool z)) S) (?_:_=_)).mpr h
   clear h hO hnu
   simp_all [dJ]
theorem Dm (w0:World) (S:List aH) (a:Ac) (ht:a.text.length≤10000) (R:Rt) (h:R (.ret (.int .i64 (if dU a then 0 else 200))) S):az Tryz.prog w0 12 [a.av] S R:=by
 have hr:=fun S'=>rk w0 S' a ht
 obtain⟨k,n,m,ck,cn,t⟩:=a
 generalize dU ⟨k,n,m,ck,cn,t⟩=b at h hr
 unfold Ac.av at hr ⊢
 simp only at hr ⊢
 clear ht
 cases b
 all_goals
  refine eN Tryz.func12 rfl Tryz.ntmps12 fun hO=>?_
  repeat' first | refine st ?_ | (refine ca ?_;apply hr) | (refine br ?_ ?_<;>intro hb) | fail
  refine fR Tryz.results12 ?_
  exact h
structure Ev where
 kind:Int
 code:Int
 priv:Nat
 fin:Nat
 pars:List (List Int)
 inter:List UInt8
 text:List UInt8
 deriving DecidableEq
def Ev.av (e:Ev):AV:=.agg [.int .i64 e.kind,.int .i64 e.code,.int .u8 e.priv,.int .u8 e.fin,.sval false (e.pars.map dA),.str e.inter,.str e.text]
def lj (e:Ev):Bool:=(decide (1≤e.kind)&&decide (e.kind≤6))&&ep e.pars
theorem x9 (w0:World) (S:List aH) (e:Ev) (hl:oI e.pars) (R:Rt) (h:R (.ret (.int .i64 (if lj e then 0 else 201))) S):az Tryz.prog w0 18 [e.av] S R:=by
 have hp:=fun S'=>p4 w0 S' e.pars hl
 have hh:=fun S'=>Mk w0 S' 1 6 e.kind
 obtain⟨k,c,pr,fi,l,it,t⟩:=e
 unfold lj at h
 unfold tI at hp
 unfold Ev.av
 simp only at h hp hh ⊢ hl
 generalize ep l=b at h hp
 generalize (decide (1≤k)&&decide (k≤6))=d at h hh
 clear hl
 cases b<;>cases d
 all_goals
  refine eN Tryz.func18 rfl Tryz.ntmps18 fun hO=>?_
  repeat' first | refine st ?_ | (refine ca ?_;first | apply hp | apply hh) | (refine br ?_ ?_<;>intro hb) | fail
  refine fR Tryz.results18 ?_
  exact h
theorem jS (w0:World) (S:List aH) (l:List (List Int)) (R:Rt) (h:R (.ret (.int .i64 (eE l 0 0))) S):az Tryz.prog w0 146 [.sval false (l.map dA)] S R:=by
 have hv:=fun S' R h=>(pN w0 S' l 0 0 R h).1
 refine eN Tryz.func146 rfl Tryz.ntmps146 fun hO=>?_
 repeat' first | refine st ?_ | (refine ca ?_;apply hv) | (refine br ?_ ?_<;>intro hb) | fail
 refine fR Tryz.results146 ?_
 exact h
theorem jy (w0:World) (S:List aH) (l:List (List Int)) (R:Rt) (h:R (.ret (.int .i64 (eE l 1 0))) S):az Tryz.prog w0 149 [.sval false (l.map dA)] S R:=by
 have hv:=fun S' R h=>(pN w0 S' l 1 0 R h).1
 refine eN Tryz.func149 rfl Tryz.ntmps149 fun hO=>?_
 repeat' first | refine st ?_ | (refine ca ?_;apply hv) | (refine br ?_ ?_<;>intro hb) | fail
 refine fR Tryz.results149 ?_
 exact h
def kF (l:List (List Int)):Int:=if 1<eE l 0 0 then eE l 0 0 else 1
theorem ir (w0:World) (S:List aH) (l:List (List Int)) (R:Rt) (h:R (.ret (.int .i64 (kF l))) S):az Tryz.prog w0 144 [.sval false (l.map dA)] S R:=by
 have hv:=jS w0
 unfold kF at h
 by_cases hc:1<eE l 0 0
 ·rw [if_pos hc] at h
  have hc1:((1:Int)<eE l 0 0)=True:=eq_true hc
  clear hc
  refine eN Tryz.func144 rfl Tryz.ntmps144 fun hO=>?_
  repeat' first | refine st ?_ | (refine ca ?_;apply hv) | (refine br ?_ ?_<;>intro hb) | fail
  refine fR Tryz.results144 ?_
  first | exact h | (simpa using h)
 ·rw [if_neg hc] at h
  have hc1:((1:Int)<eE l 0 0)=False:=eq_false hc
  clear hc
  refine eN Tryz.func144 rfl Tryz.ntmps144 fun hO=>?_
  repeat' first | refine st ?_ | (refine ca ?_;apply hv) | (refine br ?_ ?_<;>intro hb) | fail
  refine fR Tryz.results144 ?_
  first | exact h | (simpa using h)
def ez (k n m:Int):Ac:=⟨k,n,m,0,0,[]⟩
def BR:List (Int × Ac):=[(7,ez 2 0 0),(8,ez 3 0 0),(9,ez 4 0 0),(10,ez 5 0 0),(11,ez 5 0 0),(12,ez 5 0 0),(13,ez 6 0 0),(14,ez 7 1 0),(15,ez 7 0 0)]
def BS (c:Int):Option Ac:=(BR.find? fun p=>c==p.1).map (·.2)
structure Wy where
 pv:Nat
 inter:List UInt8
 fn:Nat
 deriving DecidableEq
def Wy.av (w:Wy):AV:=.agg [.int .u8 w.pv,.str w.inter,.int .u8 w.fn]
def xZ:List (Nat × Ac):=[(68,ez 8 0 0),(69,ez 9 0 0),(72,ez 10 0 0),(77,ez 11 0 0),(78,ez 18 2 0),(79,ez 18 3 0),(55,ez 12 0 0),(56,ez 13 0 0),(61,ez 14 1 0),(62,ez 14 0 0),(99,ez 15 0 0)]
def BJ:List (Wy × Ac):=(⟨0,[35],56⟩,ez 16 0 0)::(xZ.map fun p=>(⟨0,[],p.1⟩,p.2)) ++
 [(⟨0,[40],66⟩,ez 17 0 0),(⟨0,[40],48⟩,ez 17 0 1),(⟨0,[41],66⟩,ez 17 1 0),(⟨0,[41],48⟩,ez 17 1 1),(⟨0,[42],66⟩,ez 17 2 0),(⟨0,[42],48⟩,ez 17 2 1),(⟨0,[43],66⟩,ez 17 3 0),(⟨0,[43],48⟩,ez 17 3 1)]
def BL (w:Wy):Option Ac:=(BJ.find? fun p=>w==p.1).map (·.2)
inductive Sq where
 | cnt (k:Int)
 | first (k:Int)
 | way (k n:Int)
 | cursor
 | modes (k bit:Int)
 | ask (n:Int)
 | margins
 | const (k:Int)
 | pens
 | shape
 | askMode (n:Int)
def rt:List (Nat × Int):=[(71,22),(96,22),(100,23),(73,24),(90,25),(64,28),(80,29),(88,30),(76,31),(77,32),(98,34)]
def pw:List (Nat × Int):=[(74,26),(75,27),(103,35),(110,41)]
def zO:List (Nat × Int × Int):=[(65,20,0),(66,20,1),(67,20,2),(68,20,3),(69,21,0),(70,21,1),(83,33,0),(84,33,1)]
def yB:List (Wy × Sq):=(rt.map fun p=>(⟨0,[],p.1⟩,Sq.cnt p.2))++(pw.map fun p=>(⟨0,[],p.1⟩,Sq.first p.2))++(zO.map fun p=>(⟨0,[],p.1⟩,Sq.way p.2.1 p.2.2)) ++
 [(⟨0,[],72⟩,.cursor),(⟨0,[],102⟩,.cursor),(⟨0,[],108⟩,.modes 36 0),(⟨63,[],108⟩,.modes 37 0),(⟨0,[],104⟩,.modes 36 1),(⟨63,[],104⟩,.modes 37 1),(⟨0,[],99⟩,.ask 0),(⟨62,[],99⟩,.ask 1),(⟨0,[],114⟩,.margins),(⟨0,[],115⟩,.const 12),(⟨0,[],117⟩,.const 13),(⟨0,[],109⟩,.pens),
 (⟨0,[32],113⟩,.shape),(⟨0,[33],112⟩,.const 15),(⟨0,[36],112⟩,.askMode 0),(⟨63,[36],112⟩,.askMode 1)]
def nL (w:Wy):Option Sq:=(yB.find? fun p=>w==p.1).map (·.2)
def cM (k n m:Int):AV:=.agg [.int .i64 k,.int .i64 n,.int .i64 m,.int .i64 0,.int .i64 0,.str []]
theorem i6 (k n m:Int):(ez k n m).av=cM k n m:=rfl
def vn:List (AV × AV):=BR.map fun p=>(.int .i64 p.1,p.2.av)
def plainP (m:Nat):List iA:=[.mk 3,.val 4 (cM 2 0 0),.ent (.int .i64 7) (cM 2 0 0),.val 5 (cM 3 0 0),.ent (.int .i64 8) (cM 3 0 0),.val 6 (cM 4 0 0),.ent (.int .i64 9) (cM 4 0 0),.val 7 (cM 5 0 0),.ent (.int .i64 10) (cM 5 0 0),.val 8 (cM 5 0 0),.ent (.int .i64 11) (cM 5 0 0),.val 9 (cM 5 0 0),.ent (.int .i64 12) (cM 5 0 0),
 .val 10 (cM 6 0 0),.ent (.int .i64 13) (cM 6 0 0),.val 11 (cM 7 1 0),.ent (.int .i64 14) (cM 7 1 0),.val 12 (cM 7 0 0),.ent (.int .i64 15) (cM 7 0 0),.val 13 (.mown m),.val 0 (.mown m)]
theorem KR (w0:World) (S:List aH) (R:Rt) (h:R (.ret (.mval vn)) S):az Tryz.prog w0 72 [] S R:=by
 have hac:=x_ w0
 have H:=au h
 clear h
 refine eN Tryz.func72 rfl Tryz.ntmps72 fun hO=>?_
 repeat' ((fail_if_success (apply bA 2));first | refine st ?_ | (refine ca ?_;apply hac) | (refine br ?_ ?_<;>intro hb) | fail)
 refine eR (n:=21) mixed rfl ?_
 refine KE (plainP (S.length+1)) 0 (t:=135) (kt:=3) (et:=25) rfl ?ok ?dep ?ty ?ky ?st ?fin
 case ok=>kernel_rfl
 case dep=>decide +kernel
 case ty=>simp only [go_sem]
 case ky=>simp [plainP,jG,mW,kR,tM,fI,kv,go_sem]
 case st =>
  refine⟨?s0, ?s1, ?s2, ?s3, ?s4, ?s5, ?s6, ?s7, ?s8, ?s9, ?s10, ?s11, ?s12, ?s13, ?s14, ?s15, ?s16, ?s17, ?s18, ?s19, ?s20,trivial⟩
  case s0 =>
   intro env hd
   repeat' first | refine st ?_ | (refine br ?_ ?_<;>intro hb) | refine sd ?_ | apply aE | (apply aO;(· decide +kernel)) | refine bd ?_ ?_ | fail
   first | exact⟨trivial,trivial⟩ | (constructor<;>first | rfl | trivial | simp)
  case s1 =>
   intro env S' hd hS
   clear hd hS
   repeat' first | refine st ?_ | (refine ca ?_;apply hac) | (refine br ?_ ?_<;>intro hb) | refine sd ?_ | apply aE | (apply aO;(· decide +kernel)) | refine bd ?_ ?_ | (refine cd ?_;apply hac) | fail
   first | exact⟨trivial,trivial⟩ | (constructor<;>first | rfl | trivial | simp)
  case s2 =>
   exact⟨_,_,_,_,rfl,rfl,rfl,.inr rfl,fun env hd=>⟨hd.1 0 (by decide +kernel) _ rfl _ rfl,rfl,hd.1 1 (by decide +kernel) _ rfl _ rfl⟩⟩
  case s3 =>
   intro env S' hd hS
   clear hd hS
   repeat' first | refine st ?_ | (refine ca ?_;apply hac) | (refine br ?_ ?_<;>intro hb) | refine sd ?_ | apply aE | (apply aO;(· decide +kernel)) | refine bd ?_ ?_ | (refine cd ?_;apply hac) | fail
   first | exact⟨trivial,trivial⟩ | (constructor<;>first | rfl | trivial | simp)
  case s4 =>
   exact⟨_,_,_,_,rfl,rfl,rfl,.inr rfl,fun env hd=>⟨hd.1 0 (by decide +kernel) _ rfl _ rfl,rfl,hd.1 3 (by decide +kernel) _ rfl _ rfl⟩⟩
  case s5 =>
   intro env S' hd hS
   clear hd hS
   repeat' first | refine st ?_ | (refine ca ?_;apply hac) | (refine br ?_ ?_<;>intro hb) | refine sd ?_ | apply aE | (apply aO;(· decide +kernel)) | refine bd ?_ ?_ | (refine cd ?_;apply hac) | fail
   first | exact⟨trivial,trivial⟩ | (constructor<;>first | rfl | trivial | simp)
  case s6 =>
   exact⟨_,_,_,_,rfl,rfl,rfl,.inr rfl,fun env hd=>⟨hd.1 0 (by decide +kernel) _ rfl _ rfl,rfl,hd.1 5 (by decide +kernel) _ rfl _ rfl⟩⟩
  case s7 =>
   intro env S' hd hS
   have q1:=hd.2 1 rfl
   simp only [go_sem] at q1
   clear hd
   rcases hS with rfl | ⟨es,rfl⟩
   all_goals
    repeat' first | refine st ?_ | (refine br ?_ ?_<;>intro hb) | refine sd ?_ | apply aE | (apply aO;(· decide +kernel)) | refine bd ?_ ?_ | fail
    first | exact⟨trivial,trivial⟩ | (constructor<;>first | rfl | trivial | simp)
  case s8 =>
   exact⟨_,_,_,_,rfl,rfl,rfl,.inr rfl,fun env hd=>⟨hd.1 0 (by decide +kernel) _ rfl _ rfl,rfl,hd.1 7 (by decide +kernel) _ rfl _ rfl⟩⟩
  case s9 =>
   intro env S' hd hS
   have q1:=hd.2 1 rfl
   simp only [go_sem] at q1
   clear hd
   rcases hS with rfl | ⟨es,rfl⟩
   all_goals
    repeat' first | refine st ?_ | (refine br ?_ ?_<;>intro hb) | refine sd ?_ | apply aE | (apply aO;(· decide +kernel)) | refine bd ?_ ?_ | fail
    first | exact⟨trivial,trivial⟩ | (constructor<;>first | rfl | trivial | simp)
  case s10 =>
   exact⟨_,_,_,_,rfl,rfl,rfl,.inr rfl,fun env hd=>⟨hd.1 0 (by decide +kernel) _ rfl _ rfl,rfl,hd.1 9 (by decide +kernel) _ rfl _ rfl⟩⟩
  case s11 =>
   intro env S' hd hS
   have q1:=hd.2 1 rfl
   simp only [go_sem] at q1
   clear hd
   rcases hS with rfl | ⟨es,rfl⟩
   all_goals
    repeat' first | refine st ?_ | (refine br ?_ ?_<;>intro hb) | refine sd ?_ | apply aE | (apply aO;(· decide +kernel)) | refine bd ?_ ?_ | fail
    first | exact⟨trivial,trivial⟩ | (constructor<;>first | rfl | trivial | simp)
  case s12 =>
   exact⟨_,_,_,_,rfl,rfl,rfl,.inr rfl,fun env hd=>⟨hd.1 0 (by decide +kernel) _ rfl _ rfl,rfl,hd.1 11 (by decide +kernel) _ rfl _ rfl⟩⟩
  case s13 =>
   intro env S' hd hS
   clear hd hS
   repeat' first | refine st ?_ | (refine ca ?_;apply hac) | (refine br ?_ ?_<;>intro hb) | refine sd ?_ | apply aE | (apply aO;(· decide +kernel)) | refine bd ?_ ?_ | (refine cd ?_;apply hac) | fail
   first | exact⟨trivial,trivial⟩ | (constructor<;>first | rfl | trivial | simp)
  case s14 =>
   exact⟨_,_,_,_,rfl,rfl,rfl,.inr rfl,fun env hd=>⟨hd.1 0 (by decide +kernel) _ rfl _ rfl,rfl,hd.1 13 (by decide +kernel) _ rfl _ rfl⟩⟩
  case s15 =>
   intro env S' hd hS
   clear hd hS
   repeat' first | refine st ?_ | (refine ca ?_;apply hac) | (refine br ?_ ?_<;>intro hb) | refine sd ?_ | apply aE | (apply aO;(· decide +kernel)) | refine bd ?_ ?_ | (refine cd ?_;apply hac) | fail
   first | exact⟨trivial,trivial⟩ | (constructor<;>first | rfl | trivial | simp)
  case s16 =>
   exact⟨_,_,_,_,rfl,rfl,rfl,.inr rfl,fun env hd=>⟨hd.1 0 (by decide +kernel) _ rfl _ rfl,rfl,hd.1 15 (by decide +kernel) _ rfl _ rfl⟩⟩
  case s17 =>
   intro env S' hd hS
   clear hd hS
   repeat' first | refine st ?_ | (refine ca ?_;apply hac) | (refine br ?_ ?_<;>intro hb) | refine sd ?_ | apply aE | (apply aO;(· decide +kernel)) | refine bd ?_ ?_ | (refine cd ?_;apply hac) | fail
   first | exact⟨trivial,trivial⟩ | (constructor<;>first | rfl | trivial | simp)
  case s18 =>
   exact⟨_,_,_,_,rfl,rfl,rfl,.inr rfl,fun env hd=>⟨hd.1 0 (by decide +kernel) _ rfl _ rfl,rfl,hd.1 17 (by decide +kernel) _ rfl _ rfl⟩⟩
  case s19 =>
   intro env S' hd hS
   have q1:=hd.1 0 (by decide +kernel) _ rfl _ rfl
   simp only [iA.out,go_sem] at q1
   clear hd hS
   repeat' first | refine st ?_ | (refine br ?_ ?_<;>intro hb) | refine sd ?_ | apply aE | (apply aO;(· decide +kernel)) | refine bd ?_ ?_ | fail
   first | exact⟨trivial,trivial⟩ | (constructor<;>first | rfl | trivial | simp)
  case s20 =>
   intro env S' hd hS
   have q1:=hd.1 19 (by decide +kernel) _ rfl _ rfl
   simp only [iA.out,go_sem] at q1
   clear hd hS
   repeat' first | refine st ?_ | (refine br ?_ ?_<;>intro hb) | refine sd ?_ | apply aE | (apply aO;(· decide +kernel)) | refine bd ?_ ?_ | fail
   first | exact⟨trivial,trivial⟩ | (constructor<;>first | rfl | trivial | simp)
 case fin =>
  intro env hs hk
  have q0:=hs 20 _ rfl _ rfl
  have q5:=hk 1000000 rfl
  clear hs hk
  simp only [iA.out,go_sem] at q0 q5
  simp only [plainP,jG,aG,aL]
  repeat' first | refine st ?_ | (refine br ?_ ?_<;>intro hb) | fail
  refine fR Tryz.results72 ?_
  exact H.out
def mj:List (AV × AV):=xZ.map fun p=>(.int .u8 p.1,p.2.av)
def GU:List (AV × AV):=BJ.map fun p=>(p.1.av,p.2.av)
def Cj (e:AV × AV):AV × AV:=(.agg [.int .u8 0,.str [],e.1],e.2)
def pk:AV × AV:=(.agg [.int .u8 0,.str [35],.int .u8 56],cM 16 0 0)
theorem pz {e:AV × AV} (h:e∈mj):∃ (n:Int) (k a m:Int),e=(.int .u8 n,cM k a m):=by
 unfold mj at h
 obtain⟨⟨n,x⟩,hp,rfl⟩:=aX.1 h
 have:∃ k a m,x=ez k a m:=by
  simp only [xZ,dj,List.not_mem_nil,or_false,k_] at hp
  rcases hp with⟨_,rfl⟩ | ⟨_,rfl⟩ | ⟨_,rfl⟩ | ⟨_,rfl⟩ | ⟨_,rfl⟩ | ⟨_,rfl⟩ | ⟨_,rfl⟩ | ⟨_,rfl⟩ | ⟨_,rfl⟩ | ⟨_,rfl⟩ | ⟨_,rfl⟩
  all_goals exact⟨_,_,_,rfl⟩
 obtain⟨k,a,m,rfl⟩:=this
 exact⟨n,k,a,m,rfl⟩
theorem zp:(mj.map cK).Nodup:=by
 simp [mj,xZ]
theorem Ai {es:List (AV × AV)} (h:∀ x∈es,∃ k a j q m,x=(.int k a,cM j q m)) (n:Nat):nC n es=true:=by
 rw [fu]
 intro x hx
 obtain⟨k,a,j,q,m,rfl⟩:=h x hx
 exact⟨rfl,rfl⟩
theorem DG {es:List (AV × AV)} (h:∀ x∈es,∃ a s b j q m,x=(.agg [.int .u8 a,.str s,.int .u8 b],cM j q m)) (n:Nat):nC n es=true:=by
 rw [fu]
 intro x hx
 obtain⟨k,a,j,q,m,_,rfl⟩:=h x hx
 exact⟨rfl,rfl⟩
theorem jZ (a:Int) (s:List UInt8) (b:Int):fI Tryz.prog 140 (.agg [.int .u8 a,.str s,.int .u8 b])=true:=by
 simp [fI,kv,eW,go_sem]
theorem Et {vis rest:List (AV × AV)}{e:AV × AV} (hp:mj.Perm (vis++e::rest)):(Cj e).1∉(pk::vis.map Cj).map cK:=by
 have h1:=(hp.map cK).nodup_iff.1 zp
 rw [co,iu] at h1
 rw [aG,List.map_map]
 intro hm
 rcases dj.1 hm with hm | hm
 ·have:=congrArg (fun x=>match x with | AV.agg [_,AV.str s,_]=>s | _=>[]) hm
  simp [Cj,pk] at this
 ·obtain⟨x,hx,he⟩:=aX.1 hm
  have hxe:x.1=e.1:=by
   simp only [be,Cj,AV.agg.injEq,np,true_and,and_true] at he
   exact he
  exact h1.2.2 _ (aX.2 ⟨x,hx,rfl⟩) _ (aX.2 ⟨e,dL ..,rfl⟩) hxe
theorem EA (w0:World) (S:List aH) (R:Rt) (h:R (.ret (.mval GU)) S):az Tryz.prog w0 73 [] S R:=by
 have hac:=x_ w0
 have H:=au h
 have Hac:=au hac
 clear h
 refine eN Tryz.func73 rfl Tryz.ntmps73 fun hO=>?_
 repeat' ((fail_if_success (apply bA 3));first | refine st ?_ | (refine ca ?_;apply hac) | (refine br ?_ ?_<;>intro hb) | fail)
 refine ja (S.length+1) ss ?_
 repeat' first | refine st ?_ | (refine br ?_ ?_<;>intro hb) | fail
 refine dX (fun (p:Option (AV × AV) × List (AV × AV) × List (AV × AV)) env S'=>mj.Perm (p.2.1++p.2.2)∧(∀ n,(aH.mit p.1 []).ltB n=true)∧env 1000000=.dfr []∧env 1=.mown S.length∧env 25=.own (S.length+2) 0 ∧
  S'=S++[.mp false (pk::p.2.1.map Cj),.mp true mj,.mit p.1 p.2.2]) (fun p=>p.2.2.length) (none,[],mj) ?_ ?_
 ·exact⟨.refl _,fun _=>rfl,ss,ss,ss,rfl⟩
 ·rintro⟨cur,vis,rest⟩ env S' ⟨hp,hcur,e0,e1,e25,rfl⟩ IH
  have HI:=au IH
  have HP:=au hp
  have HO:=au hO
  clear IH hp hac
  simp only at hcur
  repeat' first | refine st ?_ | (refine br ?_ ?_<;>intro hb) | fail
  apply rf
  ·(simp only [go_sem, *];try rfl)
  ·rfl
  ·(simp only [go_sem, *];try rfl)
  ·(simp only [go_sem, *];try rfl)
  ·rfl
  ·intro hr
   have hp:=HP.out
   rw [hr,aP] at hp
   subst hr
   simp only [putA]
   refine oT S.length (es':=pk::mj.map Cj) ss ((hp.symm.map Cj).cons pk) ss ?_
   simp only [mj,xZ,aG,aL,Cj,pk,Ac.av,ez,cM,bU]
   have Hac2:=Hac.out
   clear hp HI HP
   repeat' first | refine st ?_ | (refine ca ?_;apply Hac2) | (refine br ?_ ?_<;>intro hb) | apply cP | apply eg | fail
   refine fR Tryz.results73 ?_
   exact H.out
  ·intro e rest' hr
   have hp:mj.Perm (vis++e::rest'):=HP.out.trans (i7 _ hr)
   have hnew:=Et hp
   obtain⟨n,k,a,m,rfl⟩:=pz (hp.mem_iff.2 (dR _ (dL ..)))
   have hkeys:∀ x∈pk::vis.map Cj,∃ a s b j q m,x=(.agg [.int .u8 a,.str s,.int .u8 b],cM j q m):=by
    intro x hx
    rcases dj.1 hx with rfl | hx
    ·exact⟨_,_,_,_,_,_,rfl⟩
    ·obtain⟨y,hy,rfl⟩:=aX.1 hx
     obtain⟨n,k,a,m,rfl⟩:=pz (hp.mem_iff.2 (ly _ hy))
     exact⟨_,_,_,_,_,_,rfl⟩
   have HN:=au hnew
   have HK:=au hkeys
   have HP2:=au hp
   have HR:=au hr
   have HL1:=au (DG (es:=(pk::vis.map Cj)++[(.agg [.int .u8 0,.str [],.int .u8 n],cM k a m)]) (by
    intro x hx
    rcases dg.1 hx with hx | hx
    ·exact hkeys x hx
    ·simp at hx;subst hx;exact⟨_,_,_,_,_,_,rfl⟩))
   have HL2:=au (Ai (es:=rest') (by
    intro x hx
    obtain⟨n,k,a,m,rfl⟩:=pz (hp.mem_iff.2 (dR _ (ia _ hx)))
    exact⟨_,_,_,_,_,rfl⟩))
   have HL3:=au (Ai (es:=mj) (by
    intro x hx
    obtain⟨n,k,a,m,rfl⟩:=pz hx
    exact⟨_,_,_,_,_,rfl⟩))
   clear hp hnew hkeys hr
   simp only [putA,cM]
   repeat' first | refine st ?_ | (refine br ?_ ?_<;>intro hb) | fail
   have hka:∀ x∈pk::vis.map Cj,fI Tryz.prog 140 x.1=true:=by
    intro x hx
    obtain⟨a,s,b,_,_,_,rfl⟩:=HK.out x hx
    exact jZ a s b
   have hkk:=jZ 0 [] n
   apply HX
   ·(simp only [go_sem, *];try rfl)
   ·rfl
   ·(simp only [go_sem, *];try rfl)
   ·(simp only [go_sem, *];try rfl)
   ·(simp only [go_sem, *];try rfl)
   ·(simp only [go_sem, *];try rfl)
   ·(simp only [go_sem, *];try rfl)
   ·exact hkk
   ·exact aF.2 hka
   ·exact lN hkk hka HN.out
   ·rfl
   ·(simp only [go_sem, *];try rfl)
   clear hka hkk
   simp only [putA]
   repeat' first | refine st ?_ | (refine br ?_ ?_<;>intro hb) | fail
   refine fq HO.out 3 [1,25] rfl ss ss ?_ ?_
   ·have l1:=HL1.out
    have l2:=HL2.out
    have l3:=HL3.out
    simp only [cM,al] at l1
    (simp only [go_sem, *];try rfl)
   simp only [ae,ao]
   refine HI.out (some (.int .u8 n,cM k a m),vis++[(.int .u8 n,cM k a m)],rest') _ _ ?_ ⟨?_, ?_, ?_, ?_, ?_, ?_⟩
   ·have:=HR.out.length_eq;simp at this ⊢;omega
   ·simpa using HP2.out
   ·intro n;rfl
   ·(simp only [go_sem, *];try rfl)
   ·(simp only [go_sem, *];try rfl)
   ·(simp only [go_sem, *];try rfl)
   ·simp [Cj,cM]
def gU (f:AV):AV:=.fn (.func 139) [] [.pro [f]]
def uX:Sq→AV
 | .cnt k=>gU (.fn (.func 143) [] [.pro [.int .i64 k]])
 | .first k=>gU (.fn (.func 145) [] [.pro [.int .i64 k]])
 | .way k n=>gU (.fn (.func 147) [] [.pro [.int .i64 k,.int .i64 n,.int .i64 0,.int .i64 0,.int .i64 0,.str []]])
 | .cursor=>gU (.fn (.func 148) [] [])
 | .modes k bit=>.fn (.func 141) [] [.pro [.int .i64 k],.pro [.int .i64 bit]]
 | .ask n=>.fn (.func 150) [] [.pro [.int .i64 n]]
 | .margins=>gU (.fn (.func 151) [] [])
 | .const k=>gU (.fn (.func (if k=12 then 152 else if k=13 then 153 else 157)) [] [])
 | .pens=>.fn (.func 154) [] []
 | .shape=>gU (.fn (.func 156) [] [])
 | .askMode n=>gU (.fn (.func 158) [] [.pro [.int .i64 n]])
def E_:List (AV × AV):=yB.map fun p=>(p.1.av,uX p.2)
theorem vC {base L vis rest:List (AV × AV)}{e:AV × AV}{f:AV × AV→AV × AV} (hn:((base++L.map f).map cK).Nodup) (hp:L.Perm (vis++e::rest)):(f e).1∉(base++vis.map f).map cK:=by
 have h1:=(((hp.map f).append_left base).map cK).nodup_iff.1 hn
 rw [show base++bS f (vis++e::rest)=(base++vis.map f)++f e::rest.map f by simp,co,aG,iu] at h1
 intro hm
 exact h1.2.2 _ hm _ (dL ..) rfl
theorem Ey (w0:World) (S:List aH) (g:FuncId) (cap:List AV) (hp:plainL cap=true) (hl:∀ n,Go.Fen.ltL n cap=true) (R:Rt) (h:R (.ret (gU (.fn (.func g) [] cap))) S):az Tryz.prog w0 138 [.fn (.func g) [] cap] S R:=by
 unfold gU at h
 refine eN Tryz.func138 rfl Tryz.ntmps138 fun hO=>?_
 repeat' first | refine st ?_ | (refine br ?_ ?_<;>intro hb) | fail
 refine fR Tryz.results138 ?_
 exact h
theorem Ml (w0:World) (S:List aH) (k b:Int) (R:Rt) (h:R (.ret (uX (.modes k b))) S):az Tryz.prog w0 140 [.int .i64 k,.int .i64 b] S R:=by
 unfold uX at h
 refine eN Tryz.func140 rfl Tryz.ntmps140 fun hO=>?_
 repeat' first | refine st ?_ | (refine br ?_ ?_<;>intro hb) | fail
 refine fR Tryz.results140 ?_
 exact h
theorem Hg (w0:World) (S:List aH) (a m:Nat) (es:List (AV × AV)) (pv:Int) (it:List UInt8) (fn:Int) (v:AV) (ha:S[a]? = some (.cells [.mown m] none)) (hm:S[m]? = some (.mp false es)) (hall:(es.all fun x=>fI Tryz.prog 140 x.1)=true)
  (hnew:es.any (fun e=>kR (.agg [.int .u8 pv,.str it,.int .u8 fn]) e.1)=false) (hlt:nC S.length (es++[(.agg [.int .u8 pv,.str it,.int .u8 fn],v)])=true) (R:Rt)
  (h:R (.ret (.tup [])) (S.set m (.mp false (es++[(.agg [.int .u8 pv,.str it,.int .u8 fn],v)])))):az Tryz.prog w0 137 [.int .u8 pv,.str it,.int .u8 fn,v,.own a 0] S R:=by
 have HN:=au hnew
 have HA:=au hall
 have HL:=au hlt
 have H:=au h
 clear hnew hall hlt h
 refine eN Tryz.func137 rfl Tryz.ntmps137 fun hO=>?_
 repeat' first | refine st ?_ | (refine br ?_ ?_<;>intro hb) | fail
 apply HX
 ·(simp only [go_sem, *];try rfl)
 ·rfl
 ·(simp only [go_sem, *];try rfl)
 ·(simp only [go_sem, *];try rfl)
 ·(simp only [go_sem, *];try rfl)
 ·(simp only [go_sem, *];try rfl)
 ·(simp only [go_sem, *];try rfl)
 ·exact jZ pv it fn
 ·exact HA.out
 ·exact HN.out
 ·rfl
 ·rfl
 simp only [putA]
 repeat' first | refine st ?_ | (refine br ?_ ?_<;>intro hb) | fail
 refine GQ Tryz.results137 ?_ ?_ ?_
 ·exact bP.set hO HL.out
 ·simp
 ·exact H.out
def fG (g:FuncId) (e:AV × AV):AV × AV:=(.agg [.int .u8 0,.str [],e.1],gU (.fn (.func g) [] [.pro e.2.cells]))
def jw:List (AV × AV):=rt.map fun p=>(.int .u8 p.1,.int .i64 p.2)
def iq:List (AV × AV):=pw.map fun p=>(.int .u8 p.1,.int .i64 p.2)
def nR:List (AV × AV):=zO.map fun p=>(.int .u8 p.1,cM p.2.1 p.2.2 0)
def nU:List (AV × AV):=[]
def mi:List (AV × AV):=nU++jw.map (fG 143)
def lu:List (AV × AV):=mi++iq.map (fG 145)
def uC:List (AV × AV):=lu++nR.map (fG 147)
theorem pV (S r:List aH) (a b:aH):(S++a::r).set S.length b=S++b::r:=by
 rw [ef _ _ (bg _),Nat.sub_self,List.set_cons_zero]
def jo (x:AV × AV):Prop:=(∃ a s b,x.1=.agg [.int .u8 a,.str s,.int .u8 b])∧∀ n,x.2.lt n=true
theorem jo.key {x:AV × AV} (h:jo x):fI Tryz.prog 140 x.1=true:=by
 obtain⟨⟨a,s,b,e⟩,_⟩:=h
 rw [e];exact jZ a s b
theorem jo.lts {es:List (AV × AV)} (h:∀ x∈es,jo x) (n:Nat):nC n es=true:=by
 rw [fu]
 intro x hx
 obtain⟨⟨a,s,b,e⟩,h2⟩:=h x hx
 exact⟨by rw [e];rfl,h2 n⟩
theorem fS {g:FuncId}{e:AV × AV}{n:Int} (h1:e.1=.int .u8 n) (h2:∀ m,Go.Fen.ltL m e.2.cells=true):jo (fG g e):=by
 refine⟨⟨0,[],n,by simp [fG,h1]⟩,fun m=>?_⟩
 simp only [fG,gU,AV.lt,Go.Fen.ltL,h2 m,Bool.and_self]
theorem kE {e:AV × AV} (h:e∈jw):∃ (n k:Int),e=(.int .u8 n,.int .i64 k):=by
 unfold jw at h
 obtain⟨p,hp,rfl⟩:=aX.1 h
 exact⟨_,_,rfl⟩
theorem jI {e:AV × AV} (h:e∈iq):∃ (n k:Int),e=(.int .u8 n,.int .i64 k):=by
 unfold iq at h
 obtain⟨p,hp,rfl⟩:=aX.1 h
 exact⟨_,_,rfl⟩
theorem mF {e:AV × AV} (h:e∈nR):∃ (n k a:Int),e=(.int .u8 n,cM k a 0):=by
 unfold nR at h
 obtain⟨p,hp,rfl⟩:=aX.1 h
 exact⟨_,_,_,rfl⟩
theorem uD:∀ x∈nU,jo x:=by intro x hx;cases hx
theorem qq:∀ x∈mi,jo x:=by
 intro x hx
 rcases dg.1 hx with hx | hx
 ·exact uD x hx
 ·obtain⟨y,hy,rfl⟩:=aX.1 hx
  obtain⟨n,k,rfl⟩:=kE hy
  exact fS rfl fun m=>rfl
theorem qp:∀ x∈lu,jo x:=by
 intro x hx
 rcases dg.1 hx with hx | hx
 ·exact qq x hx
 ·obtain⟨y,hy,rfl⟩:=aX.1 hx
  obtain⟨n,k,rfl⟩:=jI hy
  exact fS rfl fun m=>rfl
theorem B1:∀ x∈uC,jo x:=by
 intro x hx
 rcases dg.1 hx with hx | hx
 ·exact qp x hx
 ·obtain⟨y,hy,rfl⟩:=aX.1 hx
  obtain⟨n,k,a,rfl⟩:=mF hy
  exact fS rfl fun m=>rfl
theorem DD:(uC.map cK).Nodup:=by
 simp [uC,lu,mi,nU,jw,rt,iq,pw,nR,zO,fG]
theorem DE:(lu.map cK).Nodup:=by
 have h:=DD
 unfold uC at h
 rw [co] at h
 exact(iu.1 h).1
theorem Ke:(mi.map cK).Nodup:=by
 have h:=DE
 unfold lu at h
 rw [co] at h
 exact(iu.1 h).1
theorem Mj (w0:World) (S:List aH) (R:Rt) (h:R (.ret (.mval E_)) S):az Tryz.prog w0 75 [] S R:=by
 have hac:=x_ w0
 have H:=au h
 have Hac:=au hac
 clear h
 refine eN Tryz.func75 rfl Tryz.ntmps75 fun hO=>?_
 have HO:=au hO
 repeat' ((fail_if_success (apply bA 6));first | refine st ?_ | (refine ca ?_;apply hac) | (refine br ?_ ?_<;>intro hb) | fail)
 refine ja (S.length+2) ss ?_
 repeat' first | refine st ?_ | (refine br ?_ ?_<;>intro hb) | fail
 refine dX (fun (p:Option (AV × AV) × List (AV × AV) × List (AV × AV)) env S2=>jw.Perm (p.2.1++p.2.2)∧(∀ n,(aH.mit p.1 []).ltB n=true)∧env 1000000=.dfr []∧env 1=.own (S.length+1) 0∧env 2=.fn (.func 137) [] [.own (S.length+1) 0]∧env 3=.fn (.func 138) [] []∧env 4=.fn (.func 140) [] []∧env 27=.own (S.length+3) 0 ∧
  S2=S++[.mp false (nU++p.2.1.map (fG 143)),.cells [.mown S.length] none,.mp true jw,.mit p.1 p.2.2]) (fun p=>p.2.2.length) (none,[],jw) ?_ ?_
 ·exact⟨.refl _,fun _=>rfl,ss,ss,ss,ss,ss,ss,rfl⟩
 rintro⟨cur,vis,rest⟩ env S2 ⟨hp,hcur,e0,e1,e2,e3,e4,eit,rfl⟩ IH
 have HI:=au IH
 have HP:=au hp
 clear IH hp hac
 simp only at hcur
 repeat' first | refine st ?_ | (refine br ?_ ?_<;>intro hb) | fail
 apply rf
 ·(simp only [go_sem, *];try rfl)
 ·rfl
 ·(simp only [go_sem, *];try rfl)
 ·(simp only [go_sem, *];try rfl)
 ·rfl
 rotate_left
 ·intro e rest' hr
  have hp:jw.Perm (vis++e::rest'):=HP.out.trans (i7 _ hr)
  have hnew:=vC (f:=fG 143) Ke hp
  obtain⟨n,k,rfl⟩:=kE (hp.mem_iff.2 (dR _ (dL ..)))
  have hkeys:∀ x∈nU++vis.map (fG 143),jo x:=by
   intro x hx
   rcases dg.1 hx with hx | hx
   ·exact uD x hx
   ·obtain⟨y,hy,rfl⟩:=aX.1 hx
    obtain⟨n,k,rfl⟩:=kE (hp.mem_iff.2 (ly _ hy))
    exact fS rfl fun m=>rfl
  have HN:=au hnew
  have HK:=au hkeys
  have HP2:=au hp
  have HR:=au hr
  have HL2:B_ (∀ n,nC n rest'=true∧nC n jw=true):=au (by
   intro m
   constructor
   ·rw [fu]
    intro x hx
    obtain⟨n,k,rfl⟩:=kE (hp.mem_iff.2 (dR _ (ia _ hx)))
    exact⟨rfl,rfl⟩
   ·rw [fu]
    intro x hx
    obtain⟨n,k,rfl⟩:=kE hx
    exact⟨rfl,rfl⟩)
  clear hp hnew hkeys hr
  simp only [putA,cM]
  repeat' ((fail_if_success (apply dE 33 rfl));first | refine st ?_ | (refine br ?_ ?_<;>intro hb) | fail)
  refine gV (t:=7) (a:=S.length+4) (o:=0) ss ss ?_
  simp only [aq]
  have hone:=fun S'=>Ey w0 S' 143 [.pro [.int .i64 k]] rfl (fun _=>rfl)
  unfold gU at hone
  repeat' ((fail_if_success (apply dE 38 rfl));first | refine st ?_ | (refine ca ?_;apply hone) | (refine br ?_ ?_<;>intro hb) | fail)
  apply cI []
  ·(simp only [go_sem, *];try rfl)
  ·rfl
  ·(simp only [go_sem, *];try rfl)
  ·rfl
  ·(simp only [go_sem, *];try rfl)
  ·(simp only [go_sem, *];try rfl)
  have hke:jo (fG 143 (.int .u8 n,.int .i64 k)):=fS rfl fun m=>rfl
  refine Hg w0 _ (S.length+1) S.length (nU++vis.map (fG 143)) 0 [] n _ ?_ ?_ (aF.2 fun x hx=>(HK.out x hx).key) (lN (jZ 0 [] n) (fun x hx=>(HK.out x hx).key) HN.out) (jo.lts (es:=(nU++vis.map (fG 143))++[fG 143 (.int .u8 n,.int .i64 k)]) (by
   intro x hx
   rcases dg.1 hx with hx | hx
   ·exact HK.out x hx
   ·rw [bC.1 hx];exact hke) _) _ ?_
  ·(simp only [go_sem, *];try rfl)
  ·(simp only [go_sem, *];try rfl)
  rw [pV]
  clear hke
  repeat' first | refine st ?_ | (refine br ?_ ?_<;>intro hb) | fail
  refine fq HO.out 4 [1,2,3,4,27] rfl ss ss ?_ ?_
  ·have hke:jo (fG 143 (.int .u8 n,.int .i64 k)):=fS rfl fun m=>rfl
   have l1:=jo.lts (es:=(nU++vis.map (fG 143))++[fG 143 (.int .u8 n,.int .i64 k)]) (by
    intro x hx
    rcases dg.1 hx with hx | hx
    ·exact HK.out x hx
    ·rw [bC.1 hx];exact hke)
   have l2:=fun n=>(HL2.out n).1
   have l3:=fun n=>(HL2.out n).2
   clear hke
   simp only [fG,gU,AV.cells,cM,ai] at l1 ⊢
   (simp only [go_sem, *];try rfl)
  simp only [ae,ao]
  refine HI.out (some (.int .u8 n,.int .i64 k),vis++[(.int .u8 n,.int .i64 k)],rest') _ _ ?_ ⟨?_, ?_, ?_, ?_, ?_, ?_, ?_, ?_, ?_⟩
  ·have:=HR.out.length_eq;simp at this ⊢;omega
  ·simpa using HP2.out
  ·intro n;rfl
  ·(simp only [go_sem, *];try rfl)
  ·(simp only [go_sem, *];try rfl)
  ·(simp only [go_sem, *];try rfl)
  ·(simp only [go_sem, *];try rfl)
  ·(simp only [go_sem, *];try rfl)
  ·(simp only [go_sem, *];try rfl)
  ·simp [fG,gU,cM,AV.cells]
 intro hr
 have hp:=HP.out
 rw [hr,aP] at hp
 subst hr
 simp only [putA]
 refine oT S.length (es':=mi) ss ((hp.symm.map (fG 143)).append_left nU) ss ?_
 clear hp HI HP
 repeat' ((fail_if_success (apply bA 10));first | refine st ?_ | (refine br ?_ ?_<;>intro hb) | fail)
 refine fq HO.out 2 [1,2,3,4] rfl ss ss ?_ ?_
 ·have l1:=jo.lts qq
  (simp only [go_sem, *];try rfl)
 simp only [ae,ao]
 have Hac2:=Hac.out
 repeat' ((fail_if_success (apply bA 11));first | refine st ?_ | (refine ca ?_;apply Hac2) | (refine br ?_ ?_<;>intro hb) | fail)
 refine ja (S.length+2) ss ?_
 repeat' first | refine st ?_ | (refine br ?_ ?_<;>intro hb) | fail
 refine dX (fun (p:Option (AV × AV) × List (AV × AV) × List (AV × AV)) env S2=>iq.Perm (p.2.1++p.2.2)∧(∀ n,(aH.mit p.1 []).ltB n=true)∧env 1000000=.dfr []∧env 1=.own (S.length+1) 0∧env 2=.fn (.func 137) [] [.own (S.length+1) 0]∧env 3=.fn (.func 138) [] []∧env 4=.fn (.func 140) [] []∧env 42=.own (S.length+3) 0 ∧
  S2=S++[.mp false (mi++p.2.1.map (fG 145)),.cells [.mown S.length] none,.mp true iq,.mit p.1 p.2.2]) (fun p=>p.2.2.length) (none,[],iq) ?_ ?_
 ·exact⟨.refl _,fun _=>rfl,ss,ss,ss,ss,ss,ss,by simp only [aL,aP];rfl⟩
 clear e0 e1 e2 e3 e4 eit hcur
 rintro⟨cur,vis,rest⟩ env S2 ⟨hp,hcur,e0,e1,e2,e3,e4,eit,rfl⟩ IH
 have HI:=au IH
 have HP:=au hp
 clear IH hp
 simp only at hcur
 repeat' first | refine st ?_ | (refine br ?_ ?_<;>intro hb) | fail
 apply rf
 ·(simp only [go_sem, *];try rfl)
 ·rfl
 ·(simp only [go_sem, *];try rfl)
 ·(simp only [go_sem, *];try rfl)
 ·rfl
 rotate_left
 ·intro e rest' hr
  have hp:iq.Perm (vis++e::rest'):=HP.out.trans (i7 _ hr)
  have hnew:=vC (f:=fG 145) DE hp
  obtain⟨n,k,rfl⟩:=jI (hp.mem_iff.2 (dR _ (dL ..)))
  have hkeys:∀ x∈mi++vis.map (fG 145),jo x:=by
   intro x hx
   rcases dg.1 hx with hx | hx
   ·exact qq x hx
   ·obtain⟨y,hy,rfl⟩:=aX.1 hx
    obtain⟨n,k,rfl⟩:=jI (hp.mem_iff.2 (ly _ hy))
    exact fS rfl fun m=>rfl
  have HN:=au hnew
  have HK:=au hkeys
  have HP2:=au hp
  have HR:=au hr
  have HL2:B_ (∀ n,nC n rest'=true∧nC n iq=true):=au (by
   intro m
   constructor
   ·rw [fu]
    intro x hx
    obtain⟨n,k,rfl⟩:=jI (hp.mem_iff.2 (dR _ (ia _ hx)))
    exact⟨rfl,rfl⟩
   ·rw [fu]
    intro x hx
    obtain⟨n,k,rfl⟩:=jI hx
    exact⟨rfl,rfl⟩)
  clear hp hnew hkeys hr
  simp only [putA,cM]
  repeat' ((fail_if_success (apply dE 48 rfl));first | refine st ?_ | (refine br ?_ ?_<;>intro hb) | fail)
  refine gV (t:=10) (a:=S.length+4) (o:=0) ss ss ?_
  simp only [aq]
  have hone:=fun S'=>Ey w0 S' 145 [.pro [.int .i64 k]] rfl (fun _=>rfl)
  unfold gU at hone
  repeat' ((fail_if_success (apply dE 53 rfl));first | refine st ?_ | (refine ca ?_;apply hone) | (refine br ?_ ?_<;>intro hb) | fail)
  apply cI []
  ·(simp only [go_sem, *];try rfl)
  ·rfl
  ·(simp only [go_sem, *];try rfl)
  ·rfl
  ·(simp only [go_sem, *];try rfl)
  ·(simp only [go_sem, *];try rfl)
  have hke:jo (fG 145 (.int .u8 n,.int .i64 k)):=fS rfl fun m=>rfl
  refine Hg w0 _ (S.length+1) S.length (mi++vis.map (fG 145)) 0 [] n _ ?_ ?_ (aF.2 fun x hx=>(HK.out x hx).key) (lN (jZ 0 [] n) (fun x hx=>(HK.out x hx).key) HN.out) (jo.lts (es:=(mi++vis.map (fG 145))++[fG 145 (.int .u8 n,.int .i64 k)]) (by
   intro x hx
   rcases dg.1 hx with hx | hx
   ·exact HK.out x hx
   ·rw [bC.1 hx];exact hke) _) _ ?_
  ·(simp only [go_sem, *];try rfl)
  ·(simp only [go_sem, *];try rfl)
  rw [pV]
  clear hke
  repeat' first | refine st ?_ | (refine br ?_ ?_<;>intro hb) | fail
  refine fq HO.out 4 [1,2,3,4,42] rfl ss ss ?_ ?_
  ·have hke:jo (fG 145 (.int .u8 n,.int .i64 k)):=fS rfl fun m=>rfl
   have l1:=jo.lts (es:=(mi++vis.map (fG 145))++[fG 145 (.int .u8 n,.int .i64 k)]) (by
    intro x hx
    rcases dg.1 hx with hx | hx
    ·exact HK.out x hx
    ·rw [bC.1 hx];exact hke)
   have l2:=fun n=>(HL2.out n).1
   have l3:=fun n=>(HL2.out n).2
   clear hke
   simp only [fG,gU,AV.cells,cM,ai] at l1 ⊢
   (simp only [go_sem, *];try rfl)
  simp only [ae,ao]
  refine HI.out (some (.int .u8 n,.int .i64 k),vis++[(.int .u8 n,.int .i64 k)],rest') _ _ ?_ ⟨?_, ?_, ?_, ?_, ?_, ?_, ?_, ?_, ?_⟩
  ·have:=HR.out.length_eq;simp at this ⊢;omega
  ·simpa using HP2.out
  ·intro n;rfl
  ·(simp only [go_sem, *];try rfl)
  ·(simp only [go_sem, *];try rfl)
  ·(simp only [go_sem, *];try rfl)
  ·(simp only [go_sem, *];try rfl)
  ·(simp only [go_sem, *];try rfl)
  ·(simp only [go_sem, *];try rfl)
  ·simp [fG,gU,cM,AV.cells]
 intro hr
 have hp:=HP.out
 rw [hr,aP] at hp
 subst hr
 simp only [putA]
 refine oT S.length (es':=lu) ss ((hp.symm.map (fG 145)).append_left mi) ss ?_
 clear hp HI HP
 repeat' ((fail_if_success (apply bA 15));first | refine st ?_ | (refine br ?_ ?_<;>intro hb) | fail)
 refine fq HO.out 2 [1,2,3,4] rfl ss ss ?_ ?_
 ·have l1:=jo.lts qp
  (simp only [go_sem, *];try rfl)
 simp only [ae,ao]
 repeat' ((fail_if_success (apply bA 16));first | refine st ?_ | (refine ca ?_;apply Hac2) | (refine br ?_ ?_<;>intro hb) | fail)
 refine ja (S.length+2) ss ?_
 repeat' first | refine st ?_ | (refine br ?_ ?_<;>intro hb) | fail
 refine dX (fun (p:Option (AV × AV) × List (AV × AV) × List (AV × AV)) env S2=>nR.Perm (p.2.1++p.2.2)∧(∀ n,(aH.mit p.1 []).ltB n=true)∧env 1000000=.dfr []∧env 1=.own (S.length+1) 0∧env 2=.fn (.func 137) [] [.own (S.length+1) 0]∧env 3=.fn (.func 138) [] []∧env 4=.fn (.func 140) [] []∧env 65=.own (S.length+3) 0 ∧
  S2=S++[.mp false (lu++p.2.1.map (fG 147)),.cells [.mown S.length] none,.mp true nR,.mit p.1 p.2.2]) (fun p=>p.2.2.length) (none,[],nR) ?_ ?_
 ·exact⟨.refl _,fun _=>rfl,ss,ss,ss,ss,ss,ss,by simp only [aL,aP];rfl⟩
 clear e0 e1 e2 e3 e4 eit hcur
 rintro⟨cur,vis,rest⟩ env S2 ⟨hp,hcur,e0,e1,e2,e3,e4,eit,rfl⟩ IH
 have HI:=au IH
 have HP:=au hp
 clear IH hp
 simp only at hcur
 repeat' first | refine st ?_ | (refine br ?_ ?_<;>intro hb) | fail
 apply rf
 ·(simp only [go_sem, *];try rfl)
 ·rfl
 ·(simp only [go_sem, *];try rfl)
 ·(simp only [go_sem, *];try rfl)
 ·rfl
 rotate_left
 ·intro e rest' hr
  have hp:nR.Perm (vis++e::rest'):=HP.out.trans (i7 _ hr)
  have hnew:=vC (f:=fG 147) DD hp
  obtain⟨n,k,a,rfl⟩:=mF (hp.mem_iff.2 (dR _ (dL ..)))
  have hkeys:∀ x∈lu++vis.map (fG 147),jo x:=by
   intro x hx
   rcases dg.1 hx with hx | hx
   ·exact qp x hx
   ·obtain⟨y,hy,rfl⟩:=aX.1 hx
    obtain⟨n,k,a,rfl⟩:=mF (hp.mem_iff.2 (ly _ hy))
    exact fS rfl fun m=>rfl
  have HN:=au hnew
  have HK:=au hkeys
  have HP2:=au hp
  have HR:=au hr
  have HL2:B_ (∀ n,nC n rest'=true∧nC n nR=true):=au (by
   intro m
   constructor
   ·rw [fu]
    intro x hx
    obtain⟨n,k,a,rfl⟩:=mF (hp.mem_iff.2 (dR _ (ia _ hx)))
    exact⟨rfl,rfl⟩
   ·rw [fu]
    intro x hx
    obtain⟨n,k,a,rfl⟩:=mF hx
    exact⟨rfl,rfl⟩)
  clear hp hnew hkeys hr
  simp only [putA,cM]
  repeat' ((fail_if_success (apply dE 71 rfl));first | refine st ?_ | (refine br ?_ ?_<;>intro hb) | fail)
  refine gV (t:=13) (a:=S.length+4) (o:=0) ss ss ?_
  simp only [aq]
  have hone:=fun S'=>Ey w0 S' 147 [.pro [.int .i64 k,.int .i64 a,.int .i64 0,.int .i64 0,.int .i64 0,.str []]] rfl (fun _=>rfl)
  unfold gU at hone
  repeat' ((fail_if_success (apply dE 76 rfl));first | refine st ?_ | (refine ca ?_;apply hone) | (refine br ?_ ?_<;>intro hb) | fail)
  apply cI []
  ·(simp only [go_sem, *];try rfl)
  ·rfl
  ·(simp only [go_sem, *];try rfl)
  ·rfl
  ·(simp only [go_sem, *];try rfl)
  ·(simp only [go_sem, *];try rfl)
  have hke:jo (fG 147 (.int .u8 n,cM k a 0)):=fS rfl fun m=>rfl
  refine Hg w0 _ (S.length+1) S.length (lu++vis.map (fG 147)) 0 [] n _ ?_ ?_ (aF.2 fun x hx=>(HK.out x hx).key) (lN (jZ 0 [] n) (fun x hx=>(HK.out x hx).key) HN.out) (jo.lts (es:=(lu++vis.map (fG 147))++[fG 147 (.int .u8 n,cM k a 0)]) (by
   intro x hx
   rcases dg.1 hx with hx | hx
   ·exact HK.out x hx
   ·rw [bC.1 hx];exact hke) _) _ ?_
  ·(simp only [go_sem, *];try rfl)
  ·(simp only [go_sem, *];try rfl)
  rw [pV]
  clear hke
  repeat' first | refine st ?_ | (refine br ?_ ?_<;>intro hb) | fail
  refine fq HO.out 4 [1,2,3,4,65] rfl ss ss ?_ ?_
  ·have hke:jo (fG 147 (.int .u8 n,cM k a 0)):=fS rfl fun m=>rfl
   have l1:=jo.lts (es:=(lu++vis.map (fG 147))++[fG 147 (.int .u8 n,cM k a 0)]) (by
    intro x hx
    rcases dg.1 hx with hx | hx
    ·exact HK.out x hx
    ·rw [bC.1 hx];exact hke)
   have l2:=fun n=>(HL2.out n).1
   have l3:=fun n=>(HL2.out n).2
   clear hke
   simp only [fG,gU,AV.cells,cM,ai] at l1 ⊢
   (simp only [go_sem, *];try rfl)
  simp only [ae,ao]
  refine HI.out (some (.int .u8 n,cM k a 0),vis++[(.int .u8 n,cM k a 0)],rest') _ _ ?_ ⟨?_, ?_, ?_, ?_, ?_, ?_, ?_, ?_, ?_⟩
  ·have:=HR.out.length_eq;simp at this ⊢;omega
  ·simpa using HP2.out
  ·intro n;rfl
  ·(simp only [go_sem, *];try rfl)
  ·(simp only [go_sem, *];try rfl)
  ·(simp only [go_sem, *];try rfl)
  ·(simp only [go_sem, *];try rfl)
  ·(simp only [go_sem, *];try rfl)
  ·(simp only [go_sem, *];try rfl)
  ·simp [fG,gU,cM,AV.cells]
 intro hr
 have hp:=HP.out
 rw [hr,aP] at hp
 subst hr
 simp only [putA]
 refine oT S.length (es':=uC) ss ((hp.symm.map (fG 147)).append_left lu) ss ?_
 clear hp HI HP
 repeat' ((fail_if_success (apply bA 20));first | refine st ?_ | (refine br ?_ ?_<;>intro hb) | fail)
 refine fq HO.out 2 [1,2,3,4] rfl ss ss ?_ ?_
 ·have l1:=jo.lts B1
  (simp only [go_sem, *];try rfl)
 simp only [ae,ao]
 simp only [uC,lu,mi,nU,jw,rt,iq,pw,nR,zO,fG,gU,AV.cells,cM,aG,aL,ap,al,bU]
 have hput:=Hg w0
 have hwk:=jZ
 have hone:=fun S' g=>Ey w0 S' g [] rfl (fun _=>rfl)
 have heach:=Ml w0
 unfold gU at hone
 unfold uX at heach
 have hone2:=fun S' n=>Ey w0 S' 158 [.pro [.int .i64 n]] rfl (fun _=>rfl)
 unfold gU at hone2
 repeat' ((fail_if_success (apply dE 112 rfl));first | refine st ?_ | (refine ca ?_;first | apply hone | apply heach | (apply hput;(iterate 5 (· simp only [go_sem, *];try rfl))) | apply hone2) | (refine br ?_ ?_<;>intro hb) | apply cP | apply eg | fail)
 refine gV (t:=18) (a:=S.length+2) (o:=0) ss ss ?_
 simp only [aq]
 repeat' ((fail_if_success (apply dE 113 rfl));first | refine st ?_ | (refine br ?_ ?_<;>intro hb) | fail)
 repeat' ((fail_if_success (apply dE 112 rfl));first | refine st ?_ | (refine ca ?_;first | apply hone | apply heach | (apply hput;(iterate 5 (· simp only [go_sem, *];try rfl))) | apply hone2) | (refine br ?_ ?_<;>intro hb) | apply cP | apply eg | fail)
 refine gV (t:=18) (a:=S.length+3) (o:=0) ss ss ?_
 simp only [aq]
 repeat' ((fail_if_success (apply dE 113 rfl));first | refine st ?_ | (refine br ?_ ?_<;>intro hb) | fail)
 repeat' ((fail_if_success (apply dE 145 rfl));first | refine st ?_ | (refine ca ?_;first | apply hone | apply heach | (apply hput;(iterate 5 (· simp only [go_sem, *];try rfl))) | apply hone2) | (refine br ?_ ?_<;>intro hb) | apply cP | apply eg | fail)
 refine gV (t:=20) (a:=S.length+4) (o:=0) ss ss ?_
 simp only [aq]
 repeat' ((fail_if_success (apply dE 146 rfl));first | refine st ?_ | (refine br ?_ ?_<;>intro hb) | fail)
 repeat' ((fail_if_success (apply dE 145 rfl));first | refine st ?_ | (refine ca ?_;first | apply hone | apply heach | (apply hput;(iterate 5 (· simp only [go_sem, *];try rfl))) | apply hone2) | (refine br ?_ ?_<;>intro hb) | apply cP | apply eg | fail)
 refine gV (t:=20) (a:=S.length+5) (o:=0) ss ss ?_
 simp only [aq]
 repeat' ((fail_if_success (apply dE 146 rfl));first | refine st ?_ | (refine br ?_ ?_<;>intro hb) | fail)
 repeat' first | refine st ?_ | (refine ca ?_;first | apply hone | apply heach | (apply hput;(iterate 5 (· simp only [go_sem, *];try rfl))) | apply hone2) | (refine br ?_ ?_<;>intro hb) | apply cP | apply eg | fail
 refine fR Tryz.results75 ?_
 exact H.out
def eu (n m:Int):Ac:=⟨39,n,m,0,0,[]⟩
def fC (n k c:Int):Ac:=⟨39,n,0,k,c,[]⟩
def rV (v:Int):Option Ac :=
 if v=0 then some (eu 0 0) else if v=1 then some (eu 1 1) else if v=2 then some (eu 1 2) else if v=3 then some (eu 1 4) else if v=4 then some (eu 3 1) else if v=5∨v=6 then some (eu 1 8)
 else if v=7 then some (eu 1 16) else if v=8 then some (eu 1 32) else if v=9 then some (eu 1 64) else if v=53 then some (eu 1 128)
 else if v=22 then some (eu 2 3) else if v=23 then some (eu 2 4) else if v=25 then some (eu 2 8) else if v=27 then some (eu 2 16) else if v=28 then some (eu 2 32) else if v=29 then some (eu 2 64) else if v=55 then some (eu 2 128)
 else if v=21 then some (eu 3 2) else if v=24 then some (eu 3 0) else if v=39 then some (eu 4 0) else if v=49 then some (eu 5 0) else if v=59 then some (eu 6 0)
 else if 30≤v∧v≤37 then some (fC 4 1 (v - 30)) else if 40≤v∧v≤47 then some (fC 5 1 (v - 40)) else if 90≤v∧v≤97 then some (fC 4 1 (v - 82)) else if 100≤v∧v≤107 then some (fC 5 1 (v - 92)) else none
def e9 (v:Int):Option Int:=if v=38 then some 4 else if v=48 then some 5 else if v=58 then some 6 else none
def AN (l:List Int):Bool:=l.all fun n=>decide (0≤n)&&decide (n≤255)
def g9 (n how:Int) (l:List Int):Option Ac :=
 if AN l=false then none else if how=5∧l.length=1 then some (fC n 1 (l.getD 0 0)) else if how=2∧l.length=3 then some (fC n 2 (l.getD 0 0 * 65536+l.getD 1 0 * 256+l.getD 2 0)) else none
def gS (s:List Int):Option Ac :=
 if max 0 (s.getD 0 0)=4∧s.length=2 then (if 0≤s.getD 1 0∧s.getD 1 0≤5 then some (eu 3 (s.getD 1 0)) else none)
 else match e9 (max 0 (s.getD 0 0)) with
  | none=>none
  | some n=>if s.length=6∧s.getD 1 0=2 then g9 n 2 (s.drop 3) else if 2<s.length then g9 n (s.getD 1 0) (s.drop 2) else none
def gF:List (List Int)→List Int
 | [n]::r=>max 0 n::gF r
 | _=>[]
def g_ (l:List (List Int)):Option Ac × Nat :=
 match gF l with
 | []=>(gS (l.headD []),1)
 | v::r=>match e9 v,r with
  | some n,h::t =>
   if h=5 then (if 1≤t.length then (g9 n 5 (t.take 1),3) else (none,min 3 l.length))
   else if h=2 then (if 3≤t.length then (g9 n 2 (t.take 3),5) else (none,min 5 l.length))
   else (rV v,1)
  | _,_=>(rV v,1)
def kp:Nat→List (List Int)→List Ac
 | 0,_=>[]
 | k+1,l=>if l=[] then [] else (g_ l).1.toList++kp k (l.drop (g_ l).2)
def mQ (l:List (List Int)):List Ac:=if l=[] then [eu 0 0] else kp l.length l
def gH (q:Sq) (l:List (List Int)):List Ac :=
 match q with
 | .cnt k=>[ez k (kF l) 0]
 | .first k=>[ez k (eE l 0 0) 0]
 | .way k n=>[ez k n (kF l)]
 | .cursor=>[ez 19 (kF l) (max 1 (eE l 1 0))]
 | .modes k bit=>(bJ (max 1 l.length)).map fun (i:Nat)=>ez k (eE l (i:Int) 0) bit
 | .ask n=>if eE l 0 0=0 then [ez 42 n 0] else []
 | .margins=>[ez 38 (eE l 0 0) (eE l 1 0)]
 | .const k=>[ez k 0 0]
 | .pens=>mQ l
 | .shape=>[ez 40 (eE l 0 0) 0]
 | .askMode n=>[ez 43 (eE l 0 0) n]
def zk (e:Ev):List Ac:=match nL ⟨e.priv,e.inter,e.fin⟩ with
 | some q=>gH q e.pars
 | none=>[]
def td (e:Ev):List Ac :=
 if e.kind=1 then [ez 1 e.code 0] else if e.kind=2 then (BS e.code).toList else if e.kind=3 then (BL ⟨0,e.inter,e.fin⟩).toList
 else if e.kind=4 then zk e else if e.kind=5 then (fO e.text).toList else []
def wo (e:Ev):List Ac:=if lj e then (td e).filter dU else []
end Go.Proofs.YthdbijpefkapnaaGreatDoor
