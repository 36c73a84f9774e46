/- YthdbijpefkapnaaGreatDoorWalk12: a part of the proof. -/
import Derived.Test.YthdbijpefkapnaaGreatDoorWalk11
import Derived.Test.YthdbijpefkapnaaGreatDoorCore3
set_option linter.all false
set_option maxHeartbeats 40000000
open Bool renaming not_eq_false' → aE, not_eq_true' → aw
open List renaming getElem?_append_left → az, getElem?_eq_some_iff → af, take_left → uc, take_length → bt, toList_toArray → bg
namespace Go.Proofs.YthdbijpefkapnaaGreatDoor
open Go Go.Fen Go.Proofs.Tryz
attribute [local irreducible] aW WP aj dS jl cQ aV cV
set_option maxRecDepth 8000
variable (w0:World) (S:List aH)
theorem qP{P:Program}{w0:World}{g:FuncId}{args:List AV}{rv:AV}{S:List aH}{K:List aH→Prop}{G:Func}{id:Nat}{o0:Oper}{l:List Oper}{rest:Code}{ty:TypeId}{d:Nat}(env1:dj)(S1:List aH)(h1:P.funcs[g]? = some G)(h2:(G.name == "runtime.NumGoroutine")=false)
  (h3:G.body=some (.seq (.region id (o0::l).toArray false) rest)) (h4:o0.op=.call ⟨.builtin .recover,#[],#[]⟩) (h5:o0.guard=none) (h6:o0.type=ty) (h7:o0.dst=some d) (h8:d<G.ntmps) (h9:args.length≤G.ntmps) (h10:G.ntmps≤DS) (h11:G.results=#[])
  (h12:pz P w0 (o0::l).toArray G.ntmps l (eJ (dz args) d rv) S=some (env1,S1))
  (h13:aW P w0 S.length G.ntmps none [.it (.code rest)] (fun x env S'=>(x=.normal∨x=.ret)∧env DS=.dfr []∧fJ S.length S S'∧K (S'.take S.length)) .normal env1 S1):vD P w0 g args rv S K :=
 ⟨G,id,o0,l,rest,ty,d,env1,S1,h1,h2,h3,h4,h5,h6,h7,h8,h9,h10,h11,h12,h13⟩
theorem Qb(K:List aH→Prop)(h:K S):vD prog w0 110 [] .inil S K:=by
 refine qP (eJ (eJ (dz []) 1 .inil) 0 .inil) S func110 (by decide +kernel) rfl rfl rfl rfl rfl (by decide) (by rw [ntmps110];simp) (by rw [ntmps110];decide) rfl ?_ ?_
 ·rfl
 ·rw [ntmps110]
  repeat' first|refine st ?_|(refine br ?_ ?_<;>intro hb)|fail
  exact⟨.inl rfl,ss,fun _ _ _ e=>.inl e,by rw [bt];exact h⟩
theorem Qa(K:List aH→Prop)(h:K S):vD prog w0 110 [] bA S K:=by
 refine qP (eJ (eJ (dz []) 1 bA) 0 bA) S func110 (by decide +kernel) rfl rfl rfl rfl rfl (by decide) (by rw [ntmps110];simp) (by rw [ntmps110];decide) rfl ?_ ?_
 ·rfl
 ·rw [ntmps110]
  repeat' first|apply fK|apply eg|apply dx|apply eh|apply fL|apply bU|apply fQ|apply bW|apply bJ|apply cE|apply bV|apply bI|apply bo|apply fO|(apply bp;(· rfl))|(apply cC;simp only [bg])|(apply dq;(· rfl);(· simp only [go_sem, *,bA];try rfl);(· rfl);simp only [putA])|(apply eo;simp only [putA])|apply cF|(apply dr;(· simp only [go_sem, *,bA];try rfl);(· rfl);(· simp only [go_sem, *,bA];try rfl))|(apply dF;(iterate 2 (· simp only [go_sem, *,bA];try rfl));(· rfl);simp only [putA])|(apply bH;(· simp only [go_sem, *,bA];try rfl);(· rfl);simp only [putA])|(apply dt;(· simp only [go_sem, *,bA];try rfl))|(apply dw;(· simp only [go_sem, *,bA];try rfl))|(apply cD;(· rfl);(fail_if_success (focus (show _=some true;(· simp only [go_sem, *,bA];try rfl))));(· simp only [go_sem, *,bA];try rfl);all_goals (intro hb;try simp only [aw,aE] at hb))|(apply du;(· simp only [go_sem, *,bA];try rfl);all_goals (intro hb;try simp only [aw,aE] at hb))|fail
  exact⟨.inl rfl,ss,fun _ _ _ e=>.inl e,by rw [bt];exact h⟩
def LP:Option (List UInt8)→AV
 | some s=>.tup [.str s,.bool true]
 | none=>.tup [.str [],.bool false]
theorem Jm(i:Nat)(cs:List AV)(ha:S[i]? = some (.cells cs))(o:Option (List UInt8))(hC:∀ R:gC→List aH→Prop,R (ml o) S→aj prog w0 50 [.own i 0] S R)(R:Rt)(h:R (.ret (LP o)) S):aj prog w0 49 [.fn (.func 50) [] [.own i 0]] S R:=by
 refine DD func49 rfl (by decide +kernel) (by rw [ntmps49];simp) (by rw [ntmps49];decide) (fun hO=>?_);rw [ntmps49]
 cases o with
 | none =>
  unfold LP at h
  unfold ml at hC
  simp only at h hC
  unfold bA at hC
  repeat' first|refine st ?_|(refine br ?_ ?_<;>intro hb)|fail
  apply qH
  ·(simp only [go_sem, *];try rfl)
  ·rfl
  ·(simp only [go_sem, *];try rfl)
  ·(simp only [go_sem, *];try rfl)
  ·rfl
  simp only [putA]
  repeat' first|refine st ?_|(refine ca ?_;apply hC)|(refine br ?_ ?_<;>intro hb)|fail
  refine⟨_,_,_,ss,Qa w0 _ _ ?_⟩
  refine⟨[.str [],.bool false],by (simp only [go_sem, *,results49];try rfl),fun _ _ _ e=>.inl e,ss, ?_⟩
  rw [bt]
  exact h
 | some s =>
  unfold LP at h
  unfold ml at hC
  simp only at h hC
  repeat' first|refine st ?_|(refine br ?_ ?_<;>intro hb)|fail
  apply qH
  ·(simp only [go_sem, *];try rfl)
  ·rfl
  ·(simp only [go_sem, *];try rfl)
  ·(simp only [go_sem, *];try rfl)
  ·rfl
  simp only [putA]
  repeat' first|refine st ?_|(refine ca ?_;apply hC)|(refine br ?_ ?_<;>intro hb)|fail
  refine⟨_,_,_,ss,Qb w0 _ _ ?_⟩
  refine⟨[.str s,.bool true],by (simp only [go_sem, *,results49];try rfl),fun _ _ _ e=>.inl e,ss, ?_⟩
  rw [bt]
  exact h
theorem FM(w0:World)(hT:J8 w0)(hD:zX w0)(hN:Ek w0)(S:List aH)(a:Ac)(hs:a.text.length≤10000000)(R:Rt)(h:R (.ret (rq (cK a))) S):aj prog w0 28 [a.av] S R:=by
 have hc:=fun S' i ha=>FP w0 hT hD hN S' a i ha hs
 have hd:=fun S' i ha=>Jm w0 S' i [.int .i64 a.kind,.int .i64 a.n,.int .i64 a.m,.int .i64 a.ck,.int .i64 a.cn,.str a.text] ha (cK a) (hc S' i ha)
 obtain⟨k,n,m,ck,cn,t⟩:=a
 unfold Ac.av
 simp only at hd ⊢
 clear hc hT hD hN hs
 generalize cK ⟨k,n,m,ck,cn,t⟩=o at hd h
 unfold LP at hd
 unfold rq at h
 cases o with
 | none =>
  simp only at hd h
  refine eN func28 rfl ntmps28 fun hO=>?_
  repeat' first|refine st ?_|(refine ca ?_;(apply hd;(· simp only [go_sem, *];try rfl)))|(refine br ?_ ?_<;>intro hb)|fail
  refine fR results28 ?_
  exact h
 | some s =>
  simp only at hd h
  refine eN func28 rfl ntmps28 fun hO=>?_
  repeat' first|refine st ?_|(refine ca ?_;(apply hd;(· simp only [go_sem, *];try rfl)))|(refine br ?_ ?_<;>intro hb)|fail
  refine fR results28 ?_
  exact h
theorem Fx(w0:World)(hT:J8 w0)(hD:zX w0)(hN:Ek w0):m3 w0:=fun S a ha R h=>FM w0 hT hD hN S a (by omega) R h
def Kc(s:List UInt8):Option Ac:=if gq s then some ⟨44,0,0,0,0,s⟩ else none
theorem zz(s:List UInt8)(hs:s.length≤10000000)(R:Rt)(h:R (ib (Kc s)) S):aj prog w0 203 [.str s] S R:=by
 refine Jk w0 S s hs R ?_
 unfold Kc at h
 cases hb:gq s with
 | true=>rw [hb] at h;exact h
 | false=>rw [hb] at h;exact h
theorem AF{s k r:List UInt8}(h1:¬ 512<s.length)(h2:hY s=some (k,r)):ea s=if k=[48]∨k=[50] then Kc r else if k=[52] then Ku r else if k=[53,50] then Kt r else none:=by
 unfold ea
 rw [if_neg h1,h2]
 simp only
 unfold Kc Ku Kt
 rfl
theorem FU(w0:World)(hS:D_ w0)(hG:J9 w0)(S:List aH)(s:List UInt8)(i:Nat)(ha:S[i]? = some (.cells [.str s]))(hs:s.length≤8192)(R:Rt)(h:R (ib (ea s)) S):aj prog w0 134 [.own i 0] S R:=by
 have hm:=Jh w0
 unfold Ma at hm
 have hmT:=li w0
 have hmF:=lj w0
 unfold bA at hmF
 have hal:=(af.1 ha).1
 have ha1:∀ L:List aH,(S++L)[i]? = some (.cells [.str s]):=fun L=>by rw [az hal];exact ha
 clear hal
 by_cases h5:512<s.length
 ·have d1:decide ((s.length:Int)≤512)=false:=by simp;omega
  have e:ea s=none:=by unfold ea;rw [if_pos h5]
  rw [e] at h
  unfold ib bA at h
  simp only at h
  clear h5 e hS hG hs hmT
  refine eN func134 rfl ntmps134 fun hO=>?_
  repeat' first|refine st ?_|(refine ca ?_;apply hmF)|(refine br ?_ ?_<;>intro hb)|fail
  refine fP ?_
  exact h
 have d1:decide ((s.length:Int)≤512)=true:=by simp;omega
 have ht:=fun S'=>Jc w0 S' s (by omega)
 cases hq:hY s with
 | none =>
  have e:ea s=none:=by unfold ea;rw [if_neg h5,hq]
  rw [e] at h
  rw [hq] at ht
  unfold ib bA at h
  unfold uk bA at ht
  simp only at h ht
  clear h5 e hS hG hs hmF hq
  refine eN func134 rfl ntmps134 fun hO=>?_
  repeat' first|refine st ?_|(refine ca ?_;first|apply ht|apply hmT)|(refine br ?_ ?_<;>intro hb)|fail
  refine fP ?_
  exact h
 | some q =>
 obtain⟨k,r⟩:=q
 obtain⟨hkl,hrl⟩:=oV hq
 rw [AF h5 hq] at h
 rw [hq] at ht
 unfold uk at ht
 simp only at ht
 by_cases h0:k=[48]
 ·subst h0
  rw [if_pos (.inl rfl)] at h
  have hr:=fun S'=>zz w0 S' r (by omega)
  generalize Kc r=o at h hr
  clear h5 hq hS hG hs hkl hrl
  unfold ib at h hr
  cases o with
  | none =>
   unfold bA at h hr
   simp only at h hr
   refine eN func134 rfl ntmps134 fun hO=>?_
   repeat' first|refine st ?_|(refine ca ?_;first|apply ht|apply hmT|apply hm|apply hr)|(refine br ?_ ?_<;>intro hb)|fail
   refine fP ?_
   exact h
  | some a =>
   obtain⟨ak,an,am,ac,ad,at'⟩:=a
   unfold Ac.av at h hr
   simp only at h hr
   refine eN func134 rfl ntmps134 fun hO=>?_
   repeat' first|refine st ?_|(refine ca ?_;first|apply ht|apply hmT|apply hm|apply hr)|(refine br ?_ ?_<;>intro hb)|fail
   refine fR results134 ?_
   exact h
 by_cases h2:k=[50]
 ·subst h2
  rw [if_pos (.inr rfl)] at h
  have hr:=fun S'=>zz w0 S' r (by omega)
  generalize Kc r=o at h hr
  clear h5 hq hS hG hs hkl hrl
  unfold ib at h hr
  cases o with
  | none =>
   unfold bA at h hr
   simp only at h hr
   refine eN func134 rfl ntmps134 fun hO=>?_
   repeat' first|refine st ?_|(refine ca ?_;first|apply ht|apply hmT|apply hm|apply hr)|(refine br ?_ ?_<;>intro hb)|fail
   refine fP ?_
   exact h
  | some a =>
   obtain⟨ak,an,am,ac,ad,at'⟩:=a
   unfold Ac.av at h hr
   simp only at h hr
   refine eN func134 rfl ntmps134 fun hO=>?_
   repeat' first|refine st ?_|(refine ca ?_;first|apply ht|apply hmT|apply hm|apply hr)|(refine br ?_ ?_<;>intro hb)|fail
   refine fR results134 ?_
   exact h
 by_cases h4:k=[52]
 ·subst h4
  rw [if_neg (by decide),if_pos rfl] at h
  have hr:=fun S'=>Jj w0 hS hG S' r (by omega)
  generalize Ku r=o at h hr
  clear h5 hq hS hG hs hkl hrl
  unfold ib at h hr
  cases o with
  | none =>
   unfold bA at h hr
   simp only at h hr
   refine eN func134 rfl ntmps134 fun hO=>?_
   repeat' first|refine st ?_|(refine ca ?_;first|apply ht|apply hmT|apply hm|apply hr)|(refine br ?_ ?_<;>intro hb)|fail
   refine fP ?_
   exact h
  | some a =>
   obtain⟨ak,an,am,ac,ad,at'⟩:=a
   unfold Ac.av at h hr
   simp only at h hr
   refine eN func134 rfl ntmps134 fun hO=>?_
   repeat' first|refine st ?_|(refine ca ?_;first|apply ht|apply hmT|apply hm|apply hr)|(refine br ?_ ?_<;>intro hb)|fail
   refine fR results134 ?_
   exact h
 by_cases h52:k=[53,50]
 ·subst h52
  rw [if_neg (by decide),if_neg (by decide),if_pos rfl] at h
  have hr:=fun S'=>Ji w0 S' r (by omega)
  generalize Kt r=o at h hr
  clear h5 hq hS hG hs hkl hrl
  unfold ib at h hr
  cases o with
  | none =>
   unfold bA at h hr
   simp only at h hr
   refine eN func134 rfl ntmps134 fun hO=>?_
   repeat' first|refine st ?_|(refine ca ?_;first|apply ht|apply hmT|apply hm|apply hr)|(refine br ?_ ?_<;>intro hb)|fail
   refine fP ?_
   exact h
  | some a =>
   obtain⟨ak,an,am,ac,ad,at'⟩:=a
   unfold Ac.av at h hr
   simp only at h hr
   refine eN func134 rfl ntmps134 fun hO=>?_
   repeat' first|refine st ?_|(refine ca ?_;first|apply ht|apply hmT|apply hm|apply hr)|(refine br ?_ ?_<;>intro hb)|fail
   refine fR results134 ?_
   exact h
 ·rw [if_neg (by rintro(e|e)<;>contradiction),if_neg h4,if_neg h52] at h
  have b0:(k==[48])=false:=by simpa using h0
  have b2:(k==[50])=false:=by simpa using h2
  have b4:(k==[52])=false:=by simpa using h4
  have b5:(k==[53,50])=false:=by simpa using h52
  unfold ib bA at h
  simp only at h
  clear h0 h2 h4 h52 h5 hq hS hG hs hkl hrl
  refine eN func134 rfl ntmps134 fun hO=>?_
  repeat' first|refine st ?_|(refine ca ?_;first|apply ht|apply hmT|apply hm|apply hmF)|(refine br ?_ ?_<;>intro hb)|fail
  refine fP ?_
  exact h
theorem Qd(K:List aH→Prop)(h:K S):vD prog w0 201 [] .inil S K:=by
 refine qP (eJ (eJ (dz []) 1 .inil) 0 .inil) S func201 (by decide +kernel) rfl rfl rfl rfl rfl (by decide) (by rw [ntmps201];simp) (by rw [ntmps201];decide) rfl ?_ ?_
 ·rfl
 ·rw [ntmps201]
  repeat' first|refine st ?_|(refine br ?_ ?_<;>intro hb)|fail
  exact⟨.inl rfl,ss,fun _ _ _ e=>.inl e,by rw [bt];exact h⟩
theorem Qc(K:List aH→Prop)(h:K S):vD prog w0 201 [] bA S K:=by
 refine qP (eJ (eJ (dz []) 1 bA) 0 bA) S func201 (by decide +kernel) rfl rfl rfl rfl rfl (by decide) (by rw [ntmps201];simp) (by rw [ntmps201];decide) rfl ?_ ?_
 ·rfl
 ·rw [ntmps201]
  repeat' first|apply fK|apply eg|apply dx|apply eh|apply fL|apply bU|apply fQ|apply bW|apply bJ|apply cE|apply bV|apply bI|apply bo|apply fO|(apply bp;(· rfl))|(apply cC;simp only [bg])|(apply dq;(· rfl);(· simp only [go_sem, *,bA];try rfl);(· rfl);simp only [putA])|(apply eo;simp only [putA])|apply cF|(apply dr;(· simp only [go_sem, *,bA];try rfl);(· rfl);(· simp only [go_sem, *,bA];try rfl))|(apply dF;(iterate 2 (· simp only [go_sem, *,bA];try rfl));(· rfl);simp only [putA])|(apply bH;(· simp only [go_sem, *,bA];try rfl);(· rfl);simp only [putA])|(apply dt;(· simp only [go_sem, *,bA];try rfl))|(apply dw;(· simp only [go_sem, *,bA];try rfl))|(apply cD;(· rfl);(fail_if_success (focus (show _=some true;(· simp only [go_sem, *,bA];try rfl))));(· simp only [go_sem, *,bA];try rfl);all_goals (intro hb;try simp only [aw,aE] at hb))|(apply du;(· simp only [go_sem, *,bA];try rfl);all_goals (intro hb;try simp only [aw,aE] at hb))|fail
  exact⟨.inl rfl,ss,fun _ _ _ e=>.inl e,by rw [bt];exact h⟩
theorem Jn(i:Nat)(cs:List AV)(ha:S[i]? = some (.cells cs))(o:Option Ac)(hC:∀ S' (R:Rt),S'[i]? = some (.cells cs)→R (ib o) S'→aj prog w0 134 [.own i 0] S' R)(R:Rt)(h:R (.ret (sO o)) S):aj prog w0 133 [.fn (.func 134) [] [.own i 0]] S R:=by
 have hal:=(af.1 ha).1
 have ha1:∀ L:List aH,(S++L)[i]? = some (.cells cs):=fun L=>by rw [az hal];exact ha
 clear hal
 refine DD func133 rfl (by decide +kernel) (by rw [ntmps133];simp) (by rw [ntmps133];decide) (fun hO=>?_);rw [ntmps133]
 cases o with
 | none =>
  unfold sO zeroA Ac.av at h
  unfold ib bA at hC
  simp only at h hC
  repeat' first|refine st ?_|(refine br ?_ ?_<;>intro hb)|fail
  apply qH
  ·(simp only [go_sem, *];try rfl)
  ·rfl
  ·(simp only [go_sem, *];try rfl)
  ·(simp only [go_sem, *];try rfl)
  ·rfl
  simp only [putA]
  repeat' first|refine st ?_|(refine ca ?_;(apply hC;(· simp only [go_sem, *];try rfl)))|(refine br ?_ ?_<;>intro hb)|fail
  refine⟨_,_,_,ss,Qc w0 _ _ ?_⟩
  refine⟨[.agg [.int .i64 0,.int .i64 0,.int .i64 0,.int .i64 0,.int .i64 0,.str []],.bool false],by (simp only [go_sem, *,results133];try rfl),ie _ _,ss, ?_⟩
  rw [uc]
  exact h
 | some a =>
  obtain⟨k,n,m,ck,cn,t⟩:=a
  unfold sO Ac.av at h
  unfold ib Ac.av at hC
  simp only at h hC
  repeat' first|refine st ?_|(refine br ?_ ?_<;>intro hb)|fail
  apply qH
  ·(simp only [go_sem, *];try rfl)
  ·rfl
  ·(simp only [go_sem, *];try rfl)
  ·(simp only [go_sem, *];try rfl)
  ·rfl
  simp only [putA]
  repeat' first|refine st ?_|(refine ca ?_;(apply hC;(· simp only [go_sem, *];try rfl)))|(refine br ?_ ?_<;>intro hb)|fail
  refine⟨_,_,_,ss,Qd w0 _ _ ?_⟩
  refine⟨[.agg [.int .i64 k,.int .i64 n,.int .i64 m,.int .i64 ck,.int .i64 cn,.str t],.bool true],by (simp only [go_sem, *,results133];try rfl),ie _ _,ss, ?_⟩
  rw [uc]
  exact h
theorem FE(w0:World)(hS:D_ w0)(hG:J9 w0):lz w0:=by
 intro S s hs R h
 have hc:=fun S' i R ha=>FU w0 hS hG S' s i ha hs R
 have hd:=fun S' i ha=>Jn w0 S' i [.str s] ha (ea s) (fun S2 R ha2 h2=>hc S2 i R ha2 h2)
 clear hc hS hG hs
 generalize ea s=o at hd h
 unfold sO at hd h
 cases o with
 | none =>
  unfold zeroA Ac.av at hd h
  simp only at hd h
  refine eN func74 rfl ntmps74 fun hO=>?_
  repeat' first|refine st ?_|(refine ca ?_;(apply hd;(· simp only [go_sem, *];try rfl)))|(refine br ?_ ?_<;>intro hb)|fail
  refine fR results74 ?_
  exact h
 | some a =>
  obtain⟨k,n,m,ck,cn,t⟩:=a
  unfold Ac.av at hd h
  simp only at hd h
  refine eN func74 rfl ntmps74 fun hO=>?_
  repeat' first|refine st ?_|(refine ca ?_;(apply hd;(· simp only [go_sem, *];try rfl)))|(refine br ?_ ?_<;>intro hb)|fail
  refine fR results74 ?_
  exact h
end Go.Proofs.YthdbijpefkapnaaGreatDoor
