/- A part of the proof. -/
import Derived.Test.YthdbijpefkapnaaGreatDoorOfWalk11
set_option linter.all false
set_option maxHeartbeats 40000000
open Bool renaming not_eq_false' → aE, not_eq_true' → ay
open List renaming getElem?_append_left → au, getElem?_eq_some_iff → af, take_left → yB, take_length → bC, toList_toArray → bj
namespace Go.Proofs.YthdbijpefkapnaaGreatDoor
open Go Go.Fen Go.Proofs.Tryz
attribute [local irreducible] aX WP ao dS i7 cJ aU cC
set_option maxRecDepth 8000
variable (w0:World) (S:List aH)
theorem rH{P:Program}{w0:World}{g:FuncId}{args:List AV}{rv:AV}{S:List aH}{K:List aH→Prop}{G:Func}{id:Nat}{o0:Oper}{l:List Oper}{rest:Code}{ty:TypeId}{d:Nat}(env1:du)(S1:List aH)(h1:P.funcs[g]? = some G)(h2:(G.name == "runtime.NumGoroutine")=false)
  (h3:G.body=some (.seq (.region id (o0::l).toArray false) rest)) (h4:o0.op=.call ⟨.builtin .recover,#[],#[]⟩) (h5:o0.guard=none) (h6:o0.type=ty) (h7:o0.dst=some d) (h8:d<G.ntmps) (h9:args.length≤G.ntmps) (h10:G.ntmps≤DS) (h11:G.results=#[])
  (h12:p_ P w0 (o0::l).toArray G.ntmps l (eY (dE args) d rv) S=some (env1,S1))
  (h13:aX P w0 S.length G.ntmps none [.it (.code rest)] (fun x env S'=>(x=.normal∨x=.ret)∧env DS=.dfr []∧fV S.length S S'∧K (S'.take S.length)) .normal env1 S1):wB P w0 g args rv S K :=
 ⟨G,id,o0,l,rest,ty,d,env1,S1,h1,h2,h3,h4,h5,h6,h7,h8,h9,h10,h11,h12,h13⟩
theorem Rx(K:List aH→Prop)(h:K S):wB prog w0 110 [] .inil S K:=by
 refine rH (eY (eY (dE []) 1 .inil) 0 .inil) S func110 (by decide +kernel) rfl rfl rfl rfl rfl δ (by rw [ntmps110];simp) (by rw [ntmps110];decide) rfl ?_ ?_
 ·rfl
 ·rw [ntmps110]
  refine ε0 ?_
  exact⟨.inl rfl,ss,fun _ _ _ e=>.inl e,by rw [bC];exact h⟩
theorem Rw(K:List aH→Prop)(h:K S):wB prog w0 110 [] bE S K:=by
 refine rH (eY (eY (dE []) 1 bE) 0 bE) S func110 (by decide +kernel) rfl rfl rfl rfl rfl δ (by rw [ntmps110];simp) (by rw [ntmps110];decide) rfl ?_ ?_
 ·rfl
 ·rw [ntmps110]
  repeat' first|apply fX|apply eA|apply dC|apply eB|apply fY|apply b8|apply gh|apply b_|apply bN|apply cM|apply b9|apply bM|apply bv|apply gg|(apply bw;(· rfl))|(apply cK;simp only [bj])|(apply dx;(· rfl);(· simp only [go_sem, *,bE];try rfl);(· rfl);simp only [putA])|(apply eE;simp only [putA])|apply cN|(apply dy;(· simp only [go_sem, *,bE];try rfl);(· rfl);(· simp only [go_sem, *,bE];try rfl))|(apply dM;(iterate 2 (· simp only [go_sem, *,bE];try rfl));(· rfl);simp only [putA])|(apply bL;(· simp only [go_sem, *,bE];try rfl);(· rfl);simp only [putA])|(apply dz;(· simp only [go_sem, *,bE];try rfl))|(apply dB;(· simp only [go_sem, *,bE];try rfl))|(apply cL;(· rfl);(fail_if_success (focus (show _=some true;(· simp only [go_sem, *,bE];try rfl))));(· simp only [go_sem, *,bE];try rfl);all_goals (intro hb;try simp only [ay,aE] at hb))|(apply dA;(· simp only [go_sem, *,bE];try rfl);all_goals (intro hb;try simp only [ay,aE] at hb))|fail
  exact⟨.inl rfl,ss,fun _ _ _ e=>.inl e,by rw [bC];exact h⟩
def Ni:Option (List UInt8)→AV
 | some s=>.tup [.str s,.bool true]
 | none=>.tup [.str [],.bool false]
theorem KF(i:Nat)(cs:List AV)(ha:S[i]? = some (.cells cs))(o:Option (List UInt8))(hC:∀ R:gL→List aH→Prop,R (mP o) S→ao prog w0 50 [.own i 0] S R)(R:Rt)(h:R (.ret (Ni o)) S):ao prog w0 49 [.fn (.func 50) [] [.own i 0]] S R:=by
 refine EC func49 rfl (by decide +kernel) (by rw [ntmps49];simp) (by rw [ntmps49];decide) (fun hO=>?_);rw [ntmps49]
 cases o with
 | none =>
  unfold Ni at h
  unfold mP at hC
  simp only at h hC
  unfold bE at hC
  refine ε0 ?_
  apply rz
  ·exact ss
  ·rfl
  ·exact ss
  ·exact ss
  ·rfl
  simp only [putA]
  refine ε1 hC ?_
  refine⟨_,_,_,ss,Rw w0 _ _ ?_⟩
  refine⟨[.str [],.bool false],by (simp only [go_sem, *,results49];try rfl),fun _ _ _ e=>.inl e,ss, ?_⟩
  rw [bC]
  exact h
 | some s =>
  unfold Ni at h
  unfold mP at hC
  simp only at h hC
  refine ε0 ?_
  apply rz
  ·exact ss
  ·rfl
  ·exact ss
  ·exact ss
  ·rfl
  simp only [putA]
  refine ε1 hC ?_
  refine⟨_,_,_,ss,Rx w0 _ _ ?_⟩
  refine⟨[.str s,.bool true],by (simp only [go_sem, *,results49];try rfl),fun _ _ _ e=>.inl e,ss, ?_⟩
  rw [bC]
  exact h
theorem G3(w0:World)(hT:LC w0)(hD:A6 w0)(hN:Fq w0)(S:List aH)(a:Ac)(hs:a.text.length≤10000000)(R:Rt)(h:R (.ret (sm (cU a))) S):ao prog w0 28 [a.av] S R:=by
 have hc:=fun S' i ha=>G4 w0 hT hD hN S' a i ha hs
 have hd:=fun S' i ha=>KF w0 S' i [.int .i64 a.kind,.int .i64 a.n,.int .i64 a.m,.int .i64 a.ck,.int .i64 a.cn,.str a.text] ha (cU a) (hc S' i ha)
 obtain⟨k,n,m,ck,cn,t⟩:=a
 unfold Ac.av
 simp only at hd ⊢
 clear hc hT hD hN hs
 generalize cU ⟨k,n,m,ck,cn,t⟩=o at hd h
 unfold Ni at hd
 unfold sm at h
 cases o with
 | none =>
  simp only at hd h
  refine eN func28 rfl ntmps28 fun hO=>?_
  refine ε01 hd ?_
  refine fR results28 ?_
  exact h
 | some s =>
  simp only at hd h
  refine eN func28 rfl ntmps28 fun hO=>?_
  refine ε01 hd ?_
  refine fR results28 ?_
  exact h
theorem GM(w0:World)(hT:LC w0)(hD:A6 w0)(hN:Fq w0):nL w0:=fun S a ha R h=>G3 w0 hT hD hN S a ω R h
def LH(s:List UInt8):Option Ac:=if gG s then some ⟨44,0,0,0,0,s⟩ else none
theorem AE(s:List UInt8)(hs:s.length≤10000000)(R:Rt)(h:R (iE (LH s)) S):ao prog w0 203 [.str s] S R:=by
 refine KD w0 S s hs R ?_
 unfold LH at h
 cases hb:gG s with
 | true=>rw [hb] at h;exact h
 | false=>rw [hb] at h;exact h
theorem BH{s k r:List UInt8}(h1:¬ 512<s.length)(h2:iy s=some (k,r)):er s=if k=[48]∨k=[50] then LH r else if k=[52] then L4 r else if k=[53,50] then L0 r else none:=by
 unfold er
 rw [if_neg h1,h2]
 simp only
 unfold LH L4 L0
 rfl
theorem G8(w0:World)(hS:Fe w0)(hG:LD w0)(S:List aH)(s:List UInt8)(i:Nat)(ha:S[i]? = some (.cells [.str s]))(hs:s.length≤8192)(R:Rt)(h:R (iE (er s)) S):ao prog w0 134 [.own i 0] S R:=by
 have hm:=KA w0
 unfold NA at hm
 have hmT:=lM w0
 have hmF:=lN w0
 unfold bE at hmF
 have hal:=(af.1 ha).1
 have ha1:∀ L:List aH,(S++L)[i]? = some (.cells [.str s]):=fun L=>by rw [au hal];exact ha
 clear hal
 by_cases h5:512<s.length
 ·have d1:decide ((s.length:Int)≤512)=false:=κ
  have e:er s=none:=by unfold er;rw [if_pos h5]
  rw [e] at h
  unfold iE bE at h
  simp only at h
  clear h5 e hS hG hs hmT
  refine eN func134 rfl ntmps134 fun hO=>?_
  refine ε1 hmF ?_
  refine fP ?_
  exact h
 have d1:decide ((s.length:Int)≤512)=true:=κ
 have ht:=fun S'=>Kv w0 S' s ω
 cases hq:iy s with
 | none =>
  have e:er s=none:=by unfold er;rw [if_neg h5,hq]
  rw [e] at h
  rw [hq] at ht
  unfold iE bE at h
  unfold vb bE at ht
  simp only at h ht
  clear h5 e hS hG hs hmF hq
  refine eN func134 rfl ntmps134 fun hO=>?_
  refine ε2 ht hmT ?_
  refine fP ?_
  exact h
 | some q =>
 obtain⟨k,r⟩:=q
 obtain⟨hkl,hrl⟩:=pC hq
 rw [BH h5 hq] at h
 rw [hq] at ht
 unfold vb at ht
 simp only at ht
 by_cases h0:k=[48]
 ·subst h0
  rw [if_pos (.inl rfl)] at h
  have hr:=fun S'=>AE w0 S' r ω
  generalize LH r=o at h hr
  clear h5 hq hS hG hs hkl hrl
  unfold iE at h hr
  cases o with
  | none =>
   unfold bE at h hr
   simp only at h hr
   refine eN func134 rfl ntmps134 fun hO=>?_
   refine ε4 ht hmT hm hr ?_
   refine fP ?_
   exact h
  | some a =>
   obtain⟨ak,an,am,ac,ad,at'⟩:=a
   unfold Ac.av at h hr
   simp only at h hr
   exact γR4 ht hmT hm hr func134 ntmps134 results134 h
 by_cases h2:k=[50]
 ·subst h2
  rw [if_pos (.inr rfl)] at h
  have hr:=fun S'=>AE w0 S' r ω
  generalize LH r=o at h hr
  clear h5 hq hS hG hs hkl hrl
  unfold iE at h hr
  cases o with
  | none =>
   unfold bE at h hr
   simp only at h hr
   refine eN func134 rfl ntmps134 fun hO=>?_
   refine ε4 ht hmT hm hr ?_
   refine fP ?_
   exact h
  | some a =>
   obtain⟨ak,an,am,ac,ad,at'⟩:=a
   unfold Ac.av at h hr
   simp only at h hr
   exact γR4 ht hmT hm hr func134 ntmps134 results134 h
 by_cases h4:k=[52]
 ·subst h4
  rw [if_neg δ,if_pos rfl] at h
  have hr:=fun S'=>KC w0 hS hG S' r ω
  generalize L4 r=o at h hr
  clear h5 hq hS hG hs hkl hrl
  unfold iE at h hr
  cases o with
  | none =>
   unfold bE at h hr
   simp only at h hr
   refine eN func134 rfl ntmps134 fun hO=>?_
   refine ε4 ht hmT hm hr ?_
   refine fP ?_
   exact h
  | some a =>
   obtain⟨ak,an,am,ac,ad,at'⟩:=a
   unfold Ac.av at h hr
   simp only at h hr
   exact γR4 ht hmT hm hr func134 ntmps134 results134 h
 by_cases h52:k=[53,50]
 ·subst h52
  rw [if_neg δ,if_neg δ,if_pos rfl] at h
  have hr:=fun S'=>KB w0 S' r ω
  generalize L0 r=o at h hr
  clear h5 hq hS hG hs hkl hrl
  unfold iE at h hr
  cases o with
  | none =>
   unfold bE at h hr
   simp only at h hr
   refine eN func134 rfl ntmps134 fun hO=>?_
   refine ε4 ht hmT hm hr ?_
   refine fP ?_
   exact h
  | some a =>
   obtain⟨ak,an,am,ac,ad,at'⟩:=a
   unfold Ac.av at h hr
   simp only at h hr
   exact γR4 ht hmT hm hr func134 ntmps134 results134 h
 ·rw [if_neg (by rintro(e|e)<;>contradiction),if_neg h4,if_neg h52] at h
  have b0:(k==[48])=false:=by simpa using h0
  have b2:(k==[50])=false:=by simpa using h2
  have b4:(k==[52])=false:=by simpa using h4
  have b5:(k==[53,50])=false:=by simpa using h52
  unfold iE bE at h
  simp only at h
  clear h0 h2 h4 h52 h5 hq hS hG hs hkl hrl
  refine eN func134 rfl ntmps134 fun hO=>?_
  refine ε4 ht hmT hm hmF ?_
  refine fP ?_
  exact h
theorem Rz(K:List aH→Prop)(h:K S):wB prog w0 201 [] .inil S K:=by
 refine rH (eY (eY (dE []) 1 .inil) 0 .inil) S func201 (by decide +kernel) rfl rfl rfl rfl rfl δ (by rw [ntmps201];simp) (by rw [ntmps201];decide) rfl ?_ ?_
 ·rfl
 ·rw [ntmps201]
  refine ε0 ?_
  exact⟨.inl rfl,ss,fun _ _ _ e=>.inl e,by rw [bC];exact h⟩
theorem Ry(K:List aH→Prop)(h:K S):wB prog w0 201 [] bE S K:=by
 refine rH (eY (eY (dE []) 1 bE) 0 bE) S func201 (by decide +kernel) rfl rfl rfl rfl rfl δ (by rw [ntmps201];simp) (by rw [ntmps201];decide) rfl ?_ ?_
 ·rfl
 ·rw [ntmps201]
  repeat' first|apply fX|apply eA|apply dC|apply eB|apply fY|apply b8|apply gh|apply b_|apply bN|apply cM|apply b9|apply bM|apply bv|apply gg|(apply bw;(· rfl))|(apply cK;simp only [bj])|(apply dx;(· rfl);(· simp only [go_sem, *,bE];try rfl);(· rfl);simp only [putA])|(apply eE;simp only [putA])|apply cN|(apply dy;(· simp only [go_sem, *,bE];try rfl);(· rfl);(· simp only [go_sem, *,bE];try rfl))|(apply dM;(iterate 2 (· simp only [go_sem, *,bE];try rfl));(· rfl);simp only [putA])|(apply bL;(· simp only [go_sem, *,bE];try rfl);(· rfl);simp only [putA])|(apply dz;(· simp only [go_sem, *,bE];try rfl))|(apply dB;(· simp only [go_sem, *,bE];try rfl))|(apply cL;(· rfl);(fail_if_success (focus (show _=some true;(· simp only [go_sem, *,bE];try rfl))));(· simp only [go_sem, *,bE];try rfl);all_goals (intro hb;try simp only [ay,aE] at hb))|(apply dA;(· simp only [go_sem, *,bE];try rfl);all_goals (intro hb;try simp only [ay,aE] at hb))|fail
  exact⟨.inl rfl,ss,fun _ _ _ e=>.inl e,by rw [bC];exact h⟩
theorem KG(i:Nat)(cs:List AV)(ha:S[i]? = some (.cells cs))(o:Option Ac)(hC:∀ S' (R:Rt),S'[i]? = some (.cells cs)→R (iE o) S'→ao prog w0 134 [.own i 0] S' R)(R:Rt)(h:R (.ret (tS o)) S):ao prog w0 133 [.fn (.func 134) [] [.own i 0]] S R:=by
 have hal:=(af.1 ha).1
 have ha1:∀ L:List aH,(S++L)[i]? = some (.cells cs):=fun L=>by rw [au hal];exact ha
 clear hal
 refine EC func133 rfl (by decide +kernel) (by rw [ntmps133];simp) (by rw [ntmps133];decide) (fun hO=>?_);rw [ntmps133]
 cases o with
 | none =>
  unfold tS zeroA Ac.av at h
  unfold iE bE at hC
  simp only at h hC
  refine ε0 ?_
  apply rz
  ·exact ss
  ·rfl
  ·exact ss
  ·exact ss
  ·rfl
  simp only [putA]
  refine ε01 hC ?_
  refine⟨_,_,_,ss,Ry w0 _ _ ?_⟩
  refine⟨[.agg [.int .i64 0,.int .i64 0,.int .i64 0,.int .i64 0,.int .i64 0,.str []],.bool false],by (simp only [go_sem, *,results133];try rfl),iH _ _,ss, ?_⟩
  rw [yB]
  exact h
 | some a =>
  obtain⟨k,n,m,ck,cn,t⟩:=a
  unfold tS Ac.av at h
  unfold iE Ac.av at hC
  simp only at h hC
  refine ε0 ?_
  apply rz
  ·exact ss
  ·rfl
  ·exact ss
  ·exact ss
  ·rfl
  simp only [putA]
  refine ε01 hC ?_
  refine⟨_,_,_,ss,Rz w0 _ _ ?_⟩
  refine⟨[.agg [.int .i64 k,.int .i64 n,.int .i64 m,.int .i64 ck,.int .i64 cn,.str t],.bool true],by (simp only [go_sem, *,results133];try rfl),iH _ _,ss, ?_⟩
  rw [yB]
  exact h
theorem GU(w0:World)(hS:Fe w0)(hG:LD w0):lZ w0:=by
 intro S s hs R h
 have hc:=fun S' i R ha=>G8 w0 hS hG S' s i ha hs R
 have hd:=fun S' i ha=>KG w0 S' i [.str s] ha (er s) (fun S2 R ha2 h2=>hc S2 i R ha2 h2)
 clear hc hS hG hs
 generalize er s=o at hd h
 unfold tS at hd h
 cases o with
 | none =>
  unfold zeroA Ac.av at hd h
  simp only at hd h
  refine eN func74 rfl ntmps74 fun hO=>?_
  refine ε01 hd ?_
  refine fR results74 ?_
  exact h
 | some a =>
  obtain⟨k,n,m,ck,cn,t⟩:=a
  unfold Ac.av at hd h
  simp only at hd h
  refine eN func74 rfl ntmps74 fun hO=>?_
  refine ε01 hd ?_
  refine fR results74 ?_
  exact h
end Go.Proofs.YthdbijpefkapnaaGreatDoor
