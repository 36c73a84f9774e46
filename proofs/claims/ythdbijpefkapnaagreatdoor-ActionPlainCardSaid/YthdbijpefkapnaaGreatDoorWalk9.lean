/- YthdbijpefkapnaaGreatDoorWalk9. Texts of the proof of a law about texts: a layer of abstract values above the worlds, the types, the walks of the functions that the law reaches, the law and its card. Own work of an AI agent. -/
import Derived.Test.YthdbijpefkapnaaGreatDoorWalk8
import Derived.Test.YthdbijpefkapnaaGreatDoorCore3
set_option linter.all false
set_option maxHeartbeats 40000000
open Bool renaming and_eq_true → aB, not_eq_true' → ax, or_eq_false_iff → cy, or_eq_true → fc
open Go.IntKind renaming i64 → ar, u8 → bo
open Go.IntWalk renaming i64_in → ay, u8_in → eo
open Go.Lib renaming hid → au
open Int renaming le_refl → EU
open List renaming all_eq_true → aF, any_append → gv, append_nil → aP, length_nil → aj, map → bS, map_append → co, map_cons → aG, map_nil → aL, mem_append → dg, mem_map → aX, mem_singleton → bC, nil_append → ap, take → qR, take_of_length_le → dW
open Nat renaming zero_le → bI
namespace Go.Proofs.YthdbijpefkapnaaGreatDoor
open Go Go.Fen
attribute [local irreducible] ba WP az dI ie cU aR cw
set_option maxRecDepth 8000
theorem ui {l:List (List Int)} (h:l≠[]):iC l=l:=if_neg h
theorem nT {α β:Type} (f:α→β) (q:List α) (x:α):qR q.length (bS f (q++[x]))=bS f q:=by
 rw [co,List.take_append_of_le_length (by simp),dW (by simp)]
theorem xn {α β:Type} (f:α→β) (q:List α) (x:α):bS f q++[f x]=bS f (q++[x]):=by simp
theorem gB.all1 (l:List Int):((l.map gB).all fun el=>el.cells.length==1)=true:=by
 rw [aF];intro x hx;obtain⟨y,_,rfl⟩:=aX.1 hx;rfl
theorem dA.all1 (l:List (List Int)):((l.map dA).all fun el=>el.cells.length==1)=true:=by
 rw [aF];intro x hx;obtain⟨y,_,rfl⟩:=aX.1 hx;rfl
theorem xi (w0:World) (S:List aH) (q:List Int) (n v:Int) (hq:q.length≤1000) (R:Rt) (h:R (.ret (.sval false ((q++[v]).map gB))) S):az Tryz.prog w0 324 [.sval false ((q++[n]).map gB),.int .i64 v] S R:=by
 have hlen:(q++[n]).length=q.length+1:=by simp
 have hw:ar.wrap (((q.length+1:Nat):Int) - 1)=(q.length:Int):=by rw [ay _ (by omega)];omega
 have htk:=nT gB q n
 have hle:(q.length:Int)≤((q.length+1:Nat):Int):=by omega
 have hle2:(q.length:Int)≤(q.length:Int):=EU _
 have hb8:(q.length+1) * 8≤140737488355328:=by omega
 have hbe:(q.length==q.length)=true:=by simp
 have hall:=gB.all1 (q++[n])
 simp only [AV.cells] at hall
 have okA:=gB.ok q
 simp only [dz,AV.cells] at okA
 have h:R (.ret (.sval false (bS gB q++[.int .i64 v]))) S:=by rw [← xn] at h;exact h
 have H:=au h
 clear h
 refine eN Tryz.func324 rfl Tryz.ntmps324 fun hO=>?_
 repeat' first | refine st ?_ | (refine br ?_ ?_<;>intro hb) | fail
 have hl2:(q.length+1=(bS gB q++[AV.int .i64 v]).length)=True:=by simp
 refine fR Tryz.results324 ?_
 exact H.out
theorem Dw (w0:World) (S:List aH) (q:List (List Int)) (n v:List Int) (hq:q.length≤1000) (R:Rt) (h:R (.ret (.sval false ((q++[v]).map dA))) S):az Tryz.prog w0 323 [.sval false ((q++[n]).map dA),dA v] S R:=by
 have hlen:(q++[n]).length=q.length+1:=by simp
 have hw:ar.wrap (((q.length+1:Nat):Int) - 1)=(q.length:Int):=by rw [ay _ (by omega)];omega
 have htk:=nT dA q n
 have hle:(q.length:Int)≤((q.length+1:Nat):Int):=by omega
 have hle2:(q.length:Int)≤(q.length:Int):=EU _
 have hb8:(q.length+1) * 24≤140737488355328:=by omega
 have hbe:(q.length==q.length)=true:=by simp
 have hall:=dA.all1 (q++[n])
 simp only [AV.cells] at hall
 have okA:=dA.ok q
 simp only [dz,AV.cells] at okA
 have h:R (.ret (.sval false (bS dA q++[.agg [.sval false (v.map gB)]]))) S:=by rw [← xn] at h;exact h
 have H:=au h
 clear h
 rw [show dA v=.agg [.sval false (v.map gB)] from rfl]
 refine eN Tryz.func323 rfl Tryz.ntmps323 fun hO=>?_
 repeat' first | refine st ?_ | (refine br ?_ ?_<;>intro hb) | refine sd ?_ | refine sx ?_ | apply aE | (apply aO;(· decide +kernel)) | refine bd ?_ ?_ | fail
 all_goals have hl2:(q.length+1=(bS dA q++[AV.agg [.sval false (bS gB v)]]).length)=True:=by simp
 all_goals refine fR Tryz.results323 ?_
 all_goals exact H.out
theorem Dv (w0:World) (S:List aH) (a:Nat) (ty:Option TypeId) (q:List (List Int)) (n v:List Int) (hq:q.length≤1000) (ha:S[a]? = some (.cells [.sval false ((q++[n]).map dA)] ty)) (R:Rt) (h:R (.ret (.tup [.sval false ((q++[v]).map dA),.int .i64 0])) S):az Tryz.prog w0 322 [.sval false (v.map gB),.own a 0] S R:=by
 have hc:=fun S'=>Dw w0 S' q n v hq
 rw [show dA v=.agg [.sval false (v.map gB)] from rfl] at hc
 clear hq
 refine eN Tryz.func322 rfl Tryz.ntmps322 fun hO=>?_
 repeat' first | refine st ?_ | (refine ca ?_;apply hc) | (refine br ?_ ?_<;>intro hb) | fail
 refine fR Tryz.results322 ?_
 exact h
def uW (q:List (List Int) × Int):AV:=.tup [.sval false (q.1.map dA),.int .i64 q.2]
theorem JS (w0:World) (S:List aH) (pre:List (List Int)) (q:List Int) (n:Int) (c:Nat) (hc:c<256) (hok:ep (pre++[q++[n]])=true) (h1:pre.length≤15) (h2:q.length≤5) (h3 : -1≤n∧n≤9999) (R:Rt) (h:R (.ret (uW (lg (pre++[q++[n]]) c))) S) :
  az Tryz.prog w0 299 [.sval false ((pre++[q++[n]]).map dA),.int .u8 c] S R:=by
 have hck:=fun S'=>p4 w0 S' (pre++[q++[n]]) ⟨by simp;omega,by
  intro s hs
  rcases dg.1 hs with hs | hs
  ·unfold ep at hok
   simp only [aB,decide_eq_true_eq,ax,gv,cy,List.any_eq_false] at hok
   have:=hok.2.2.1 s hs
   unfold jJ at this
   simp only [fc,not_or,decide_eq_true_eq] at this
   omega
  ·rw [bC.1 hs];simp;omega⟩
 unfold tI at hck
 rw [hok] at hck
 rw [kO (ui (by simp))] at h
 have hlen:(pre++[q++[n]]).length=pre.length+1:=by simp
 have hlen2:(q++[n]).length=q.length+1:=by simp
 have hx:(pre++[q++[n]])[pre.length]? = some (q++[n]):=by simp
 have hy:(q++[n])[q.length]? = some n:=by simp
 have hw1:ar.wrap (((pre.length+1:Nat):Int) - 1)=(pre.length:Int):=by rw [ay _ (by omega)];omega
 have hw2:ar.wrap (((q.length+1:Nat):Int) - 1)=(q.length:Int):=by rw [ay _ (by omega)];omega
 have e0:(((pre.length+1:Nat):Int)==0)=false:=by rw [beq_eq_false_iff_ne];omega
 have hall1:=dA.all1 (pre++[q++[n]])
 have hall2:=gB.all1 (q++[n])
 simp only [AV.cells] at hall1 hall2
 have okA:=dA.ok (pre++[q++[n]])
 have okB:=gB.ok (q++[n])
 simp only [dz,AV.cells] at okA okB
 have hch:=fun S' v=>Dv w0 S' (S.length) none pre (q++[n]) v (by omega)
 have hci:=fun S' v=>xi w0 S' q n v (by omega)
 have H3:=au h3
 clear hok h3
 by_cases c1:c=59
 ·subst c1
  rw [if_pos rfl] at h
  by_cases hp:pre.length<15
  ·rw [if_pos hp] at h
   have d1:decide (((pre.length+1:Nat):Int)<16)=true:=by simp;omega
   have hle:((pre.length+1:Nat):Int)≤((pre.length+1:Nat):Int):=EU _
   have hbe:(pre.length+1==pre.length+1)=true:=by simp
   have hb8:(pre.length+1+1) * 24≤140737488355328:=by omega
   have htk:qR (pre.length+1) (bS dA (pre++[q++[n]]))=bS dA (pre++[q++[n]]):=dW (by simp)
   have h:R (.ret (.tup [.sval false (bS dA (pre++[q++[n]])++[.agg [.sval false [.int .i64 (-1)]]]),.int .i64 0])) S:=by
    have e:bS dA (pre++[q++[n]])++[.agg [.sval false [.int .i64 (-1)]]]=bS dA (pre++[q++[n],[-1]]):=by simp [dA,gB]
    rw [e];exact h
   have H:=au h
   clear h hp h1 h2 hch hci
   refine eN Tryz.func299 rfl Tryz.ntmps299 fun hO=>?_
   repeat' ((fail_if_success (apply dE 44 rfl));first | refine st ?_ | (refine ca ?_;apply hck) | (refine br ?_ ?_<;>intro hb) | fail)
   refine mE (t:=43) (a:=S.length+1) rfl ss ss ?_
   repeat' first | refine st ?_ | (refine ca ?_;apply hck) | (refine br ?_ ?_<;>intro hb) | fail
   have hl2:(pre.length+1+1=(bS dA (pre++[q++[n]])++[AV.agg [.sval false [.int .i64 (-1)]]]).length)=True:=by simp
   refine fR Tryz.results299 ?_
   exact H.out
  ·rw [if_neg hp] at h
   have d1:decide (((pre.length+1:Nat):Int)<16)=false:=by simp;omega
   have H:=au h
   clear h hp h1 h2 hch hci
   refine eN Tryz.func299 rfl Tryz.ntmps299 fun hO=>?_
   repeat' first | refine st ?_ | (refine ca ?_;apply hck) | (refine br ?_ ?_<;>intro hb) | refine sd ?_ | refine sx ?_ | apply aE | (apply aO;(· decide +kernel)) | refine bd ?_ ?_ | (refine cd ?_;apply hck) | fail
   refine fR Tryz.results299 ?_
   exact H.out
 rw [if_neg c1] at h
 have f1:((c:Int)==59)=false:=by rw [beq_eq_false_iff_ne];omega
 by_cases c2:c=58
 ·subst c2
  rw [if_pos rfl] at h
  by_cases hp:q.length<5
  ·rw [if_pos hp] at h
   have d1:decide (((q.length+1:Nat):Int)<6)=true:=by simp;omega
   have hle:((q.length+1:Nat):Int)≤((q.length+1:Nat):Int):=EU _
   have hbe:(q.length+1==q.length+1)=true:=by simp
   have hb8:(q.length+1+1) * 8≤140737488355328:=by omega
   have htk:qR (q.length+1) (bS gB (q++[n]))=bS gB (q++[n]):=dW (by simp)
   have hch2:=fun S'=>hch S' (q++[n,-1])
   have e:bS gB (q++[n,-1])=bS gB (q++[n])++[.int .i64 (-1)]:=by simp [gB]
   rw [e] at hch2
   have H:=au h
   clear h hp h1 h2 hch hci e
   refine eN Tryz.func299 rfl Tryz.ntmps299 fun hO=>?_
   repeat' ((fail_if_success (apply dE 64 rfl));first | refine st ?_ | (refine ca ?_;apply hck) | (refine br ?_ ?_<;>intro hb) | fail)
   have hl2:(q.length+1+1=(bS gB (q++[n])++[AV.int .i64 (-1)]).length)=True:=by simp
   refine mE (t:=63) (a:=S.length+2) rfl ss ss ?_
   repeat' first | refine st ?_ | (refine ca ?_;(apply hch2;(· simp only [go_sem, *];try rfl))) | (refine br ?_ ?_<;>intro hb) | fail
   refine fR Tryz.results299 ?_
   exact H.out
  ·rw [if_neg hp] at h
   have d1:decide (((q.length+1:Nat):Int)<6)=false:=by simp;omega
   have H:=au h
   clear h hp h1 h2 hch hci
   refine eN Tryz.func299 rfl Tryz.ntmps299 fun hO=>?_
   repeat' first | refine st ?_ | (refine ca ?_;apply hck) | (refine br ?_ ?_<;>intro hb) | refine sd ?_ | refine sx ?_ | apply aE | (apply aO;(· decide +kernel)) | refine bd ?_ ?_ | (refine cd ?_;apply hck) | fail
   refine fR Tryz.results299 ?_
   exact H.out
 rw [if_neg c2] at h
 have f2:((c:Int)==58)=false:=by rw [beq_eq_false_iff_ne];omega
 by_cases c3:48≤c∧c≤57
 ·rw [if_pos c3] at h
  have g1:decide ((48:Int)≤(c:Int))=true:=by simp;omega
  have g2:decide ((c:Int)≤57)=true:=by simp;omega
  have hwc:bo.wrap ((c:Int) - 48)=(c:Int) - 48:=eo _ (by omega)
  have hwd:ar.wrap ((c:Int) - 48)=(c:Int) - 48:=ay _ (by omega)
  obtain⟨m,hm⟩:∃ m:Int,(if (0:Int)<n then n else 0)=m:=⟨_,rfl⟩
  have hm2:m=max 0 n∧0≤m∧m≤9999:=by have:=H3.out;subst hm;split<;>omega
  have hwm:ar.wrap (m * 10)=m * 10:=ay _ (by omega)
  have hwa:ar.wrap (m * 10+((c:Int) - 48))=m * 10+((c:Int) - 48):=ay _ (by omega)
  obtain⟨v,hv⟩:∃ v:Int,(if (9999:Int)<m * 10+((c:Int) - 48) then 9999 else m * 10+((c:Int) - 48))=v:=⟨_,rfl⟩
  have hv2:v=min (max 0 n * 10+((c:Int) - 48)) 9999:=by subst hv;rw [← hm2.1];split<;>omega
  rw [← hv2] at h
  have hch2:=fun S'=>hch S' (q++[v])
  have hci2:=fun S'=>hci S' v
  have H:=au h
  clear h c1 c2 c3 h1 h2 hch hci hv2 hm2
  refine eN Tryz.func299 rfl Tryz.ntmps299 fun hO=>?_
  repeat' first | refine st ?_ | (refine ca ?_;first | apply hck | (apply hch2;(· simp only [go_sem, *];try rfl)) | apply hci2) | (refine br ?_ ?_<;>intro hb) | fail
  refine fR Tryz.results299 ?_
  exact H.out
 ·rw [if_neg c3] at h
  have H:=au h
  clear h h1 h2 hch hci
  by_cases c4:48≤c
  ·have g1:decide ((48:Int)≤(c:Int))=true:=by simp;omega
   have g2:decide ((c:Int)≤57)=false:=by simp;omega
   clear c1 c2 c3 c4
   refine eN Tryz.func299 rfl Tryz.ntmps299 fun hO=>?_
   repeat' first | refine st ?_ | (refine ca ?_;apply hck) | (refine br ?_ ?_<;>intro hb) | fail
   refine fR Tryz.results299 ?_
   exact H.out
  ·have g1:decide ((48:Int)≤(c:Int))=false:=by simp;omega
   clear c1 c2 c3 c4
   refine eN Tryz.func299 rfl Tryz.ntmps299 fun hO=>?_
   repeat' first | refine st ?_ | (refine ca ?_;apply hck) | (refine br ?_ ?_<;>intro hb) | fail
   refine fR Tryz.results299 ?_
   exact H.out
theorem JT (w0:World) (S:List aH) (c:Nat) (hc:c<256) (R:Rt) (h:R (.ret (uW (lg [] c))) S) :
  az Tryz.prog w0 299 [.sval false [],.int .u8 c] S R:=by
 have hck:=fun S'=>p4 w0 S' [] ⟨by decide,by simp⟩
 have hck0:tI []=0:=by decide
 rw [hck0] at hck
 simp only [aL] at hck
 rw [kO (pre:=[]) (q:=[]) (n:=-1) rfl] at h
 have hch:=fun S' v=>Dv w0 S' S.length none [] [-1] v (by decide)
 simp only [ap,aG,aL,dA,gB] at hch
 have hci:=fun S' v=>xi w0 S' [] (-1) v (by decide)
 simp only [ap,aG,aL,dA,gB] at hci
 simp only [ap,aj] at h
 by_cases c1:c=59
 ·subst c1
  have H:=au h
  clear h hch hci
  refine eN Tryz.func299 rfl Tryz.ntmps299 fun hO=>?_
  repeat' ((fail_if_success (apply dE 21 rfl));first | refine st ?_ | (refine ca ?_;apply hck) | (refine br ?_ ?_<;>intro hb) | fail)
  refine Cv S.length [S.length+1,S.length+2] ss ss ss ss ?_
  simp only [go_sem, *]
  repeat' ((fail_if_success (apply dE 44 rfl));first | refine st ?_ | (refine ca ?_;apply hck) | (refine br ?_ ?_<;>intro hb) | fail)
  refine mE (t:=43) (a:=S.length+3) rfl ss ss ?_
  repeat' first | refine st ?_ | (refine ca ?_;apply hck) | (refine br ?_ ?_<;>intro hb) | fail
  refine fR Tryz.results299 ?_
  exact H.out
 rw [if_neg c1] at h
 have f1:((c:Int)==59)=false:=by rw [beq_eq_false_iff_ne];omega
 by_cases c2:c=58
 ·subst c2
  have hch2:=fun S'=>hch S' [-1,-1]
  simp only [aG,aL,gB] at hch2
  have H:=au h
  clear h hch hci
  refine eN Tryz.func299 rfl Tryz.ntmps299 fun hO=>?_
  repeat' ((fail_if_success (apply dE 21 rfl));first | refine st ?_ | (refine ca ?_;apply hck) | (refine br ?_ ?_<;>intro hb) | fail)
  refine Cv S.length [S.length+1,S.length+2] ss ss ss ss ?_
  simp only [go_sem, *]
  repeat' ((fail_if_success (apply dE 64 rfl));first | refine st ?_ | (refine ca ?_;apply hck) | (refine br ?_ ?_<;>intro hb) | fail)
  refine mE (t:=63) (a:=S.length+4) rfl ss ss ?_
  repeat' first | refine st ?_ | (refine ca ?_;(apply hch2;(· simp only [go_sem, *];try rfl))) | (refine br ?_ ?_<;>intro hb) | fail
  refine fR Tryz.results299 ?_
  exact H.out
 rw [if_neg c2] at h
 have f2:((c:Int)==58)=false:=by rw [beq_eq_false_iff_ne];omega
 by_cases c3:48≤c∧c≤57
 ·rw [if_pos c3] at h
  have g1:decide ((48:Int)≤(c:Int))=true:=by simp;omega
  have g2:decide ((c:Int)≤57)=true:=by simp;omega
  have hwc:bo.wrap ((c:Int) - 48)=(c:Int) - 48:=eo _ (by omega)
  have hwd:ar.wrap ((c:Int) - 48)=(c:Int) - 48:=ay _ (by omega)
  have hwa:ar.wrap (0+((c:Int) - 48))=(c:Int) - 48:=by rw [Int.zero_add];exact hwd
  have hw0:ar.wrap ((if (-1:Int)>0 then -1 else 0) * 10)=0:=by decide
  have hv:((9999:Int)<(c:Int) - 48)=False:=eq_false (by omega)
  rw [show min (max 0 (-1:Int) * 10+((c:Int) - 48)) 9999=(c:Int) - 48 by omega] at h
  obtain⟨v,hvv⟩:∃ v:Int,(c:Int) - 48=v:=⟨_,rfl⟩
  rw [hvv] at hwc hwd hwa hv h
  have hch2:=fun S'=>hch S' [v]
  simp only [aG,aL,gB] at hch2
  have hci2:=fun S'=>hci S' v
  have H:=au h
  clear h c1 c2 c3 hch hci
  refine eN Tryz.func299 rfl Tryz.ntmps299 fun hO=>?_
  repeat' ((fail_if_success (apply dE 21 rfl));first | refine st ?_ | (refine ca ?_;apply hck) | (refine br ?_ ?_<;>intro hb) | fail)
  refine Cv S.length [S.length+1,S.length+2] ss ss ss ss ?_
  simp only [go_sem, *]
  repeat' first | refine st ?_ | (refine ca ?_;first | (apply hch2;(· simp only [go_sem, *];try rfl)) | apply hci2) | (refine br ?_ ?_<;>intro hb) | fail
  refine fR Tryz.results299 ?_
  exact H.out
 ·rw [if_neg c3] at h
  have H:=au h
  clear h hch hci
  by_cases c4:48≤c
  ·have g1:decide ((48:Int)≤(c:Int))=true:=by simp;omega
   have g2:decide ((c:Int)≤57)=false:=by simp;omega
   clear c1 c2 c3 c4
   refine eN Tryz.func299 rfl Tryz.ntmps299 fun hO=>?_
   repeat' first | refine st ?_ | (refine ca ?_;apply hck) | (refine br ?_ ?_<;>intro hb) | fail
   refine fR Tryz.results299 ?_
   exact H.out
  ·have g1:decide ((48:Int)≤(c:Int))=false:=by simp;omega
   clear c1 c2 c3 c4
   refine eN Tryz.func299 rfl Tryz.ntmps299 fun hO=>?_
   repeat' first | refine st ?_ | (refine ca ?_;apply hck) | (refine br ?_ ?_<;>intro hb) | fail
   refine fR Tryz.results299 ?_
   exact H.out
theorem Lx (w0:World) (S:List aH) (l:List (List Int)) (c:Nat) (hc:c<256) (hok:ep l=true) (R:Rt) (h:R (.ret (uW (lg l c))) S):az Tryz.prog w0 299 [.sval false (l.map dA),.int .u8 c] S R:=by
 by_cases hl:l=[]
 ·subst hl;exact JT w0 S c hc R h
 ·obtain⟨pre,q,n,e,h1,h2,h3,_,_⟩:=qI hok
  rw [ui hl] at e
  subst e
  exact JS w0 S pre q n c hc hok h1 h2 h3 R h
theorem Db (w0:World) (X:List aH) (p:Ps) (l:List Ev) (b:Nat) (hb8:b<256) (hok:ep p.pars=true) (R:Rt) (h:R (.ret (.tup [])) (aY X (vW p b) l)):az Tryz.prog w0 261 [.own X.length 0,.int .u8 b] (aY X p l) R:=by
 have hsp:=rX w0 X p l
 have hst:=fun S'=>Lx w0 S' p.pars b hb8 hok
 unfold uW at hst
 unfold vW at h
 generalize lg p.pars b=q at h hst
 obtain⟨q1,q2⟩:=q
 simp only at h hst
 clear hok hb8
 by_cases hq:q2=0
 ·subst hq
  cases hb:p.bad
  ·have h:R (.ret (.tup [])) (aY X { p with pars:=q1 } l):=by simpa [hb] using h
   have H:=au h
   clear h hsp
   refine eN Tryz.func261 rfl Tryz.ntmps261 fun hO=>?_
   have HO:=au hO
   clear hO
   unfold aY dV dZ
   rw [hb]
   repeat' first | refine st ?_ | (refine ca ?_;apply hst) | (refine br ?_ ?_<;>intro hb) | fail
   (apply cJ HO.out H.out;(· simp);(· (simp only [go_sem, *];try rfl));(· (simp only [go_sem, *];try rfl));(· (simp only [go_sem, *,Tryz.results261];try rfl)))
  ·have h:R (.ret (.tup [])) (aY X (qX p.st) l):=by simpa [hb] using h
   have H:=au h
   clear h
   refine eN Tryz.func261 rfl Tryz.ntmps261 fun hO=>?_
   have HO:=au hO
   clear hO
   unfold aY dV dZ
   simp only [aY,dV,dZ,hb] at hsp ⊢
   repeat' first | refine st ?_ | (refine ca ?_;first | apply hst | apply hsp) | (refine br ?_ ?_<;>intro hb) | fail
   (apply oB HO.out H.out;(· simp);(· (simp only [go_sem, *];try rfl));(· (simp only [go_sem, *];try rfl));(· (simp only [go_sem, *,Tryz.results261];try rfl)))
 ·have h:R (.ret (.tup [])) (aY X (qX p.st) l):=by simpa [hq] using h
  have hq2:(q2==0)=false:=by rw [beq_eq_false_iff_ne];exact hq
  have hq3:(q2 != 0)=true:=by simpa using hq
  have hq4:decide (q2=0)=false:=by simpa using hq
  have H:=au h
  clear h hq
  refine eN Tryz.func261 rfl Tryz.ntmps261 fun hO=>?_
  have HO:=au hO
  clear hO
  unfold aY dV dZ
  simp only [aY,dV,dZ] at hsp
  repeat' first | refine st ?_ | (refine ca ?_;first | apply hst | apply hsp) | (refine br ?_ ?_<;>intro hb) | fail
  (apply oB HO.out H.out;(· simp);(· (simp only [go_sem, *];try rfl));(· (simp only [go_sem, *];try rfl));(· (simp only [go_sem, *,Tryz.results261];try rfl)))
theorem Fz (w0:World) (X:List aH) (p:Ps) (l:List Ev) (b:Nat) (hl:l.length≤1000000) (hb:b<256) (R:Rt) (h:R (.ret (.tup [])) (aY X p (l++[lQ b]))):az Tryz.prog w0 216 [.own X.length 0,.int .u8 b] (aY X p l) R:=by
 have k0:=zZ w0 X p l (lQ b) hl
 rw [show (lQ b).av=.agg [.int .i64 1,.int .i64 b,.int .u8 0,.int .u8 0,.sval false [],.str [],.str []] from rfl] at k0
 simp only [aY,dV,dZ] at k0
 have hw:ar.wrap (b:Int)=(b:Int):=ay _ (by omega)
 have H:=au h
 clear h hl hb
 refine eN Tryz.func216 rfl Tryz.ntmps216 fun hO=>?_
 have HO:=au hO
 clear hO
 unfold aY dV dZ
 repeat' first | refine st ?_ | (refine ca ?_;apply k0) | (refine br ?_ ?_<;>intro hb) | fail
 (apply cJ HO.out H.out;(· simp);(· (simp only [go_sem, *];try rfl));(· (simp only [go_sem, *];try rfl));(· (simp only [go_sem, *,Tryz.results216];try rfl)))
theorem FF (w0:World) (X:List aH) (p:Ps) (l:List Ev) (b:Nat) (hl:l.length≤1000000) (hp:gq p) (hb:b<256) (R:Rt) (h:R (.ret (.tup [])) (aY X (BK p b).1 (l++(BK p b).2))):az Tryz.prog w0 217 [.own X.length 0,.int .u8 b] (aY X p l) R:=by
 unfold BK at h
 by_cases c91:b=91
 ·rw [if_pos c91] at h
  try simp only [aP] at h
  have e91:((b:Int)==91)=true:=by simp;omega
  have k0:=gR w0 X p l 3
  simp only [aY,dV,dZ] at k0
  have H:=au h
  clear h hl hp hb
  refine eN Tryz.func217 rfl Tryz.ntmps217 fun hO=>?_
  have HO:=au hO
  clear hO
  unfold aY dV dZ
  repeat' first | refine st ?_ | (refine ca ?_;apply k0) | (refine br ?_ ?_<;>intro hb) | fail
  (apply cJ HO.out H.out;(· simp);(· (simp only [go_sem, *];try rfl));(· (simp only [go_sem, *];try rfl));(· (simp only [go_sem, *,Tryz.results217];try rfl)))
 rw [if_neg c91] at h
 by_cases c93:b=93
 ·rw [if_pos c93] at h
  try simp only [aP] at h
  have e91:((b:Int)==91)=false:=by rw [beq_eq_false_iff_ne];omega
  have e93:((b:Int)==93)=true:=by simp;omega
  have k0:=gR w0 X p l 6
  simp only [aY,dV,dZ] at k0
  have H:=au h
  clear h hl hp hb
  refine eN Tryz.func217 rfl Tryz.ntmps217 fun hO=>?_
  have HO:=au hO
  clear hO
  unfold aY dV dZ
  repeat' first | refine st ?_ | (refine ca ?_;apply k0) | (refine br ?_ ?_<;>intro hb) | fail
  (apply cJ HO.out H.out;(· simp);(· (simp only [go_sem, *];try rfl));(· (simp only [go_sem, *];try rfl));(· (simp only [go_sem, *,Tryz.results217];try rfl)))
 rw [if_neg c93] at h
 by_cases c80:b=80
 ·rw [if_pos c80] at h
  try simp only [aP] at h
  have e91:((b:Int)==91)=false:=by rw [beq_eq_false_iff_ne];omega
  have e93:((b:Int)==93)=false:=by rw [beq_eq_false_iff_ne];omega
  have e80:((b:Int)==80)=true:=by simp;omega
  have k0:=gR w0 X p l 8
  simp only [aY,dV,dZ] at k0
  have H:=au h
  clear h hl hp hb
  refine eN Tryz.func217 rfl Tryz.ntmps217 fun hO=>?_
  have HO:=au hO
  clear hO
  unfold aY dV dZ
  repeat' first | refine st ?_ | (refine ca ?_;apply k0) | (refine br ?_ ?_<;>intro hb) | fail
  (apply cJ HO.out H.out;(· simp);(· (simp only [go_sem, *];try rfl));(· (simp only [go_sem, *];try rfl));(· (simp only [go_sem, *,Tryz.results217];try rfl)))
 rw [if_neg c80] at h
 by_cases c88:b=88∨b=94∨b=95
 ·rw [if_pos c88] at h
  rcases c88 with rfl | rfl | rfl
  ·
   try simp only [aP] at h
   have k0:=gR w0 X p l 13
   simp only [aY,dV,dZ] at k0
   have H:=au h
   clear h hl hp hb
   refine eN Tryz.func217 rfl Tryz.ntmps217 fun hO=>?_
   have HO:=au hO
   clear hO
   unfold aY dV dZ
   repeat' first | refine st ?_ | (refine ca ?_;apply k0) | (refine br ?_ ?_<;>intro hb) | fail
   (apply cJ HO.out H.out;(· simp);(· (simp only [go_sem, *];try rfl));(· (simp only [go_sem, *];try rfl));(· (simp only [go_sem, *,Tryz.results217];try rfl)))
  ·
   try simp only [aP] at h
   have k0:=gR w0 X p l 13
   simp only [aY,dV,dZ] at k0
   have H:=au h
   clear h hl hp hb
   refine eN Tryz.func217 rfl Tryz.ntmps217 fun hO=>?_
   have HO:=au hO
   clear hO
   unfold aY dV dZ
   repeat' first | refine st ?_ | (refine ca ?_;apply k0) | (refine br ?_ ?_<;>intro hb) | fail
   (apply cJ HO.out H.out;(· simp);(· (simp only [go_sem, *];try rfl));(· (simp only [go_sem, *];try rfl));(· (simp only [go_sem, *,Tryz.results217];try rfl)))
  ·
   try simp only [aP] at h
   have k0:=gR w0 X p l 13
   simp only [aY,dV,dZ] at k0
   have H:=au h
   clear h hl hp hb
   refine eN Tryz.func217 rfl Tryz.ntmps217 fun hO=>?_
   have HO:=au hO
   clear hO
   unfold aY dV dZ
   repeat' first | refine st ?_ | (refine ca ?_;apply k0) | (refine br ?_ ?_<;>intro hb) | fail
   (apply cJ HO.out H.out;(· simp);(· (simp only [go_sem, *];try rfl));(· (simp only [go_sem, *];try rfl));(· (simp only [go_sem, *,Tryz.results217];try rfl)))
 rw [if_neg c88] at h
 rw [not_or,not_or] at c88
 by_cases c48:b<48
 ·rw [if_pos c48] at h
  try simp only [aP] at h
  have e91:((b:Int)==91)=false:=by rw [beq_eq_false_iff_ne];omega
  have e93:((b:Int)==93)=false:=by rw [beq_eq_false_iff_ne];omega
  have e80:((b:Int)==80)=false:=by rw [beq_eq_false_iff_ne];omega
  have e88:((b:Int)==88)=false:=by rw [beq_eq_false_iff_ne];omega
  have e94:((b:Int)==94)=false:=by rw [beq_eq_false_iff_ne];omega
  have e95:((b:Int)==95)=false:=by rw [beq_eq_false_iff_ne];omega
  have d48:decide ((b:Int)<48)=true:=by simp;omega
  have k0:=gR w0 X p l 2
  have k1:=wT w0 X (cY 2) l b (bI _)
  simp only [aY,dV,dZ] at k0 k1
  have H:=au h
  clear h hl hp hb
  refine eN Tryz.func217 rfl Tryz.ntmps217 fun hO=>?_
  have HO:=au hO
  clear hO
  unfold aY dV dZ
  repeat' first | refine st ?_ | (refine ca ?_;first | apply k0 | apply k1) | (refine br ?_ ?_<;>intro hb) | fail
  (apply oB HO.out H.out;(· simp);(· (simp only [go_sem, *];try rfl));(· (simp only [go_sem, *];try rfl));(· (simp only [go_sem, *,Tryz.results217];try rfl)))
 rw [if_neg c48] at h
 have k0:=tZ w0 X p l (uy [] b) hl
 rw [show (uy [] b).av=.agg [.int .i64 3,.int .i64 0,.int .u8 0,.int .u8 b,.sval false [],.str [],.str []] from rfl] at k0
 simp only [aY,dV,dZ] at k0
 try simp only [aP] at h
 have e91:((b:Int)==91)=false:=by rw [beq_eq_false_iff_ne];omega
 have e93:((b:Int)==93)=false:=by rw [beq_eq_false_iff_ne];omega
 have e80:((b:Int)==80)=false:=by rw [beq_eq_false_iff_ne];omega
 have e88:((b:Int)==88)=false:=by rw [beq_eq_false_iff_ne];omega
 have e94:((b:Int)==94)=false:=by rw [beq_eq_false_iff_ne];omega
 have e95:((b:Int)==95)=false:=by rw [beq_eq_false_iff_ne];omega
 have d48:decide ((b:Int)<48)=false:=by simp;omega
 have H:=au h
 clear h hl hp hb
 refine eN Tryz.func217 rfl Tryz.ntmps217 fun hO=>?_
 have HO:=au hO
 clear hO
 unfold aY dV dZ
 repeat' first | refine st ?_ | (refine ca ?_;apply k0) | (refine br ?_ ?_<;>intro hb) | fail
 (apply cJ HO.out H.out;(· simp);(· (simp only [go_sem, *];try rfl));(· (simp only [go_sem, *];try rfl));(· (simp only [go_sem, *,Tryz.results217];try rfl)))
theorem I7 (w0:World) (X:List aH) (p:Ps) (l:List Ev) (b:Nat) (hl:l.length≤1000000) (hp:gq p) (hb:b<256) (R:Rt) (h:R (.ret (.tup [])) (aY X (pT p b).1 (l++(pT p b).2))):az Tryz.prog w0 218 [.own X.length 0,.int .u8 b] (aY X p l) R:=by
 unfold pT at h
 have hi:=hp.inter
 by_cases c48:b<48
 ·rw [if_pos c48] at h
  try simp only [aP] at h
  have d48:decide ((b:Int)<48)=true:=by simp;omega
  have k0:=wT w0 X p l b hi
  simp only [aY,dV,dZ] at k0
  have H:=au h
  clear h hl hp hb
  refine eN Tryz.func218 rfl Tryz.ntmps218 fun hO=>?_
  have HO:=au hO
  clear hO
  unfold aY dV dZ
  repeat' first | refine st ?_ | (refine ca ?_;apply k0) | (refine br ?_ ?_<;>intro hb) | fail
  (apply oB HO.out H.out;(· simp);(· (simp only [go_sem, *];try rfl));(· (simp only [go_sem, *];try rfl));(· (simp only [go_sem, *,Tryz.results218];try rfl)))
 rw [if_neg c48] at h
 have k0:=tZ w0 X p l (uy p.inter b) hl
 rw [show (uy p.inter b).av=.agg [.int .i64 3,.int .i64 0,.int .u8 0,.int .u8 b,.sval false [],.str p.inter,.str []] from rfl] at k0
 simp only [aY,dV,dZ] at k0
 try simp only [aP] at h
 have d48:decide ((b:Int)<48)=false:=by simp;omega
 have H:=au h
 clear h hl hp hb
 refine eN Tryz.func218 rfl Tryz.ntmps218 fun hO=>?_
 have HO:=au hO
 clear hO
 unfold aY dV dZ
 repeat' first | refine st ?_ | (refine ca ?_;apply k0) | (refine br ?_ ?_<;>intro hb) | fail
 (apply cJ HO.out H.out;(· simp);(· (simp only [go_sem, *];try rfl));(· (simp only [go_sem, *];try rfl));(· (simp only [go_sem, *,Tryz.results218];try rfl)))
theorem Da (w0:World) (X:List aH) (p:Ps) (l:List Ev) (b:Nat) (hl:l.length≤1000000) (hp:gq p) (hb:b<256) (R:Rt) (h:R (.ret (.tup [])) (aY X (lR p b).1 (l++(lR p b).2))):az Tryz.prog w0 219 [.own X.length 0,.int .u8 b] (aY X p l) R:=by
 unfold lR at h
 have hs:=hp.st
 by_cases c48:b<48
 ·rw [if_pos c48] at h
  try simp only [aP] at h
  have d48:decide ((b:Int)<48)=true:=by simp;omega
  have hw:ar.wrap ((p.st:Int)+2)=((p.st+2:Nat):Int):=by rw [ay _ (by omega)];omega
  have k0:=gR w0 X p l (p.st+2)
  have k1:=wT w0 X (cY (p.st+2)) l b (bI _)
  simp only [aY,dV,dZ] at k0 k1
  have H:=au h
  clear h hl hp hb
  refine eN Tryz.func219 rfl Tryz.ntmps219 fun hO=>?_
  have HO:=au hO
  clear hO
  unfold aY dV dZ
  repeat' first | refine st ?_ | (refine ca ?_;first | apply k0 | apply k1) | (refine br ?_ ?_<;>intro hb) | fail
  (apply cJ HO.out H.out;(· simp);(· (simp only [go_sem, *];try rfl));(· (simp only [go_sem, *];try rfl));(· (simp only [go_sem, *,Tryz.results219];try rfl)))
 rw [if_neg c48] at h
 by_cases c60:b<60
 ·rw [if_pos c60] at h
  try simp only [aP] at h
  have d48:decide ((b:Int)<48)=false:=by simp;omega
  have d60:decide ((b:Int)<60)=true:=by simp;omega
  have hw:ar.wrap ((p.st:Int)+1)=((p.st+1:Nat):Int):=by rw [ay _ (by omega)];omega
  have k0:=gR w0 X p l (p.st+1)
  have k1:=Db w0 X (cY (p.st+1)) l b hb rfl
  simp only [aY,dV,dZ] at k0 k1
  have H:=au h
  clear h hl hp hb
  refine eN Tryz.func219 rfl Tryz.ntmps219 fun hO=>?_
  have HO:=au hO
  clear hO
  unfold aY dV dZ
  repeat' first | refine st ?_ | (refine ca ?_;first | apply k0 | apply k1) | (refine br ?_ ?_<;>intro hb) | fail
  (apply cJ HO.out H.out;(· simp);(· (simp only [go_sem, *];try rfl));(· (simp only [go_sem, *];try rfl));(· (simp only [go_sem, *,Tryz.results219];try rfl)))
 rw [if_neg c60] at h
 by_cases c64:b<64
 ·rw [if_pos c64] at h
  try simp only [aP] at h
  have d48:decide ((b:Int)<48)=false:=by simp;omega
  have d60:decide ((b:Int)<60)=false:=by simp;omega
  have d64:decide ((b:Int)<64)=true:=by simp;omega
  have hw:ar.wrap ((p.st:Int)+1)=((p.st+1:Nat):Int):=by rw [ay _ (by omega)];omega
  have k0:=gR w0 X p l (p.st+1)
  simp only [aY,dV,dZ] at k0
  have H:=au h
  clear h hl hp hb
  refine eN Tryz.func219 rfl Tryz.ntmps219 fun hO=>?_
  have HO:=au hO
  clear hO
  unfold aY dV dZ
  repeat' first | refine st ?_ | (refine ca ?_;apply k0) | (refine br ?_ ?_<;>intro hb) | fail
  (apply cJ HO.out H.out;(· simp);(· (simp only [go_sem, *];try rfl));(· (simp only [go_sem, *];try rfl));(· (simp only [go_sem, *,Tryz.results219];try rfl)))
 rw [if_neg c64] at h
 try simp only [aP] at h
 have d48:decide ((b:Int)<48)=false:=by simp;omega
 have d60:decide ((b:Int)<60)=false:=by simp;omega
 have d64:decide ((b:Int)<64)=false:=by simp;omega
 have k0:=C5 w0 X p l b hl hs
 simp only [aY,dV,dZ] at k0
 have H:=au h
 clear h hl hp hb
 refine eN Tryz.func219 rfl Tryz.ntmps219 fun hO=>?_
 have HO:=au hO
 clear hO
 unfold aY dV dZ
 repeat' first | refine st ?_ | (refine ca ?_;apply k0) | (refine br ?_ ?_<;>intro hb) | fail
 (apply cJ HO.out H.out;(· simp);(· (simp only [go_sem, *];try rfl));(· (simp only [go_sem, *];try rfl));(· (simp only [go_sem, *,Tryz.results219];try rfl)))
theorem z6 (w0:World) (X:List aH) (p:Ps) (l:List Ev) (b:Nat) (hl:l.length≤1000000) (hp:gq p) (hb:b<256) (R:Rt) (h:R (.ret (.tup [])) (aY X (jr p b).1 (l++(jr p b).2))):az Tryz.prog w0 220 [.own X.length 0,.int .u8 b] (aY X p l) R:=by
 unfold jr at h
 have hs:=hp.st
 have hi:=hp.inter
 by_cases c48:b<48
 ·rw [if_pos c48] at h
  try simp only [aP] at h
  have d48:decide ((b:Int)<48)=true:=by simp;omega
  have hw:ar.wrap ((p.st:Int)+1)=((p.st+1:Nat):Int):=by rw [ay _ (by omega)];omega
  have k0:=wT w0 X { p with st:=p.st+1 } l b hi
  simp only [aY,dV,dZ] at k0
  have H:=au h
  clear h hl hp hb
  refine eN Tryz.func220 rfl Tryz.ntmps220 fun hO=>?_
  have HO:=au hO
  clear hO
  unfold aY dV dZ
  repeat' first | refine st ?_ | (refine ca ?_;apply k0) | (refine br ?_ ?_<;>intro hb) | fail
  (apply cJ HO.out H.out;(· simp);(· (simp only [go_sem, *];try rfl));(· (simp only [go_sem, *];try rfl));(· (simp only [go_sem, *,Tryz.results220];try rfl)))
 rw [if_neg c48] at h
 by_cases c60:b<60
 ·rw [if_pos c60] at h
  try simp only [aP] at h
  have d48:decide ((b:Int)<48)=false:=by simp;omega
  have d60:decide ((b:Int)<60)=true:=by simp;omega
  have k0:=Db w0 X p l b hb hp.pars
  simp only [aY,dV,dZ] at k0
  have H:=au h
  clear h hl hp hb
  refine eN Tryz.func220 rfl Tryz.ntmps220 fun hO=>?_
  have HO:=au hO
  clear hO
  unfold aY dV dZ
  repeat' first | refine st ?_ | (refine ca ?_;apply k0) | (refine br ?_ ?_<;>intro hb) | fail
  (apply cJ HO.out H.out;(· simp);(· (simp only [go_sem, *];try rfl));(· (simp only [go_sem, *];try rfl));(· (simp only [go_sem, *,Tryz.results220];try rfl)))
 rw [if_neg c60] at h
 by_cases c64:b<64
 ·rw [if_pos c64] at h
  try simp only [aP] at h
  have d48:decide ((b:Int)<48)=false:=by simp;omega
  have d60:decide ((b:Int)<60)=false:=by simp;omega
  have d64:decide ((b:Int)<64)=true:=by simp;omega
  have k0:=rX w0 X p l
  simp only [aY,dV,dZ] at k0
  have H:=au h
  clear h hl hp hb
  refine eN Tryz.func220 rfl Tryz.ntmps220 fun hO=>?_
  have HO:=au hO
  clear hO
  unfold aY dV dZ
  repeat' first | refine st ?_ | (refine ca ?_;apply k0) | (refine br ?_ ?_<;>intro hb) | fail
  (apply cJ HO.out H.out;(· simp);(· (simp only [go_sem, *];try rfl));(· (simp only [go_sem, *];try rfl));(· (simp only [go_sem, *,Tryz.results220];try rfl)))
 rw [if_neg c64] at h
 try simp only [aP] at h
 have d48:decide ((b:Int)<48)=false:=by simp;omega
 have d60:decide ((b:Int)<60)=false:=by simp;omega
 have d64:decide ((b:Int)<64)=false:=by simp;omega
 have k0:=C5 w0 X p l b hl hs
 simp only [aY,dV,dZ] at k0
 have H:=au h
 clear h hl hp hb
 refine eN Tryz.func220 rfl Tryz.ntmps220 fun hO=>?_
 have HO:=au hO
 clear hO
 unfold aY dV dZ
 repeat' first | refine st ?_ | (refine ca ?_;apply k0) | (refine br ?_ ?_<;>intro hb) | fail
 (apply cJ HO.out H.out;(· simp);(· (simp only [go_sem, *];try rfl));(· (simp only [go_sem, *];try rfl));(· (simp only [go_sem, *,Tryz.results220];try rfl)))
theorem z7 (w0:World) (X:List aH) (p:Ps) (l:List Ev) (b:Nat) (hl:l.length≤1000000) (hp:gq p) (hb:b<256) (R:Rt) (h:R (.ret (.tup [])) (aY X (kS p b).1 (l++(kS p b).2))):az Tryz.prog w0 221 [.own X.length 0,.int .u8 b] (aY X p l) R:=by
 unfold kS at h
 have hs:=hp.st
 have hi:=hp.inter
 by_cases c48:b<48
 ·rw [if_pos c48] at h
  try simp only [aP] at h
  have d48:decide ((b:Int)<48)=true:=by simp;omega
  have k0:=wT w0 X p l b hi
  simp only [aY,dV,dZ] at k0
  have H:=au h
  clear h hl hp hb
  refine eN Tryz.func221 rfl Tryz.ntmps221 fun hO=>?_
  have HO:=au hO
  clear hO
  unfold aY dV dZ
  repeat' first | refine st ?_ | (refine ca ?_;apply k0) | (refine br ?_ ?_<;>intro hb) | fail
  (apply cJ HO.out H.out;(· simp);(· (simp only [go_sem, *];try rfl));(· (simp only [go_sem, *];try rfl));(· (simp only [go_sem, *,Tryz.results221];try rfl)))
 rw [if_neg c48] at h
 by_cases c64:b<64
 ·rw [if_pos c64] at h
  try simp only [aP] at h
  have d48:decide ((b:Int)<48)=false:=by simp;omega
  have d64:decide ((b:Int)<64)=true:=by simp;omega
  have k0:=rX w0 X p l
  simp only [aY,dV,dZ] at k0
  have H:=au h
  clear h hl hp hb
  refine eN Tryz.func221 rfl Tryz.ntmps221 fun hO=>?_
  have HO:=au hO
  clear hO
  unfold aY dV dZ
  repeat' first | refine st ?_ | (refine ca ?_;apply k0) | (refine br ?_ ?_<;>intro hb) | fail
  (apply cJ HO.out H.out;(· simp);(· (simp only [go_sem, *];try rfl));(· (simp only [go_sem, *];try rfl));(· (simp only [go_sem, *,Tryz.results221];try rfl)))
 rw [if_neg c64] at h
 try simp only [aP] at h
 have d48:decide ((b:Int)<48)=false:=by simp;omega
 have d64:decide ((b:Int)<64)=false:=by simp;omega
 have k0:=C5 w0 X p l b hl hs
 simp only [aY,dV,dZ] at k0
 have H:=au h
 clear h hl hp hb
 refine eN Tryz.func221 rfl Tryz.ntmps221 fun hO=>?_
 have HO:=au hO
 clear hO
 unfold aY dV dZ
 repeat' first | refine st ?_ | (refine ca ?_;apply k0) | (refine br ?_ ?_<;>intro hb) | fail
 (apply cJ HO.out H.out;(· simp);(· (simp only [go_sem, *];try rfl));(· (simp only [go_sem, *];try rfl));(· (simp only [go_sem, *,Tryz.results221];try rfl)))
def rI:AV:=.agg [.fn (.func 216) [] [],.fn (.func 217) [] [],.fn (.func 218) [] [],.fn (.func 219) [] [],.fn (.func 220) [] [],.fn (.func 221) [] [],.fnil,.fnil,.fn (.func 219) [] [],.fn (.func 220) [] [],.fn (.func 221) [] [],.fnil,.fnil,.fnil,.fnil]
theorem oY (w0:World) (S:List aH) (R:Rt) (h:R (.ret rI) S):az Tryz.prog w0 171 [] S R:=by
 unfold rI at h
 have H:=au h
 clear h
 refine eN Tryz.func171 rfl Tryz.ntmps171 fun hO=>?_
 repeat' first | refine st ?_ | (refine br ?_ ?_<;>intro hb) | fail
 refine fR Tryz.results171 ?_
 exact H.out
theorem Fa (w0:World) (X:List aH) (p:Ps) (l:List Ev) (b:Nat) (hl:l.length≤1000000) (hp:gq p) (hb:b<256) (R:Rt) (h:R (.ret (.tup [])) (aY X (jY p b).1 (l++(jY p b).2))):az Tryz.prog w0 169 [.own X.length 0,.int .u8 b] (aY X p l) R:=by
 have hs:=hp.st
 have ht:=hp.text
 unfold jY at h
 by_cases c1:b=7∧p.st=6
 ·rw [if_pos c1] at h
  have e7:((b:Int)==7)=true:=by simp;omega
  have e6:((p.st:Int)==6)=true:=by simp;omega
  have k0:=tZ w0 X p l (ux p) hl
  rw [show (ux p).av=.agg [.int .i64 5,.int .i64 0,.int .u8 0,.int .u8 0,.sval false [],.str [],.str p.text] from rfl] at k0
  simp only [aY,dV,dZ] at k0
  have H:=au h
  clear h hl hp hb c1
  refine eN Tryz.func169 rfl Tryz.ntmps169 fun hO=>?_
  have HO:=au hO
  clear hO
  unfold aY dV dZ
  repeat' first | refine st ?_ | (refine ca ?_;apply k0) | (refine br ?_ ?_<;>intro hb) | fail
  (apply cJ HO.out H.out;(· simp);(· (simp only [go_sem, *];try rfl));(· (simp only [go_sem, *];try rfl));(· (simp only [go_sem, *,Tryz.results169];try rfl)))
 rw [if_neg c1] at h
 have f7:((b:Int)==7)=false∨((b:Int)==7)=true∧((p.st:Int)==6)=false:=by
  simp only [beq_eq_false_iff_ne,beq_iff_eq]
  omega
 have e67:∃ u:Bool,((p.st:Int)==6)=u:=⟨_,rfl⟩
 by_cases c2:b<32∨b=127∨p.st=13∨p.bad=true
 ·rw [if_pos c2] at h
  simp only [aP] at h
  have c3:(decide ((b:Int)<32)=true)∨(decide ((b:Int)<32)=false∧((b:Int)==127)=true)∨(decide ((b:Int)<32)=false∧((b:Int)==127)=false∧((p.st:Int)==13)=true)∨(decide ((b:Int)<32)=false∧((b:Int)==127)=false∧((p.st:Int)==13)=false∧p.bad=true):=by
   simp only [beq_eq_false_iff_ne,beq_iff_eq,decide_eq_true_eq,decide_eq_false_iff_not]
   by_cases g1:b<32
   ·left;omega
   by_cases g2:b=127
   ·right;left;omega
   by_cases g3:p.st=13
   ·right;right;left;omega
   ·right;right;right
    have g4:p.bad=true:=by simpa [g1,g2,g3] using c2
    exact⟨by omega,by omega,by omega,g4⟩
  have H:=au h
  clear h hl hp hb c1 c2 hs ht
  clear e67
  obtain⟨s0,utf,pv,fn,pars,inter,text,bad⟩:=p
  simp only at c3 f7
  rcases c3 with d1 | ⟨d1,d2⟩ | ⟨d1,d2,d3⟩ | ⟨d1,d2,d3,rfl⟩<;>rcases f7 with f7 | ⟨f7,f6⟩
  all_goals
   refine eN Tryz.func169 rfl Tryz.ntmps169 fun hO=>?_
   have HO:=au hO
   clear hO
   simp only [aY,dV,dZ]
   repeat' first | refine st ?_ | (refine br ?_ ?_<;>intro hb) | fail
   (apply cJ HO.out H.out;(· simp);(· (simp only [go_sem, *];try rfl));(· (simp only [go_sem, *];try rfl));(· (simp only [go_sem, *,Tryz.results169];try rfl)))
 rw [if_neg c2] at h
 rw [not_or,not_or,not_or] at c2
 obtain⟨g1,g2,g3,g4⟩:=c2
 have d1:decide ((b:Int)<32)=false:=by simp;omega
 have d2:((b:Int)==127)=false:=by rw [beq_eq_false_iff_ne];omega
 have d3:((p.st:Int)==13)=false:=by rw [beq_eq_false_iff_ne];omega
 have d4:p.bad=false:=by simpa using g4
 by_cases c5:p.text.length=512
 ·rw [if_pos c5] at h
  simp only [aP] at h
  clear e67
  have d5:((p.text.length:Int)==512)=true:=by simp;omega
  have k0:=rX w0 X p l
  have H:=au h
  simp only [aY,dV,dZ] at k0
  clear h hl hp hb c1 g1 g2 g3 g4 c5 hs ht
  rcases f7 with f7 | ⟨f7,f6⟩
  all_goals
   refine eN Tryz.func169 rfl Tryz.ntmps169 fun hO=>?_
   have HO:=au hO
   clear hO
   unfold aY dV dZ
   rw [d4] at k0 ⊢
   repeat' first | refine st ?_ | (refine ca ?_;apply k0) | (refine br ?_ ?_<;>intro hb) | fail
   (apply cJ HO.out H.out;(· simp);(· (simp only [go_sem, *];try rfl));(· (simp only [go_sem, *];try rfl));(· (simp only [go_sem, *,Tryz.results169];try rfl)))
 ·rw [if_neg c5] at h
  simp only [aP] at h
  have d5:((p.text.length:Int)==512)=false:=by rw [beq_eq_false_iff_ne];omega
  have d6:p.text.length+1≤9223372036854775807:=by omega
  have H:=au h
  clear h hl hp hb c1 g1 g2 g3 g4 c5 hs ht
  rcases f7 with f7 | ⟨f7,f6⟩
  all_goals
   refine eN Tryz.func169 rfl Tryz.ntmps169 fun hO=>?_
   have HO:=au hO
   clear hO
   unfold aY dV dZ
   rw [d4]
   repeat' first | refine st ?_ | (refine br ?_ ?_<;>intro hb) | refine sd ?_ | refine sx ?_ | apply aE | (apply aO;(· decide +kernel)) | refine bd ?_ ?_ | fail
   (apply cJ HO.out H.out;(· simp);(· (simp only [go_sem, *];try rfl));(· (simp only [go_sem, *];try rfl));(· (simp only [go_sem, *,Tryz.results169];try rfl)))
def dY (p:Ps) (b:Nat):Prop:=¬ (p.st=0∧(p.utf≠[]∨128≤b))
theorem iM {p:Ps}{b:Nat} (h:dY p b):(((p.st:Int)==0)=true∧decide ((0:Int)<(p.utf.length:Int))=false∧decide ((128:Int)≤(b:Int))=false∧((p.st:Int)==6)=false∧((p.st:Int)==11)=false∧((p.st:Int)==13)=false)∨((p.st:Int)==0)=false:=by
 unfold dY at h
 simp only [beq_iff_eq,beq_eq_false_iff_ne,decide_eq_false_iff_not]
 by_cases h0:p.st=0
 ·left
  have h1:¬ (p.utf≠[]∨128≤b):=fun h'=>h ⟨h0,h'⟩
  rw [not_or] at h1
  have h2:p.utf=[]:=Classical.not_not.1 h1.1
  have h3:p.utf.length=0:=by rw [h2];rfl
  omega
 ·right;omega
theorem km (n:Nat):(fQ n=true∧(((n:Int)==6)=true∨(((n:Int)==6)=false∧((n:Int)==11)=true)∨(((n:Int)==6)=false∧((n:Int)==11)=false∧((n:Int)==13)=true)))∨(fQ n=false∧((n:Int)==6)=false∧((n:Int)==11)=false∧((n:Int)==13)=false):=by
 unfold fQ
 simp only [beq_iff_eq,beq_eq_false_iff_ne,fc,cy]
 omega
theorem vU {n:Nat} (h:i_ n=false):((n:Int)==7)=false∧((n:Int)==12)=false∧((n:Int)==14)=false:=by
 unfold i_ at h
 simp only [beq_eq_false_iff_ne,cy] at h ⊢
 omega
theorem Fq (w0:World) (X:List aH) (p:Ps) (l:List Ev) (b:Nat) (hl:l.length≤1000000) (hp:gq p) (hb:b<256) (hn:dY p b) (hc:b=24∨b=26) (R:Rt) (h:R (.ret (.tup [])) (aY X (cY 0) l)):az Tryz.prog w0 82 [.own X.length 0,.int .u8 b] (aY X p l) R:=by
 have c1:=iM hn
 have c2:=km p.st
 have c3:((b:Int)==24)=true∨((b:Int)==24)=false∧((b:Int)==26)=true:=by simp only [beq_iff_eq,beq_eq_false_iff_ne];omega
 have k0:=gR w0 X p l 0
 simp only [aY,dV,dZ] at k0
 have H:=au h
 clear h hl hp hb hn hc
 rcases c3 with c3 | ⟨c3,c4⟩<;>rcases c2 with⟨_,c2 | ⟨c5,c2⟩ | ⟨c5,c6,c2⟩⟩ | ⟨_,c5,c6,c7⟩<;>rcases c1 with⟨c8,c9,c10,c11,c12,c13⟩ | c8
 all_goals first
  | (rw [c2] at c11;cases c11;done)
  | (rw [c2] at c12;cases c12;done)
  | (rw [c2] at c13;cases c13;done)
  | skip
 all_goals
  refine eN Tryz.func82 rfl Tryz.ntmps82 fun hO=>?_
  have HO:=au hO
  clear hO
  unfold aY dV dZ
  repeat' first | refine st ?_ | (refine ca ?_;apply k0) | (refine br ?_ ?_<;>intro hb) | fail
  (apply cJ HO.out H.out;(· simp);(· (simp only [go_sem, *];try rfl));(· (simp only [go_sem, *];try rfl));(· (simp only [go_sem, *,Tryz.results82];try rfl)))
theorem Fp (w0:World) (X:List aH) (p:Ps) (l:List Ev) (b:Nat) (hl:l.length≤1000000) (hp:gq p) (hb:b<256) (hn:dY p b) (hc:b=27) (ht:fQ p.st=true) (R:Rt) (h:R (.ret (.tup [])) (aY X { p with st:=p.st+1 } l)):az Tryz.prog w0 82 [.own X.length 0,.int .u8 b] (aY X p l) R:=by
 have c1:((p.st:Int)==0)=false:=by rw [beq_eq_false_iff_ne];unfold fQ at ht;simp only [fc,beq_iff_eq] at ht;omega
 have c2:=km p.st
 have hs:=hp.st
 have hw:ar.wrap ((p.st:Int)+1)=((p.st+1:Nat):Int):=by rw [ay _ (by omega)];omega
 subst hc
 have H:=au h
 clear h hl hp hb hn hs
 rcases c2 with⟨_,c2 | ⟨c5,c2⟩ | ⟨c5,c6,c2⟩⟩ | ⟨c2,_⟩
 rotate_right
 ·rw [ht] at c2;cases c2
 all_goals
  refine eN Tryz.func82 rfl Tryz.ntmps82 fun hO=>?_
  have HO:=au hO
  clear hO
  unfold aY dV dZ
  repeat' first | refine st ?_ | (refine br ?_ ?_<;>intro hb) | fail
  (apply cJ HO.out H.out;(· simp);(· (simp only [go_sem, *];try rfl));(· (simp only [go_sem, *];try rfl));(· (simp only [go_sem, *,Tryz.results82];try rfl)))
theorem Fo (w0:World) (X:List aH) (p:Ps) (l:List Ev) (b:Nat) (hl:l.length≤1000000) (hp:gq p) (hb:b<256) (hn:dY p b) (hc:b=27) (ht:fQ p.st=false) (R:Rt) (h:R (.ret (.tup [])) (aY X (cY 1) l)):az Tryz.prog w0 82 [.own X.length 0,.int .u8 b] (aY X p l) R:=by
 have c1:=iM hn
 have c2:=km p.st
 have k0:=gR w0 X p l 1
 simp only [aY,dV,dZ] at k0
 subst hc
 have H:=au h
 clear h hl hp hb hn
 rcases c2 with⟨c2,_⟩ | ⟨_,c5,c6,c7⟩
 ·rw [ht] at c2;cases c2
 rcases c1 with⟨c8,c9,_⟩ | c8
 all_goals
  refine eN Tryz.func82 rfl Tryz.ntmps82 fun hO=>?_
  have HO:=au hO
  clear hO
  unfold aY dV dZ
  repeat' first | refine st ?_ | (refine ca ?_;apply k0) | (refine br ?_ ?_<;>intro hb) | fail
  (apply cJ HO.out H.out;(· simp);(· (simp only [go_sem, *];try rfl));(· (simp only [go_sem, *];try rfl));(· (simp only [go_sem, *,Tryz.results82];try rfl)))
theorem Fm (w0:World) (X:List aH) (p:Ps) (l:List Ev) (b:Nat) (hl:l.length≤1000000) (hp:gq p) (hb:b<256) (hn:dY p b) (hc:b≠24∧b≠26∧b≠27) (ht:fQ p.st=true) (R:Rt) (h:R (.ret (.tup [])) (aY X (jY p b).1 (l++(jY p b).2))):az Tryz.prog w0 82 [.own X.length 0,.int .u8 b] (aY X p l) R:=by
 have c1:((p.st:Int)==0)=false∧((p.st:Int)==7)=false∧((p.st:Int)==12)=false∧((p.st:Int)==14)=false:=by simp only [beq_eq_false_iff_ne];unfold fQ at ht;simp only [fc,beq_iff_eq] at ht;omega
 obtain⟨q1,q2,q3,q4⟩:=c1
 have c2:=km p.st
 have e24:((b:Int)==24)=false:=by rw [beq_eq_false_iff_ne];omega
 have e26:((b:Int)==26)=false:=by rw [beq_eq_false_iff_ne];omega
 have e27:((b:Int)==27)=false:=by rw [beq_eq_false_iff_ne];omega
 have k0:=Fa w0 X p l b hl hp hb
 simp only [aY,dV,dZ] at k0
 have H:=au h
 clear h hl hp hb hn hc
 rcases c2 with⟨_,c2 | ⟨c5,c2⟩ | ⟨c5,c6,c2⟩⟩ | ⟨c2,_⟩
 rotate_right
 ·rw [ht] at c2;cases c2
 all_goals
  refine eN Tryz.func82 rfl Tryz.ntmps82 fun hO=>?_
  have HO:=au hO
  clear hO
  unfold aY dV dZ
  repeat' first | refine st ?_ | (refine ca ?_;apply k0) | (refine br ?_ ?_<;>intro hb) | fail
  (apply cJ HO.out H.out;(· simp);(· (simp only [go_sem, *];try rfl));(· (simp only [go_sem, *];try rfl));(· (simp only [go_sem, *,Tryz.results82];try rfl)))
theorem Fl (w0:World) (X:List aH) (p:Ps) (l:List Ev) (b:Nat) (hl:l.length≤1000000) (hp:gq p) (hb:b<256) (hn:dY p b) (hc:b≠24∧b≠26∧b≠27) (hc2:b<32) (ht:fQ p.st=false) (he:i_ p.st=false) (R:Rt) (h:R (.ret (.tup [])) (aY X p (l++if p.st≤5 then [xD b] else []))):az Tryz.prog w0 82 [.own X.length 0,.int .u8 b] (aY X p l) R:=by
 have c1:=iM hn
 have c2:=km p.st
 obtain⟨q2,q3,q4⟩:=vU he
 rcases c2 with⟨c2,_⟩ | ⟨_,c5,c6,c7⟩
 ·rw [ht] at c2;cases c2
 have e24:((b:Int)==24)=false:=by rw [beq_eq_false_iff_ne];omega
 have e26:((b:Int)==26)=false:=by rw [beq_eq_false_iff_ne];omega
 have e27:((b:Int)==27)=false:=by rw [beq_eq_false_iff_ne];omega
 have d128:decide ((128:Int)≤(b:Int))=false:=by simp;omega
 have d32:decide ((b:Int)<32)=true:=by simp;omega
 have hw:ar.wrap (b:Int)=(b:Int):=ay _ (by omega)
 have k0:=zZ w0 X p l (xD b) hl
 rw [show (xD b).av=.agg [.int .i64 2,.int .i64 b,.int .u8 0,.int .u8 0,.sval false [],.str [],.str []] from rfl] at k0
 simp only [aY,dV,dZ] at k0
 by_cases h5:p.st≤5
 ·rw [if_pos h5] at h
  have d5:decide ((p.st:Int)≤5)=true:=by simp;omega
  have H:=au h
  clear h hl hp hb hn hc hc2 h5
  rcases c1 with⟨c8,c9,_⟩ | c8
  all_goals
   refine eN Tryz.func82 rfl Tryz.ntmps82 fun hO=>?_
   have HO:=au hO
   clear hO
   unfold aY dV dZ
   repeat' first | refine st ?_ | (refine ca ?_;apply k0) | (refine br ?_ ?_<;>intro hb) | fail
   (apply cJ HO.out H.out;(· simp);(· (simp only [go_sem, *];try rfl));(· (simp only [go_sem, *];try rfl));(· (simp only [go_sem, *,Tryz.results82];try rfl)))
 ·rw [if_neg h5,aP] at h
  have d5:decide ((p.st:Int)≤5)=false:=by simp;omega
  have H:=au h
  clear h hl hp hb hn hc hc2 h5
  rcases c1 with⟨c8,c9,_⟩ | c8
  all_goals
   refine eN Tryz.func82 rfl Tryz.ntmps82 fun hO=>?_
   have HO:=au hO
   clear hO
   unfold aY dV dZ
   repeat' first | refine st ?_ | (refine br ?_ ?_<;>intro hb) | fail
   (apply cJ HO.out H.out;(· simp);(· (simp only [go_sem, *];try rfl));(· (simp only [go_sem, *];try rfl));(· (simp only [go_sem, *,Tryz.results82];try rfl)))
theorem Fk (w0:World) (X:List aH) (p:Ps) (l:List Ev) (b:Nat) (hl:l.length≤1000000) (hp:gq p) (hb:b<256) (hn:dY p b) (hc:b=127) (ht:fQ p.st=false) (he:i_ p.st=false) (R:Rt) (h:R (.ret (.tup [])) (aY X p l)):az Tryz.prog w0 82 [.own X.length 0,.int .u8 b] (aY X p l) R:=by
 have c1:=iM hn
 have c2:=km p.st
 obtain⟨q2,q3,q4⟩:=vU he
 rcases c2 with⟨c2,_⟩ | ⟨_,c5,c6,c7⟩
 ·rw [ht] at c2;cases c2
 subst hc
 have H:=au h
 clear h hl hp hb hn
 rcases c1 with⟨c8,c9,_⟩ | c8
 all_goals
  refine eN Tryz.func82 rfl Tryz.ntmps82 fun hO=>?_
  have HO:=au hO
  clear hO
  unfold aY dV dZ
  repeat' first | refine st ?_ | (refine br ?_ ?_<;>intro hb) | fail
  (apply cJ HO.out H.out;(· simp);(· (simp only [go_sem, *];try rfl));(· (simp only [go_sem, *];try rfl));(· (simp only [go_sem, *,Tryz.results82];try rfl)))
end Go.Proofs.YthdbijpefkapnaaGreatDoor
