/- YthdbijpefkapnaaGreatDoorWalk3: a part of the proof. -/
import Derived.Test.YthdbijpefkapnaaGreatDoorWalk1
import Derived.Test.YthdbijpefkapnaaGreatDoorWalk0
import Derived.Test.YthdbijpefkapnaaGreatDoorCore3
set_option linter.all false
set_option maxHeartbeats 40000000
open And renaming intro → a6
open Bool renaming and_false → b_, and_true → cu, eq_iff_iff → eB, false_and → bK, false_or → vH, not_eq_false' → aE, not_eq_true' → aw, not_false → bM, not_true → b9, true_and → bL
open Go.IntKind renaming i64 → ae
open Go.IntWalk renaming i64_in → ah
open Go.Lib renaming hid → ab
open Int renaming le_refl → Eu
open List renaming all_eq_true → aC, cons_append → ft, drop_eq_getElem_cons → p9, drop_eq_nil_of_le → Es, getElem?_eq_getElem → al, getElem?_eq_some_iff → af, getElem?_map → aI, length_append → ai, length_cons → aB, length_eq_zero_iff → j_, length_map → be, map → bx, map_append → aY, map_cons → ap, map_nil → aq, mem_append → cH, mem_cons_self → dk, mem_map → aM, mem_of_getElem? → ax, mem_singleton → bk, nil_append → fS, take → pi, take_add_one → sC, take_length → bt, take_of_length_le → dV, take_succ_cons → aZ, take_zero → aP, toList_toArray → bg
open Nat renaming add_mul → eu, le_succ_of_le → s_, le_trans → eT, lt_or_ge → jx, mul_assoc → pm, mul_le_mul_right → bG, mul_right_comm → kI, pow_le_pow_right → gw, pow_succ → lS, zero_le → bf
open UInt8 renaming toNat → aJ
namespace Go.Proofs.YthdbijpefkapnaaGreatDoor
open Go Go.Fen Go.Proofs.Tryz
attribute [local irreducible] aW WP aj dS jl cQ aV cV
set_option maxRecDepth 8000
variable (w0:World) (S:List aH)
def cB(s:List Int):AV:=.agg [.sval false (s.map eE)]
theorem Bp(s:List Int):(cB s).plain=true:=by simp only [cB,go_sem,eE.plainL]
theorem Ka(n:Nat)(s:List Int):(cB s).lt n=true:=by simp only [cB,go_sem,eE.ltL]
@[go_sem] theorem cB.plainL(l:List (List Int)):plainL (l.map cB)=true:=fA Bp l
@[go_sem] theorem cB.ltL(l:List (List Int))(n:Nat):ltL n (l.map cB)=true:=db.2 fun x hx=>by obtain⟨y,_,rfl⟩:=aM.1 hx;exact Ka n y
@[go_sem] theorem cB.ok(l:List (List Int)):cN 1 (l.map cB)=true:=by
 unfold cN;rw [aC];intro x hx;obtain⟨y,_,rfl⟩:=aM.1 hx;rfl
attribute [go_sem] cB eE
def lP(n:Int):Bool:=decide (n < -1)||decide (9999<n)
def iw(s:List Int):Bool:=s.length==0||(decide (6<s.length)||s.any lP)
def dQ(l:List (List Int)):Bool:=decide (l.length≤16)&&(!(l==[[-1]])&&!l.any iw)
def oz(l:List (List Int)):Int:=if dQ l then 0 else 150
theorem KN(n:Int)(R:Rt)(h:R (.ret (.bool (lP n))) S):aj prog w0 78 [.int .i64 n] S R:=by
 unfold lP at h
 cases hd:decide (n < -1)<;>rw [hd] at h
 all_goals
  refine eN func78 rfl ntmps78 fun hO=>?_
  repeat' first|refine st ?_|(refine br ?_ ?_<;>intro hb)|fail
  refine fR results78 ?_
  first|exact h|(simpa using h)
theorem l8{α:Type}{p:α→Bool}{l:List α}{k:Nat}{x:α}(hx:l[k]? = some x)(h:(l.take k).any p=false)(hp:p x=false):(l.take (k+1)).any p=false:=by
 rw [sC,hx]
 simp [h,hp]
theorem pZ{α:Type}{p:α→Bool}{l:List α}{k:Nat}{x:α}(hx:l[k]? = some x)(hp:p x=true):l.any p=true :=
 List.any_eq_true.2 ⟨x,ax hx,hp⟩
theorem FH(s:List Int)(hs:s.length≤1000000)(R:Rt)(h:∀ i:Int,decide (0≤i)=s.any lP→R (.ret (.int .i64 i)) S):aj prog w0 159 [.sval false (s.map eE),.fn (.func 78) [] []] S R:=by
 have hb:=KN w0
 refine eN func159 rfl ntmps159 fun hO=>?_
 repeat' first|refine st ?_|(refine br ?_ ?_<;>intro hb)|fail
 refine cW (fun (k:Nat) env S'=>k≤s.length∧(s.take k).any lP=false∧env 1000000=.dfr []∧env 0=.sval false (s.map eE)∧env 1=.fn (.func 78) [] []∧env 7=.int .i64 s.length∧env 8=.int .i64 (k:Int)∧S'=S) (fun k=>s.length - k) 0 ?_ ?_
 ·exact⟨bf _,by simp,ss,ss,ss,ss,ss,rfl⟩
 ·rintro k env S' ⟨hk,hp,e0,f0,f1,f7,f8,rfl⟩ IH
  have HI:=ab IH
  have H:=ab h
  clear IH h
  by_cases hlt:k<s.length
  ·obtain⟨x,hx⟩:∃ x,s[k]? = some x:=⟨_,al hlt⟩
   have h1:decide ((k:Int)<(s.length:Int))=true:=by simpa using hlt
   have hw:ae.wrap ((k:Int)+1)=((k+1:Nat):Int):=by rw [ah _ (by omega)];omega
   have hpx:=hb
   cases hbx:lP x with
   | true =>
    have hh:=H.out (k:Int) (by rw [pZ hx hbx];simp)
    have hb':=fun S'=>hb S' x
    rw [hbx] at hb'
    clear hk hp hlt HI hb hpx
    repeat' first|refine st ?_|(refine ca ?_;apply hb')|(refine br ?_ ?_<;>intro hb)|fail
    refine fR results159 ?_
    exact hh
   | false =>
    have hb':=fun S'=>hb S' x
    rw [hbx] at hb'
    have Hn:=ab (l8 hx hp hbx)
    have Hlt:=ab hlt
    clear hk hp hlt hb hpx hbx
    repeat' first|refine st ?_|(refine ca ?_;apply hb')|(refine br ?_ ?_<;>intro hb)|fail
    refine HI.out (k+1) _ _ (by have:=Hlt.out;omega) ⟨Hlt.out,Hn.out, ?_, ?_, ?_, ?_, ?_,rfl⟩
    all_goals (simp only [go_sem, *];try rfl)
  ·have h1:decide ((k:Int)<(s.length:Int))=false:=by simpa using hlt
   have hk':k=s.length:=by omega
   rw [hk',bt] at hp
   have hh:=H.out (-1) (by rw [hp];decide)
   clear hlt hk hk' HI hp
   repeat' first|refine st ?_|(refine br ?_ ?_<;>intro hb)|fail
   refine fR results159 ?_
   exact hh
theorem Ja(s:List Int)(hs:s.length≤1000000)(R:Rt)(h:R (.ret (.bool (s.any lP))) S):aj prog w0 77 [.sval false (s.map eE),.fn (.func 78) [] []] S R:=by
 have hi:=fun S'=>FH w0 S' s hs
 generalize s.any lP=b at h hi
 refine eN func77 rfl ntmps77 fun hO=>?_
 repeat' first|refine st ?_|(refine ca ?_;apply hi)|(refine br ?_ ?_<;>intro hb)|fail
 intro i hi2
 repeat' first|refine st ?_|(refine br ?_ ?_<;>intro hb)|fail
 refine fR results77 ?_
 exact h
theorem KM(s:List Int)(hs:s.length≤1000000)(R:Rt)(h:R (.ret (.bool (iw s))) S):aj prog w0 76 [cB s] S R:=by
 have hc:=fun S'=>Ja w0 S' s hs
 unfold iw at h
 unfold cB
 have e1:((s.length:Int)==0)=(s.length==0):=by rw [eB];simp
 have e2:decide ((6:Int)<(s.length:Int))=decide (6<s.length):=by rw [eB];simp;omega
 cases d1:s.length==0<;>cases d2:decide (6<s.length)<;>rw [d1,d2] at h<;>rw [d1] at e1<;>rw [d2] at e2<;>clear d1 d2 hs
 all_goals
  refine eN func76 rfl ntmps76 fun hO=>?_
  repeat' first|refine st ?_|(refine ca ?_;apply hc)|(refine br ?_ ?_<;>intro hb)|fail
  refine fR results76 ?_
  first|exact h|(simpa using h)
theorem Ik(s:List UInt8)(hs:s.length≤100000000)(R:Rt)(h:R (.ret (.sval false ((dN s).map Co))) S):aj prog w0 186 [.str s] S R:=by
 have hlen:=(pU s).2
 refine eN func186 rfl ntmps186 fun hO=>?_
 repeat' first|refine st ?_|(refine ca ?_;apply Kh)|(refine br ?_ ?_<;>intro hb)|fail
 refine mL (a:=S.length) (j:=0) 3 1 ss ss (by decide) ?_
 simp only [go_sem, *]
 apply vN [2]
 ·(simp only [go_sem, *,Hu];try rfl)
 ·(simp only [go_sem, *];try rfl)
 ·rfl
 ·(simp only [go_sem, *];try rfl)
 ·(simp only [go_sem, *];try rfl)
 intro LB hLB
 have hLB2:∀ m,LB.ltB (S.length+(1+m))=true:=by intro m;rw [hLB];(simp only [go_sem, *];try rfl);simp;omega
 have HLB:=ab hLB
 clear hLB
 refine Ij w0 s hs (S.length+3) (S.length+4) (by simp) (fun k S'=>S'=S++[aH.cells [AV.sown (S.length+1) k k],aH.arr 3 1 0 k (((dN s).take k).map Co),aH.obj (Obj.deferred (some [])),LB]) ?_ ?_ _ ?_ _ ?_
 ·rintro k _ rfl
  have h7:=hLB2 3
  clear h
  refine⟨by simp,bD.app hO ?_⟩
  (simp only [go_sem, *];try rfl)
 ·rintro k _ c rfl hx E R' hR1
  have hkl:k<(dN s).length:=(af.1 hx).1
  have hlk:((dN s).take k).length=k:=by simp;omega
  have hb:(k+1) * 8≤140737488355328:=by omega
  have htk:(dN s).take (k+1)=(dN s).take k++[c]:=by rw [sC,hx];rfl
  clear h hkl hlen
  apply vM HLB.out
  ·(simp only [go_sem, *];try rfl)
  ·rfl
  ·decide
  ·rfl
  ·rfl
  ·(simp only [go_sem, *];try rfl)
  intro rb BB hBB
  have HBB:=ab hBB
  clear hBB
  repeat' first|apply fK|apply eg|apply dx|apply eh|apply fL|apply bU|apply fQ|apply bW|apply bJ|apply cE|apply bV|apply bI|apply bo|apply fO|(apply bp;(· rfl))|(apply cC;simp only [bg])|(apply dq;(· rfl);(· simp only [go_sem, *,Co];try rfl);(· rfl);simp only [putA])|(apply eo;simp only [putA])|apply cF|(apply dr;(· simp only [go_sem, *,Co];try rfl);(· rfl);(· simp only [go_sem, *,Co];try rfl))|(apply dF;(iterate 2 (· simp only [go_sem, *,Co];try rfl));(· rfl);simp only [putA])|(apply bH;(· simp only [go_sem, *,Co];try rfl);(· rfl);simp only [putA])|(apply dt;(· simp only [go_sem, *,Co];try rfl))|(apply dw;(· simp only [go_sem, *,Co];try rfl))|(apply cD;(· rfl);(fail_if_success (focus (show _=some true;(· simp only [go_sem, *,Co];try rfl))));(· simp only [go_sem, *,Co];try rfl);all_goals (intro hb;try simp only [aw,aE] at hb))|(apply du;(· simp only [go_sem, *,Co];try rfl);all_goals (intro hb;try simp only [aw,aE] at hb))|fail
  apply vL
  ·(simp only [go_sem, *];try rfl)
  ·(simp only [go_sem, *];try rfl)
  have okC:=Co.ok ((dN s).take k)
  simp only [cN,AV.cells] at okC
  repeat' first|apply fK|apply eg|apply dx|apply eh|apply fL|apply bU|apply fQ|apply bW|apply bJ|apply cE|apply bV|apply bI|apply bo|apply fO|(apply bp;(· rfl))|(apply cC;simp only [bg])|(apply dq;(· rfl);(· simp only [go_sem, *,be];try rfl);(· rfl);simp only [putA])|(apply eo;simp only [putA])|apply cF|(apply dr;(· simp only [go_sem, *,be];try rfl);(· rfl);(· simp only [go_sem, *,be];try rfl))|(apply dF;(iterate 2 (· simp only [go_sem, *,be];try rfl));(· rfl);simp only [putA])|(apply bH;(· simp only [go_sem, *,be];try rfl);(· rfl);simp only [putA])|(apply dt;(· simp only [go_sem, *,be];try rfl))|(apply dw;(· simp only [go_sem, *,be];try rfl))|(apply cD;(· rfl);(fail_if_success (focus (show _=some true;(· simp only [go_sem, *,be];try rfl))));(· simp only [go_sem, *,be];try rfl);all_goals (intro hb;try simp only [aw,aE] at hb))|(apply du;(· simp only [go_sem, *,be];try rfl);all_goals (intro hb;try simp only [aw,aE] at hb))|fail
  apply Ks HLB.out HBB.out
  ·(simp only [go_sem, *];try rfl)
  ·(simp only [go_sem, *];try rfl)
  have key:=hR1 _ [aH.arr 3 1 0 0 [Co c]] rfl
  rw [htk,aY] at key
  simpa only [mY,ft,fS,Co,ap,aq] using key
 ·simp [mY]
 ·rintro _ rfl
  have htl:(dN s).take (dN s).length=dN s:=bt
  rw [htl]
  clear hs hlen
  apply zS HLB.out rfl
  ·(simp only [go_sem, *];try rfl)
  ·(simp only [go_sem, *];try rfl)
  repeat' first|refine st ?_|(refine br ?_ ?_<;>intro hb)|fail
  refine fR results186 ?_
  exact h
theorem tM(b:Nat)(hb:b<256):(bZ b).1≤4∧(bZ b).2<256:=by
 unfold bZ
 repeat' split
 all_goals (refine⟨by simp, ?_⟩;simp only;omega)
theorem IW(b:Nat)(hb256:b<256)(R:Rt)(h:R (.ret (.tup [.int .i64 ((bZ b).1:Nat),.int .i64 ((bZ b).2:Nat)])) S):aj prog w0 235 [.int .u8 b] S R:=by
 have hw:ae.wrap (b:Int)=b:=ah _ (by omega)
 have w1:ae.wrap ((b:Int) - 192)=(b:Int) - 192:=ah _ (by omega)
 have w2:ae.wrap ((b:Int) - 224)=(b:Int) - 224:=ah _ (by omega)
 have w3:ae.wrap ((b:Int) - 240)=(b:Int) - 240:=ah _ (by omega)
 by_cases c1:b<128
 ·have d1:decide ((b:Int)<128)=true:=by simp;omega
  have e:bZ b=(1,b):=by unfold bZ;rw [if_pos c1]
  rw [e] at h
  clear e c1 w1 w2 w3 hb256
  refine eN func235 rfl ntmps235 fun hO=>?_
  repeat' first|refine st ?_|(refine br ?_ ?_<;>intro hb)|fail
  refine fR results235 ?_
  exact h
 have d1:decide ((b:Int)<128)=false:=by simp;omega
 by_cases c2:b<192
 ·have e:bZ b=(0,0):=by unfold bZ;rw [if_neg c1,if_pos c2]
  have d2:decide ((192:Int)≤(b:Int))=false:=by simp;omega
  have d3:decide ((224:Int)≤(b:Int))=false:=by simp;omega
  have d4:decide ((240:Int)≤(b:Int))=false:=by simp;omega
  rw [e] at h
  clear e c1 c2 w1 w2 w3 hb256
  refine eN func235 rfl ntmps235 fun hO=>?_
  repeat' first|refine st ?_|(refine br ?_ ?_<;>intro hb)|fail
  refine fR results235 ?_
  exact h
 have d2:decide ((192:Int)≤(b:Int))=true:=by simp;omega
 by_cases c3:b<224
 ·have e:bZ b=(2,b - 192):=by unfold bZ;rw [if_neg c1,if_neg c2,if_pos c3]
  have d3:decide ((b:Int)<224)=true:=by simp;omega
  rw [e] at h
  have h:R (.ret (.tup [.int .i64 2,.int .i64 ((b:Int) - 192)])) S:=by
   have e2:((b - 192:Nat):Int)=(b:Int) - 192:=by omega
   rw [← e2];exact h
  clear e c1 c2 c3 w2 w3 hb256
  refine eN func235 rfl ntmps235 fun hO=>?_
  repeat' first|refine st ?_|(refine br ?_ ?_<;>intro hb)|fail
  refine fR results235 ?_
  exact h
 have d3:decide ((b:Int)<224)=false:=by simp;omega
 have d3':decide ((224:Int)≤(b:Int))=true:=by simp;omega
 by_cases c4:b<240
 ·have e:bZ b=(3,b - 224):=by unfold bZ;rw [if_neg c1,if_neg c2,if_neg c3,if_pos c4]
  have d4:decide ((b:Int)<240)=true:=by simp;omega
  rw [e] at h
  have h:R (.ret (.tup [.int .i64 3,.int .i64 ((b:Int) - 224)])) S:=by
   have e2:((b - 224:Nat):Int)=(b:Int) - 224:=by omega
   rw [← e2];exact h
  clear e c1 c2 c3 c4 w1 w3 hb256
  refine eN func235 rfl ntmps235 fun hO=>?_
  repeat' first|refine st ?_|(refine br ?_ ?_<;>intro hb)|fail
  refine fR results235 ?_
  exact h
 have d4:decide ((b:Int)<240)=false:=by simp;omega
 have d4':decide ((240:Int)≤(b:Int))=true:=by simp;omega
 by_cases c5:b<248
 ·have e:bZ b=(4,b - 240):=by unfold bZ;rw [if_neg c1,if_neg c2,if_neg c3,if_neg c4,if_pos c5]
  have d5:decide ((b:Int)<248)=true:=by simp;omega
  rw [e] at h
  have h:R (.ret (.tup [.int .i64 4,.int .i64 ((b:Int) - 240)])) S:=by
   have e2:((b - 240:Nat):Int)=(b:Int) - 240:=by omega
   rw [← e2];exact h
  clear e c1 c2 c3 c4 c5 w1 w2 hb256
  refine eN func235 rfl ntmps235 fun hO=>?_
  repeat' first|refine st ?_|(refine br ?_ ?_<;>intro hb)|fail
  refine fR results235 ?_
  exact h
 ·have e:bZ b=(0,0):=by unfold bZ;rw [if_neg c1,if_neg c2,if_neg c3,if_neg c4,if_neg c5]
  have d5:decide ((b:Int)<248)=false:=by simp;omega
  rw [e] at h
  clear e c1 c2 c3 c4 c5 w1 w2 w3 hb256
  refine eN func235 rfl ntmps235 fun hO=>?_
  repeat' first|refine st ?_|(refine br ?_ ?_<;>intro hb)|fail
  refine fR results235 ?_
  exact h
def zg(q:Nat × Nat × Nat):AV:=.tup [.int .i64 q.1,.int .i64 q.2.1,.int .i64 q.2.2]
theorem G7(p:List Nat)(hp:∀ x∈p,x<256)(h4:p.length≤4)(R:Rt)(h:R (.ret (zg (fB p))) S):aj prog w0 196 [.sval false (p.map By)] S R:=by
 match p,hp,h4 with
 | [],_,_ =>
  have h:R (.ret (.tup [.int .i64 0,.int .i64 0,.int .i64 0])) S:=h
  simp only [aq]
  have e0:(((0:Nat):Int)==0)=true:=rfl
  refine eN func196 rfl ntmps196 fun hO=>?_
  repeat' first|refine st ?_|(refine br ?_ ?_<;>intro hb)|fail
  refine fR results196 ?_
  exact h
 | a::r,hp,h4 =>
  have hf:=fun S'=>IW w0 S' a (hp a (dk ..))
  have hfl:=tM a (hp a (dk ..))
  have hspan:fB (a::r)=match ew ((bZ a).1 - 1) r (bZ a).2 (bZ a).2 with
   | none=>(0,0,0)
   | some (lo,hi)=>if (bZ a).1<r.length+1 then (0,0,0) else (lo,hi,(bZ a).1):=rfl
  generalize bZ a=q at hf hfl hspan
  obtain⟨n,f⟩:=q
  simp only at hf hfl hspan
  obtain⟨hn4,hf256⟩:=hfl
  have hl0:(((a::r).length:Int)==0)=false:=by
   rw [beq_eq_false_iff_ne,aB];omega
  have hlen:(a::r).length=r.length+1:=rfl
  have hg0:(a::r)[0]? = some a:=rfl
  have hgs:∀ i,(a::r)[i+1]? = r[i]?:=fun i=>List.getElem?_cons_succ
  obtain⟨P,hP⟩:∃ P,a::r=P:=⟨_,rfl⟩
  rw [hP] at hl0 hlen hg0 hgs hspan h hp ⊢
  have hrl:r.length≤3:=by simp at h4;omega
  clear hP h4
  have Hspan:=ab hspan
  have Hp:=ab hp
  have Hgs:=ab hgs
  have Hlen:=ab hlen
  clear hspan hp hgs hlen
  refine eN func196 rfl ntmps196 fun hO=>?_
  repeat' first|apply fK|apply eg|apply dx|apply eh|apply fL|apply bU|apply fQ|apply bW|apply bJ|apply cE|apply bV|apply bI|apply bo|apply fO|(apply bp;(· rfl))|(apply cC;simp only [bg])|(apply dq;(· rfl);(· simp only [go_sem, *,By];try rfl);(· rfl);simp only [putA])|(apply eo;simp only [putA])|apply cF|(apply cZ [];(· simp only [go_sem, *,By];try rfl);(· rfl);(· simp only [go_sem, *,By];try rfl);(· rfl);(iterate 2 (· simp only [go_sem, *,By];try rfl));(first|apply hf);simp only [aV,putA])|(apply dr;(· simp only [go_sem, *,By];try rfl);(· rfl);(· simp only [go_sem, *,By];try rfl))|(apply dF;(iterate 2 (· simp only [go_sem, *,By];try rfl));(· rfl);simp only [putA])|(apply bH;(· simp only [go_sem, *,By];try rfl);(· rfl);simp only [putA])|(apply dt;(· simp only [go_sem, *,By];try rfl))|(apply dw;(· simp only [go_sem, *,By];try rfl))|(apply cD;(· rfl);(fail_if_success (focus (show _=some true;(· simp only [go_sem, *,By];try rfl))));(· simp only [go_sem, *,By];try rfl);all_goals (intro hb;try simp only [aw,aE] at hb))|(apply du;(· simp only [go_sem, *,By];try rfl);all_goals (intro hb;try simp only [aw,aE] at hb))|fail
  refine cW (fun (i:Nat × Nat × Nat) env S'=>i.1≤3∧(i.1+1≤n∨i.1=0)∧i.2.1<256 * 64 ^ i.1∧i.2.2<256 * 64 ^ i.1∧ew (n - 1 - i.1) (r.drop i.1) i.2.1 i.2.2=ew (n - 1) r f f∧env 1000000=.dfr []∧env 0=.sval false (P.map By)∧env 5=.int .i64 (n:Nat)∧env 6=.int .i64 i.2.1∧env 7=.int .i64 i.2.2∧env 8=.int .i64 ((i.1:Int)+1)∧S'=S) (fun i=>4 - i.1) (0,f,f) ?_ ?_
  ·exact⟨bf _,.inr rfl,by simp only;omega,by simp only;omega,rfl,ss,ss,ss,ss,ss,ss,rfl⟩
  ·rintro⟨i,lo,hi⟩ env S' ⟨hi3,hin,hlo,hhi,hsp,e0,f0,e5,e6,e7,e8,rfl⟩ IH
   simp only at hi3 hin hlo hhi hsp e6 e7 e8
   have HI:=ab IH
   have Hsp:=ab hsp
   have H:=ab h
   clear IH h hsp hf
   obtain⟨M,hM⟩:∃ M,64 ^ i=M:=⟨_,rfl⟩
   have hM3:M≤262144:=by rw [← hM];exact gw (by decide) hi3
   have hMs:64 ^ (i+1)=64 * M:=by rw [lS,hM,Nat.mul_comm]
   rw [hM] at hlo hhi
   by_cases hlt:i+1<n
   ·have d0:decide ((i:Int)+1<(n:Int))=true:=by simp;omega
    have w1:ae.wrap ((lo:Int) * 64)=((lo * 64:Nat):Int):=by rw [ah _ (by omega)];omega
    have w2:ae.wrap ((hi:Int) * 64)=((hi * 64:Nat):Int):=by rw [ah _ (by omega)];omega
    have w3:ae.wrap (((hi * 64:Nat):Int)+63)=((hi * 64+63:Nat):Int):=by rw [ah _ (by omega)];omega
    have w4:ae.wrap ((i:Int)+1+1)=(i:Int)+1+1:=ah _ (by omega)
    have hst:n - 1 - i=(n - 1 - (i+1))+1:=by omega
    by_cases hin2:i<r.length
    ·obtain⟨b,hx⟩:∃ b,r[i]? = some b:=⟨_,al hin2⟩
     have hPx:P[i+1]? = some b:=by rw [Hgs.out,hx]
     have hb:=Hp.out b (ax hPx)
     have d1:decide ((i:Int)+1<(P.length:Int))=true:=by rw [Hlen.out];simp;omega
     have hdr:r.drop i=b::r.drop (i+1):=by
      rw [p9 hin2]
      have:=(af.1 hx).2
      rw [this]
     have htn:((i:Int)+1).toNat=i+1:=by omega
     have hge:decide ((0:Int)≤(i:Int)+1)=true:=by simp;omega
     by_cases hbad:b<128∨191<b
     ·have hz:fB P=(0,0,0):=by
       rw [Hspan.out,← Hsp.out,hdr,hst,ew,if_pos hbad]
      have hh:=H.out
      rw [hz] at hh
      have hh:R (.ret (.tup [.int .i64 0,.int .i64 0,.int .i64 0])) S':=hh
      rcases jx b 128 with hb1|hb1
      ·have d2:decide ((b:Int)<128)=true:=by simp;omega
       clear hM3 hMs hlo hhi hst hbad hz hdr hlt hin2 hi3 hin hb hb1 hrl hn4 hf256 hM hx
       repeat' first|apply fK|apply eg|apply dx|apply eh|apply fL|apply bU|apply fQ|apply bW|apply bJ|apply cE|apply bV|apply bI|apply bo|apply fO|(apply bp;(· rfl))|(apply cC;simp only [bg])|(apply dq;(· rfl);(· simp only [go_sem, *,By];try rfl);(· rfl);simp only [putA])|(apply eo;simp only [putA])|apply cF|(apply dr;(· simp only [go_sem, *,By];try rfl);(· rfl);(· simp only [go_sem, *,By];try rfl))|(apply dF;(iterate 2 (· simp only [go_sem, *,By];try rfl));(· rfl);simp only [putA])|(apply bH;(· simp only [go_sem, *,By];try rfl);(· rfl);simp only [putA])|(apply dt;(· simp only [go_sem, *,By];try rfl))|(apply dw;(· simp only [go_sem, *,By];try rfl))|(apply cD;(· rfl);(fail_if_success (focus (show _=some true;(· simp only [go_sem, *,By];try rfl))));(· simp only [go_sem, *,By];try rfl);all_goals (intro hb;try simp only [aw,aE] at hb))|(apply du;(· simp only [go_sem, *,By];try rfl);all_goals (intro hb;try simp only [aw,aE] at hb))|fail
       refine fR results196 ?_
       exact hh
      ·have d2:decide ((b:Int)<128)=false:=by simp;omega
       have d3:decide ((191:Int)<(b:Int))=true:=by simp;omega
       clear hM3 hMs hlo hhi hst hbad hz hdr hlt hin2 hi3 hin hb hb1 hrl hn4 hf256 hM hx
       repeat' first|apply fK|apply eg|apply dx|apply eh|apply fL|apply bU|apply fQ|apply bW|apply bJ|apply cE|apply bV|apply bI|apply bo|apply fO|(apply bp;(· rfl))|(apply cC;simp only [bg])|(apply dq;(· rfl);(· simp only [go_sem, *,By];try rfl);(· rfl);simp only [putA])|(apply eo;simp only [putA])|apply cF|(apply dr;(· simp only [go_sem, *,By];try rfl);(· rfl);(· simp only [go_sem, *,By];try rfl))|(apply dF;(iterate 2 (· simp only [go_sem, *,By];try rfl));(· rfl);simp only [putA])|(apply bH;(· simp only [go_sem, *,By];try rfl);(· rfl);simp only [putA])|(apply dt;(· simp only [go_sem, *,By];try rfl))|(apply dw;(· simp only [go_sem, *,By];try rfl))|(apply cD;(· rfl);(fail_if_success (focus (show _=some true;(· simp only [go_sem, *,By];try rfl))));(· simp only [go_sem, *,By];try rfl);all_goals (intro hb;try simp only [aw,aE] at hb))|(apply du;(· simp only [go_sem, *,By];try rfl);all_goals (intro hb;try simp only [aw,aE] at hb))|fail
       refine fR results196 ?_
       exact hh
     ·have d2:decide ((b:Int)<128)=false:=by simp;omega
      have d3:decide ((191:Int)<(b:Int))=false:=by simp;omega
      have hw:ae.wrap (b:Int)=b:=ah _ (by omega)
      have w5:ae.wrap ((b:Int) - 128)=((b - 128:Nat):Int):=by rw [ah _ (by omega)];omega
      have w6:ae.wrap (((lo * 64:Nat):Int)+((b - 128:Nat):Int))=((lo * 64+(b - 128):Nat):Int):=by rw [ah _ (by omega)];omega
      have w7:ae.wrap (((hi * 64+63:Nat):Int) - 63)=((hi * 64:Nat):Int):=by rw [ah _ (by omega)];omega
      have w8:ae.wrap (((hi * 64:Nat):Int)+((b - 128:Nat):Int))=((hi * 64+(b - 128):Nat):Int):=by rw [ah _ (by omega)];omega
      have hsp2:ew (n - 1 - (i+1)) (r.drop (i+1)) (lo * 64+(b - 128)) (hi * 64+(b - 128))=ew (n - 1) r f f:=by
       rw [← Hsp.out,hdr,hst,ew,if_neg hbad]
      have hq1:lo * 64+(b - 128)<256 * 64 ^ (i+1):=by rw [hMs];omega
      have hq2:hi * 64+(b - 128)<256 * 64 ^ (i+1):=by rw [hMs];omega
      have hi4:i+1≤3:=by omega
      have HF:=ab (a6 hsp2 (a6 hq1 (a6 hq2 (a6 hi4 hlt))))
      clear hM3 hMs hlo hhi hst hbad hdr hlt hin2 hi3 hin hb hrl hn4 hf256 hM hx hsp2 hq1 hq2 hi4
      repeat' first|apply fK|apply eg|apply dx|apply eh|apply fL|apply bU|apply fQ|apply bW|apply bJ|apply cE|apply bV|apply bI|apply bo|apply fO|(apply bp;(· rfl))|(apply cC;simp only [bg])|(apply dq;(· rfl);(· simp only [go_sem, *,By];try rfl);(· rfl);simp only [putA])|(apply eo;simp only [putA])|apply cF|(apply dr;(· simp only [go_sem, *,By];try rfl);(· rfl);(· simp only [go_sem, *,By];try rfl))|(apply dF;(iterate 2 (· simp only [go_sem, *,By];try rfl));(· rfl);simp only [putA])|(apply bH;(· simp only [go_sem, *,By];try rfl);(· rfl);simp only [putA])|(apply dt;(· simp only [go_sem, *,By];try rfl))|(apply dw;(· simp only [go_sem, *,By];try rfl))|(apply cD;(· rfl);(fail_if_success (focus (show _=some true;(· simp only [go_sem, *,By];try rfl))));(· simp only [go_sem, *,By];try rfl);all_goals (intro hb;try simp only [aw,aE] at hb))|(apply du;(· simp only [go_sem, *,By];try rfl);all_goals (intro hb;try simp only [aw,aE] at hb))|fail
      obtain⟨hsp2,hq1,hq2,hi4,hlt⟩:=HF.out
      refine HI.out (i+1,lo * 64+(b - 128),hi * 64+(b - 128)) _ _ (by simp only;omega) ⟨hi4,.inl hlt,hq1,hq2,hsp2, ?_, ?_, ?_, ?_, ?_, ?_,rfl⟩
      all_goals (simp only [go_sem, *];try rfl)
    ·have d1:decide ((i:Int)+1<(P.length:Int))=false:=by rw [Hlen.out];simp;omega
     have hdr:r.drop i=[]:=Es (by omega)
     have hsp2:ew (n - 1 - (i+1)) (r.drop (i+1)) (lo * 64) (hi * 64+63)=ew (n - 1) r f f:=by
      rw [← Hsp.out,hdr,hst,ew,Es (by omega)]
     have hq1:lo * 64<256 * 64 ^ (i+1):=by rw [hMs];omega
     have hq2:hi * 64+63<256 * 64 ^ (i+1):=by rw [hMs];omega
     have hi4:i+1≤3:=by omega
     have HF:=ab (a6 hsp2 (a6 hq1 (a6 hq2 (a6 hi4 hlt))))
     clear hM3 hMs hlo hhi hst hdr hlt hin2 hi3 hin hrl hn4 hf256 hM hsp2 hq1 hq2 hi4
     repeat' first|refine st ?_|(refine br ?_ ?_<;>intro hb)|fail
     obtain⟨hsp2,hq1,hq2,hi4,hlt⟩:=HF.out
     refine HI.out (i+1,lo * 64,hi * 64+63) _ _ (by simp only;omega) ⟨hi4,.inl hlt,hq1,hq2,hsp2, ?_, ?_, ?_, ?_, ?_, ?_,rfl⟩
     all_goals (simp only [go_sem, *];try rfl)
   ·have d0:decide ((i:Int)+1<(n:Int))=false:=by simp;omega
    have hsp3:ew (n - 1) r f f=some (lo,hi):=by
     rw [← Hsp.out,show n - 1 - i=0 by omega,ew]
    have hh:=H.out
    rw [Hspan.out,hsp3] at hh
    simp only at hh
    by_cases hnl:n<r.length+1
    ·rw [if_pos hnl] at hh
     have hh:R (.ret (.tup [.int .i64 0,.int .i64 0,.int .i64 0])) S':=hh
     have d1:decide ((n:Int)<(P.length:Int))=true:=by rw [Hlen.out];simp;omega
     clear hM3 hMs hlo hhi hlt hi3 hin hrl hn4 hf256 hM hsp3 hnl
     repeat' first|refine st ?_|(refine br ?_ ?_<;>intro hb)|fail
     refine fR results196 ?_
     exact hh
    ·rw [if_neg hnl] at hh
     unfold zg at hh
     simp only at hh
     have d1:decide ((n:Int)<(P.length:Int))=false:=by rw [Hlen.out];simp;omega
     clear hM3 hMs hlo hhi hlt hi3 hin hrl hn4 hf256 hM hsp3 hnl
     repeat' first|refine st ?_|(refine br ?_ ?_<;>intro hb)|fail
     refine fR results196 ?_
     exact hh
theorem rg:∀ (n:Nat) (r:List Nat) (lo hi:Nat) (q:Nat × Nat),ew n r lo hi=some q→q.1≤(lo+1) * 64 ^ n∧q.2+1≤(hi+1) * 64 ^ n
 | 0,r,lo,hi,q,h=>by
  rw [ew] at h;cases h;simp
 | n+1,[],lo,hi,q,h=>by
  rw [ew] at h
  have:=rg n [] _ _ q h
  rw [lS,← pm,← pm]
  have e1:(lo+1) * 64 ^ n * 64=(lo * 64+64) * 64 ^ n:=by rw [kI,eu]
  have e2:(hi+1) * 64 ^ n * 64=(hi * 64+63+1) * 64 ^ n:=by rw [kI,eu]
  rw [e1,e2]
  refine⟨eT this.1 (bG _ (by omega)),this.2⟩
 | n+1,b::r,lo,hi,q,h=>by
  rw [ew] at h
  split at h
  ·cases h
  ·have:=rg n r _ _ q h
   rw [lS,← pm,← pm]
   have e1:(lo+1) * 64 ^ n * 64=(lo * 64+64) * 64 ^ n:=by rw [kI,eu]
   have e2:(hi+1) * 64 ^ n * 64=(hi * 64+64) * 64 ^ n:=by rw [kI,eu]
   rw [e1,e2]
   refine⟨eT this.1 (bG _ (by omega)),eT this.2 (bG _ (by omega))⟩
theorem Cd(p:List Nat)(hp:∀ x∈p,x<256):(fB p).1≤134217728∧(fB p).2.1≤134217728∧(fB p).2.2≤4:=by
 cases p with
 | nil=>simp [fB]
 | cons a r =>
  have hf:=tM a (hp a (dk ..))
  rw [fB]
  cases hs:ew ((bZ a).1 - 1) r (bZ a).2 (bZ a).2 with
  | none=>simp
  | some q =>
   have:=rg _ _ _ _ _ hs
   obtain⟨lo,hi⟩:=q
   simp only at this ⊢
   have h3:64 ^ ((bZ a).1 - 1)≤262144:=gw (by decide:64>0) (show (bZ a).1 - 1≤3 by omega)
   have h4:((bZ a).2+1) * 64 ^ ((bZ a).1 - 1)≤257 * 262144:=Nat.mul_le_mul (by omega) h3
   split
   ·simp
   ·simp only;omega
theorem G9(p:List Nat)(hp:∀ x∈p,x<256)(h4:p.length≤4)(R:Rt)(h:R (.ret (.tup [.bool (jZ p).1,.bool (jZ p).2])) S):aj prog w0 118 [.sval false (p.map By)] S R:=by
 have hs:=fun S'=>G7 w0 S' p hp h4
 have hle:=Cd p hp
 unfold zg at hs
 unfold jZ at h
 simp only at h
 generalize fB p=q at hs hle h
 obtain⟨lo,hi,n⟩:=q
 simp only at hs hle h
 obtain⟨l1,l2,l3⟩:=hle
 have hn:n=0∨n=1∨n=2∨n=3∨n=4:=by omega
 clear hp h4 l1 l2 l3
 rcases hn with rfl|rfl|rfl|rfl|rfl
 ·have h:R (.ret (.tup [.bool false,.bool false])) S:=h
  have e0:(((0:Nat):Int)==0)=true:=rfl
  refine eN func118 rfl ntmps118 fun hO=>?_
  repeat' first|refine st ?_|(refine ca ?_;apply hs)|(refine br ?_ ?_<;>intro hb)|fail
  refine fR results118 ?_
  exact h
 all_goals
  rw [if_neg (by decide)] at h
  simp only [pJ,tw] at h
 ·have e0:(((1:Nat):Int)==0)=false:=rfl
  obtain⟨L,hL⟩:∃ L,max lo 0=L:=⟨_,rfl⟩
  obtain⟨M,hM⟩:∃ M,min hi 127=M:=⟨_,rfl⟩
  rw [hL,hM] at h
  have m1:(if (0:Int)>(lo:Int) then (0:Int) else (lo:Int))=(L:Int):=by rw [← hL];split<;>omega
  have m2:(if (127:Int)<(hi:Int) then (127:Int) else (hi:Int))=(M:Int):=by rw [← hM];split<;>omega
  replace hM:M≤127:=by omega
  clear hL
  by_cases c1:L≤M
  ·have d1:decide ((L:Int)≤(M:Int))=true:=by simp;omega
   by_cases c2:55296≤L
   ·exact absurd c1 (by omega)
   ·have d2:decide ((55296:Int)≤(L:Int))=false:=by simp;omega
    by_cases c4:p.length=1
    ·have d4:((p.length:Int)==((1:Nat):Int))=true:=by rw [beq_iff_eq];omega
     simp only [decide_eq_true c1,decide_eq_false c2,decide_eq_true c4,bL,bK,cu,b9,bM,b_] at h
     clear hM c1 c2 c4
     refine eN func118 rfl ntmps118 fun hO=>?_
     repeat' first|refine st ?_|(refine ca ?_;apply hs)|(refine br ?_ ?_<;>intro hb)|refine sd ?_|apply au|(apply aF;(· decide +kernel))|refine bd ?_ ?_|(refine cd ?_;apply hs)|fail
     refine fR results118 ?_
     exact h
    ·have d4:((p.length:Int)==((1:Nat):Int))=false:=by rw [beq_eq_false_iff_ne];omega
     simp only [decide_eq_true c1,decide_eq_false c2,decide_eq_false c4,bL,bK,cu,b9,bM,b_] at h
     clear hM c1 c2 c4
     refine eN func118 rfl ntmps118 fun hO=>?_
     repeat' first|refine st ?_|(refine ca ?_;apply hs)|(refine br ?_ ?_<;>intro hb)|refine sd ?_|apply au|(apply aF;(· decide +kernel))|refine bd ?_ ?_|(refine cd ?_;apply hs)|fail
     refine fR results118 ?_
     exact h
  ·have d1:decide ((L:Int)≤(M:Int))=false:=by simp;omega
   simp only [decide_eq_false c1,bL,bK,cu,b9,bM,b_] at h
   clear hM c1
   refine eN func118 rfl ntmps118 fun hO=>?_
   repeat' first|refine st ?_|(refine ca ?_;apply hs)|(refine br ?_ ?_<;>intro hb)|refine sd ?_|apply au|(apply aF;(· decide +kernel))|refine bd ?_ ?_|(refine cd ?_;apply hs)|fail
   refine fR results118 ?_
   exact h
 ·have e0:(((2:Nat):Int)==0)=false:=rfl
  obtain⟨L,hL⟩:∃ L,max lo 128=L:=⟨_,rfl⟩
  obtain⟨M,hM⟩:∃ M,min hi 2047=M:=⟨_,rfl⟩
  rw [hL,hM] at h
  have m1:(if (128:Int)>(lo:Int) then (128:Int) else (lo:Int))=(L:Int):=by rw [← hL];split<;>omega
  have m2:(if (2047:Int)<(hi:Int) then (2047:Int) else (hi:Int))=(M:Int):=by rw [← hM];split<;>omega
  replace hM:M≤2047:=by omega
  clear hL
  by_cases c1:L≤M
  ·have d1:decide ((L:Int)≤(M:Int))=true:=by simp;omega
   by_cases c2:55296≤L
   ·exact absurd c1 (by omega)
   ·have d2:decide ((55296:Int)≤(L:Int))=false:=by simp;omega
    by_cases c4:p.length=2
    ·have d4:((p.length:Int)==((2:Nat):Int))=true:=by rw [beq_iff_eq];omega
     simp only [decide_eq_true c1,decide_eq_false c2,decide_eq_true c4,bL,bK,cu,b9,bM,b_] at h
     clear hM c1 c2 c4
     refine eN func118 rfl ntmps118 fun hO=>?_
     repeat' first|refine st ?_|(refine ca ?_;apply hs)|(refine br ?_ ?_<;>intro hb)|refine sd ?_|apply au|(apply aF;(· decide +kernel))|refine bd ?_ ?_|(refine cd ?_;apply hs)|fail
     refine fR results118 ?_
     exact h
    ·have d4:((p.length:Int)==((2:Nat):Int))=false:=by rw [beq_eq_false_iff_ne];omega
     simp only [decide_eq_true c1,decide_eq_false c2,decide_eq_false c4,bL,bK,cu,b9,bM,b_] at h
     clear hM c1 c2 c4
     refine eN func118 rfl ntmps118 fun hO=>?_
     repeat' first|refine st ?_|(refine ca ?_;apply hs)|(refine br ?_ ?_<;>intro hb)|refine sd ?_|apply au|(apply aF;(· decide +kernel))|refine bd ?_ ?_|(refine cd ?_;apply hs)|fail
     refine fR results118 ?_
     exact h
  ·have d1:decide ((L:Int)≤(M:Int))=false:=by simp;omega
   simp only [decide_eq_false c1,bL,bK,cu,b9,bM,b_] at h
   clear hM c1
   refine eN func118 rfl ntmps118 fun hO=>?_
   repeat' first|refine st ?_|(refine ca ?_;apply hs)|(refine br ?_ ?_<;>intro hb)|refine sd ?_|apply au|(apply aF;(· decide +kernel))|refine bd ?_ ?_|(refine cd ?_;apply hs)|fail
   refine fR results118 ?_
   exact h
 ·have e0:(((3:Nat):Int)==0)=false:=rfl
  obtain⟨L,hL⟩:∃ L,max lo 2048=L:=⟨_,rfl⟩
  obtain⟨M,hM⟩:∃ M,min hi 65535=M:=⟨_,rfl⟩
  rw [hL,hM] at h
  have m1:(if (2048:Int)>(lo:Int) then (2048:Int) else (lo:Int))=(L:Int):=by rw [← hL];split<;>omega
  have m2:(if (65535:Int)<(hi:Int) then (65535:Int) else (hi:Int))=(M:Int):=by rw [← hM];split<;>omega
  replace hM:M≤65535:=by omega
  clear hL
  by_cases c1:L≤M
  ·have d1:decide ((L:Int)≤(M:Int))=true:=by simp;omega
   by_cases c2:55296≤L
   ·have d2:decide ((55296:Int)≤(L:Int))=true:=by simp;omega
    by_cases c3:M≤57343
    ·have d3:decide ((M:Int)≤57343)=true:=by simp;omega
     simp only [decide_eq_true c1,decide_eq_true c2,decide_eq_true c3,bL,bK,cu,b9,bM,b_] at h
     clear hM c1 c2 c3
     refine eN func118 rfl ntmps118 fun hO=>?_
     repeat' first|refine st ?_|(refine ca ?_;apply hs)|(refine br ?_ ?_<;>intro hb)|refine sd ?_|apply au|(apply aF;(· decide +kernel))|refine bd ?_ ?_|(refine cd ?_;apply hs)|fail
     refine fR results118 ?_
     exact h
    ·have d3:decide ((M:Int)≤57343)=false:=by simp;omega
     by_cases c4:p.length=3
     ·have d4:((p.length:Int)==((3:Nat):Int))=true:=by rw [beq_iff_eq];omega
      simp only [decide_eq_true c1,decide_eq_true c2,decide_eq_false c3,decide_eq_true c4,bL,bK,cu,b9,bM,b_] at h
      clear hM c1 c2 c3 c4
      refine eN func118 rfl ntmps118 fun hO=>?_
      repeat' first|refine st ?_|(refine ca ?_;apply hs)|(refine br ?_ ?_<;>intro hb)|refine sd ?_|apply au|(apply aF;(· decide +kernel))|refine bd ?_ ?_|(refine cd ?_;apply hs)|fail
      refine fR results118 ?_
      exact h
     ·have d4:((p.length:Int)==((3:Nat):Int))=false:=by rw [beq_eq_false_iff_ne];omega
      simp only [decide_eq_true c1,decide_eq_true c2,decide_eq_false c3,decide_eq_false c4,bL,bK,cu,b9,bM,b_] at h
      clear hM c1 c2 c3 c4
      refine eN func118 rfl ntmps118 fun hO=>?_
      repeat' first|refine st ?_|(refine ca ?_;apply hs)|(refine br ?_ ?_<;>intro hb)|refine sd ?_|apply au|(apply aF;(· decide +kernel))|refine bd ?_ ?_|(refine cd ?_;apply hs)|fail
      refine fR results118 ?_
      exact h
   ·have d2:decide ((55296:Int)≤(L:Int))=false:=by simp;omega
    by_cases c4:p.length=3
    ·have d4:((p.length:Int)==((3:Nat):Int))=true:=by rw [beq_iff_eq];omega
     simp only [decide_eq_true c1,decide_eq_false c2,decide_eq_true c4,bL,bK,cu,b9,bM,b_] at h
     clear hM c1 c2 c4
     refine eN func118 rfl ntmps118 fun hO=>?_
     repeat' first|refine st ?_|(refine ca ?_;apply hs)|(refine br ?_ ?_<;>intro hb)|refine sd ?_|apply au|(apply aF;(· decide +kernel))|refine bd ?_ ?_|(refine cd ?_;apply hs)|fail
     refine fR results118 ?_
     exact h
    ·have d4:((p.length:Int)==((3:Nat):Int))=false:=by rw [beq_eq_false_iff_ne];omega
     simp only [decide_eq_true c1,decide_eq_false c2,decide_eq_false c4,bL,bK,cu,b9,bM,b_] at h
     clear hM c1 c2 c4
     refine eN func118 rfl ntmps118 fun hO=>?_
     repeat' first|refine st ?_|(refine ca ?_;apply hs)|(refine br ?_ ?_<;>intro hb)|refine sd ?_|apply au|(apply aF;(· decide +kernel))|refine bd ?_ ?_|(refine cd ?_;apply hs)|fail
     refine fR results118 ?_
     exact h
  ·have d1:decide ((L:Int)≤(M:Int))=false:=by simp;omega
   simp only [decide_eq_false c1,bL,bK,cu,b9,bM,b_] at h
   clear hM c1
   refine eN func118 rfl ntmps118 fun hO=>?_
   repeat' first|refine st ?_|(refine ca ?_;apply hs)|(refine br ?_ ?_<;>intro hb)|refine sd ?_|apply au|(apply aF;(· decide +kernel))|refine bd ?_ ?_|(refine cd ?_;apply hs)|fail
   refine fR results118 ?_
   exact h
 ·have e0:(((4:Nat):Int)==0)=false:=rfl
  obtain⟨L,hL⟩:∃ L,max lo 65536=L:=⟨_,rfl⟩
  obtain⟨M,hM⟩:∃ M,min hi 1114111=M:=⟨_,rfl⟩
  rw [hL,hM] at h
  have m1:(if (65536:Int)>(lo:Int) then (65536:Int) else (lo:Int))=(L:Int):=by rw [← hL];split<;>omega
  have m2:(if (1114111:Int)<(hi:Int) then (1114111:Int) else (hi:Int))=(M:Int):=by rw [← hM];split<;>omega
  replace hM:M≤1114111:=by omega
  clear hL
  by_cases c1:L≤M
  ·have d1:decide ((L:Int)≤(M:Int))=true:=by simp;omega
   by_cases c2:55296≤L
   ·have d2:decide ((55296:Int)≤(L:Int))=true:=by simp;omega
    by_cases c3:M≤57343
    ·have d3:decide ((M:Int)≤57343)=true:=by simp;omega
     simp only [decide_eq_true c1,decide_eq_true c2,decide_eq_true c3,bL,bK,cu,b9,bM,b_] at h
     clear hM c1 c2 c3
     refine eN func118 rfl ntmps118 fun hO=>?_
     repeat' first|refine st ?_|(refine ca ?_;apply hs)|(refine br ?_ ?_<;>intro hb)|refine sd ?_|apply au|(apply aF;(· decide +kernel))|refine bd ?_ ?_|(refine cd ?_;apply hs)|fail
     refine fR results118 ?_
     exact h
    ·have d3:decide ((M:Int)≤57343)=false:=by simp;omega
     by_cases c4:p.length=4
     ·have d4:((p.length:Int)==((4:Nat):Int))=true:=by rw [beq_iff_eq];omega
      simp only [decide_eq_true c1,decide_eq_true c2,decide_eq_false c3,decide_eq_true c4,bL,bK,cu,b9,bM,b_] at h
      clear hM c1 c2 c3 c4
      refine eN func118 rfl ntmps118 fun hO=>?_
      repeat' first|refine st ?_|(refine ca ?_;apply hs)|(refine br ?_ ?_<;>intro hb)|refine sd ?_|apply au|(apply aF;(· decide +kernel))|refine bd ?_ ?_|(refine cd ?_;apply hs)|fail
      refine fR results118 ?_
      exact h
     ·have d4:((p.length:Int)==((4:Nat):Int))=false:=by rw [beq_eq_false_iff_ne];omega
      simp only [decide_eq_true c1,decide_eq_true c2,decide_eq_false c3,decide_eq_false c4,bL,bK,cu,b9,bM,b_] at h
      clear hM c1 c2 c3 c4
      refine eN func118 rfl ntmps118 fun hO=>?_
      repeat' first|refine st ?_|(refine ca ?_;apply hs)|(refine br ?_ ?_<;>intro hb)|refine sd ?_|apply au|(apply aF;(· decide +kernel))|refine bd ?_ ?_|(refine cd ?_;apply hs)|fail
      refine fR results118 ?_
      exact h
   ·have d2:decide ((55296:Int)≤(L:Int))=false:=by simp;omega
    by_cases c4:p.length=4
    ·have d4:((p.length:Int)==((4:Nat):Int))=true:=by rw [beq_iff_eq];omega
     simp only [decide_eq_true c1,decide_eq_false c2,decide_eq_true c4,bL,bK,cu,b9,bM,b_] at h
     clear hM c1 c2 c4
     refine eN func118 rfl ntmps118 fun hO=>?_
     repeat' first|refine st ?_|(refine ca ?_;apply hs)|(refine br ?_ ?_<;>intro hb)|refine sd ?_|apply au|(apply aF;(· decide +kernel))|refine bd ?_ ?_|(refine cd ?_;apply hs)|fail
     refine fR results118 ?_
     exact h
    ·have d4:((p.length:Int)==((4:Nat):Int))=false:=by rw [beq_eq_false_iff_ne];omega
     simp only [decide_eq_true c1,decide_eq_false c2,decide_eq_false c4,bL,bK,cu,b9,bM,b_] at h
     clear hM c1 c2 c4
     refine eN func118 rfl ntmps118 fun hO=>?_
     repeat' first|refine st ?_|(refine ca ?_;apply hs)|(refine br ?_ ?_<;>intro hb)|refine sd ?_|apply au|(apply aF;(· decide +kernel))|refine bd ?_ ?_|(refine cd ?_;apply hs)|fail
     refine fR results118 ?_
     exact h
  ·have d1:decide ((L:Int)≤(M:Int))=false:=by simp;omega
   simp only [decide_eq_false c1,bL,bK,cu,b9,bM,b_] at h
   clear hM c1
   refine eN func118 rfl ntmps118 fun hO=>?_
   repeat' first|refine st ?_|(refine ca ?_;apply hs)|(refine br ?_ ?_<;>intro hb)|refine sd ?_|apply au|(apply aF;(· decide +kernel))|refine bd ?_ ?_|(refine cd ?_;apply hs)|fail
   refine fR results118 ?_
   exact h
theorem wK(p:List Nat):dc p=0∨dc p=1∨dc p=2:=by
 cases p with
 | nil=>exact .inl rfl
 | cons a r =>
  simp only [dc]
  repeat' split
  all_goals simp
theorem CG(p:List Nat)(hp:∀ x∈p,x<256)(h4:p.length≤4)(R:Rt)(h:R (.ret (.bool (fc p))) S):aj prog w0 57 [.sval false (p.map By)] S R:=by
 have hg:=fun S'=>G9 w0 S' p hp h4
 rw [tL] at hg
 by_cases he:p=[]
 ·subst he
  have h:R (.ret (.bool true)) S:=h
  have hg:∀ S' (R:Rt),R (.ret (.tup [.bool false,.bool false])) S'→aj prog w0 118 [.sval false (bx By [])] S' R:=hg
  have e0:(((0:Nat):Int)==0)=true:=rfl
  simp only [aq] at hg ⊢
  clear hp h4
  refine eN func57 rfl ntmps57 fun hO=>?_
  repeat' first|refine st ?_|(refine ca ?_;apply hg)|(refine br ?_ ?_<;>intro hb)|fail
  refine fR results57 ?_
  exact h
 ·have hl:((p.length:Int)==0)=false:=by
   rw [beq_eq_false_iff_ne]
   intro e
   exact he (j_.1 (by omega))
  have hr:fc p=decide (dc p=1):=by unfold fc;rw [decide_eq_false he,vH]
  rw [hr] at h
  have hk:=wK p
  generalize dc p=kd at hg h hk
  clear he hp h4 hr
  rcases hk with rfl|rfl|rfl
  ·have h:R (.ret (.bool false)) S:=h
   have hg:∀ S' (R:Rt),R (.ret (.tup [.bool false,.bool false])) S'→aj prog w0 118 [.sval false (bx By p)] S' R:=hg
   refine eN func57 rfl ntmps57 fun hO=>?_
   repeat' first|refine st ?_|(refine ca ?_;apply hg)|(refine br ?_ ?_<;>intro hb)|fail
   refine fR results57 ?_
   exact h
  ·have h:R (.ret (.bool true)) S:=h
   have hg:∀ S' (R:Rt),R (.ret (.tup [.bool true,.bool false])) S'→aj prog w0 118 [.sval false (bx By p)] S' R:=hg
   refine eN func57 rfl ntmps57 fun hO=>?_
   repeat' first|refine st ?_|(refine ca ?_;apply hg)|(refine br ?_ ?_<;>intro hb)|fail
   refine fR results57 ?_
   exact h
  ·have h:R (.ret (.bool false)) S:=h
   have hg:∀ S' (R:Rt),R (.ret (.tup [.bool true,.bool true])) S'→aj prog w0 118 [.sval false (bx By p)] S' R:=hg
   refine eN func57 rfl ntmps57 fun hO=>?_
   repeat' first|refine st ?_|(refine ca ?_;apply hg)|(refine br ?_ ?_<;>intro hb)|fail
   refine fR results57 ?_
   exact h
theorem IV(p:List Nat)(hb:∀ x∈p,x<256)(hr:fc p=true)(R:Rt)(h:R (.ret (.sval false ((gB p).map Co))) S):aj prog w0 223 [.sval false (p.map By)] S R:=by
 have hri:=fun S'=>CG w0 S' p hb (s_ (mN hr))
 rw [hr] at hri
 by_cases hp:p=[]
 ·subst hp
  have h:R (.ret (.sval false [])) S:=h
  have e0:decide ((0:Int)<((0:Nat):Int))=false:=rfl
  simp only [aq]
  clear hr hri hb
  refine eN func223 rfl ntmps223 fun hO=>?_
  repeat' first|refine st ?_|(refine br ?_ ?_<;>intro hb)|fail
  refine fR results223 ?_
  exact h
 ·have hl:decide ((0:Int)<(p.length:Int))=true:=by
   cases p with
   | nil=>exact absurd rfl hp
   | cons a r=>simp only [aB,decide_eq_true_eq];omega
  rw [gB,if_neg hp] at h
  have h:R (.ret (.sval false [AV.int .i64 65533])) S:=h
  clear hr hp hb
  refine eN func223 rfl ntmps223 fun hO=>?_
  repeat' first|refine st ?_|(refine ca ?_;apply hri)|(refine br ?_ ?_<;>intro hb)|fail
  refine fR results223 ?_
  exact h
theorem CF(p:List Nat)(b:Nat)(hb:b<256)(hr:fc p=true)(hp:∀ x∈p,x<256)
  (hrec:p≠[]→∀ (S':List aH) (R:Rt),R (.ret (h_ (gA b))) S'→aj prog w0 119 [.sval false [],.int .u8 b] S' R)
  (R:Rt) (h:R (.ret (h_ (dP p b))) S):aj prog w0 119 [.sval false (p.map By),.int .u8 b] S R:=by
 have hl3:=mN hr
 have hpb:∀ x∈p++[b],x<256:=by
  intro x hx
  rcases cH.1 hx with hx|hx
  ·exact hp x hx
  ·rw [bk.1 hx];exact hb
 have hri:=fun S'=>CG w0 S' p hp (s_ hl3)
 rw [hr] at hri
 have hk:=fun S'=>G9 w0 S' (p++[b]) hpb (by simp;omega)
 rw [tL] at hk
 have hb0:p.length * 1≤140737488355328:=by omega
 have hb00:(0+p.length) * 1≤140737488355328:=by omega
 have hb1:(p.length+1) * 1≤140737488355328:=by omega
 have happ:bx By p++[AV.int .u8 b]=bx By (p++[b]):=by rw [aY];rfl
 have hlen:(p++[b]).length=p.length+1:=by simp
 have htk:pi p.length (bx By p)=bx By p:=dV (by simp)
 have hc:=fun S'=>G7 w0 S' (p++[b]) hpb (by simp;omega)
 have hsc:=Aq (p:=p++[b])
 have hall:=By.all1 p
 simp only [AV.cells] at hall
 have okA:=By.ok p
 simp only [cN,AV.cells] at okA
 have hle:(p.length:Int)≤(p.length:Int):=Eu _
 have hbe:(p.length==p.length)=true:=by simp
 unfold dP at h
 have Happ:=ab happ
 have Hc:=ab hc
 have Hsc:=ab hsc
 have Hrec:=ab hrec
 have H:=ab h
 clear hp hb happ hc hrec h hl3 hr hpb hsc
 refine eN func119 rfl ntmps119 fun hO=>?_
 repeat' first|refine st ?_|(refine ca ?_;apply hri)|(refine br ?_ ?_<;>intro hb)|fail
 rw [Happ.out]
 refine iA S.length ss ?_
 try simp only [go_sem, *]
 have h012:=wK (p++[b])
 obtain⟨kd,hkd⟩:∃ kd,dc (p++[b])=kd:=⟨_,rfl⟩
 rw [hkd] at hk h012
 rcases h012 with rfl|rfl|rfl
 ·have hh:=H.out
  rw [hkd,if_neg (by decide),if_neg (by decide)] at hh
  have hk:∀ S' (R:Rt),R (.ret (.tup [.bool false,.bool false])) S'→aj prog w0 118 [.sval false (bx By (p++[b]))] S' R:=hk
  clear hkd
  by_cases hp:p=[]
  ·subst hp
   rw [if_pos rfl] at hh
   have e0:(((0:Nat):Int)==0)=true:=rfl
   unfold h_ at hh
   simp only [ap,aq,Co] at hh
   repeat' first|refine st ?_|(refine ca ?_;apply hk)|(refine br ?_ ?_<;>intro hb)|fail
   refine fR results119 ?_
   exact hh
  ·rw [if_neg hp] at hh
   have hrec:=Hrec.out hp
   have hl0:((p.length:Int)==0)=false:=by
    rw [beq_eq_false_iff_ne]
    intro e
    exact hp (j_.1 (by omega))
   have hq1:(gA b).2.length≤1:=by unfold gA;split<;>(try split)<;>simp
   generalize gA b=q at hrec hh hq1
   obtain⟨q1,q2⟩:=q
   unfold h_ at hh hrec
   simp only [ap,Co] at hh hrec hq1
   have okC:=Co.ok q2
   simp only [cN,AV.cells] at okC
   have hb8:(1+q2.length) * 8≤140737488355328:=by omega
   clear hp hq1
   repeat' first|refine st ?_|(refine ca ?_;first|apply hk|apply hrec)|(refine br ?_ ?_<;>intro hb)|fail
   have hcm:(1+q2.length=q2.length+1)=True:=by rw [Nat.add_comm];simp
   refine fR results119 ?_
   exact hh
 ·have hh:=H.out
  rw [hkd,if_neg (by decide),if_pos rfl] at hh
  have hk:∀ S' (R:Rt),R (.ret (.tup [.bool true,.bool false])) S'→aj prog w0 118 [.sval false (bx By (p++[b]))] S' R:=hk
  unfold h_ at hh
  simp only [aq] at hh
  clear hkd
  repeat' first|refine st ?_|(refine ca ?_;apply hk)|(refine br ?_ ?_<;>intro hb)|fail
  refine fR results119 ?_
  exact hh
 ·have hh:=H.out
  rw [hkd,if_pos rfl] at hh
  have hk:∀ S' (R:Rt),R (.ret (.tup [.bool true,.bool true])) S'→aj prog w0 118 [.sval false (bx By (p++[b]))] S' R:=hk
  have hc:=Hc.out
  have hsc:=Hsc.out hkd
  rw [← hsc] at hh
  generalize fB (p++[b])=q at hc hh hsc
  obtain⟨q1,q2,q3⟩:=q
  unfold h_ at hh
  unfold zg at hc
  simp only [ap,aq,Co] at hh hc
  clear hkd hsc
  repeat' first|refine st ?_|(refine ca ?_;first|apply hk|apply hc)|(refine br ?_ ?_<;>intro hb)|fail
  refine fR results119 ?_
  exact hh
theorem IQ(b:Nat)(hb:b<256)(R:Rt)(h:R (.ret (h_ (gA b))) S):aj prog w0 119 [.sval false [],.int .u8 b] S R:=by
 refine CF w0 S [] b hb rfl (by simp) (fun hh=>absurd rfl hh) R ?_
 have e:dP [] b=gA b:=by unfold dP gA;simp
 rw [e];exact h
theorem Kx(p:List Nat)(b:Nat)(hb:b<256)(hr:fc p=true)(hp:∀ x∈p,x<256)(R:Rt)(h:R (.ret (h_ (dP p b))) S) :
  aj prog w0 119 [.sval false (p.map By),.int .u8 b] S R :=
 CF w0 S p b hb hr hp (fun _ S' R h=>IQ w0 S' b hb R h) R h
theorem Iw(l:List Nat):(kf l).2.length≤2 * l.length+1:=by
 have h:=(pT l []).2
 have e:lw [] l=(kf l).2++gB (kf l).1:=mB l
 rw [e,ai] at h
 omega
theorem IY(s:List UInt8)(hs:s.length≤100000000)(R:Rt)(h:R (.ret (.sval false ((dN s).map Co))) S):aj prog w0 177 [.str s] S R:=by
 have hsm:∀ b∈s.map aJ,b<256:=by
  intro b hb
  obtain⟨c,_,rfl⟩:=aM.1 hb
  exact c.toNat_lt
 have hall:=G3 (s.map aJ) hsm
 have hcb:dN s=(kf (s.map aJ)).2++gB (kf (s.map aJ)).1:=mB _
 have Hall:=ab hall
 have Hcb:=ab hcb
 clear hall hcb hsm
 refine eN func177 rfl ntmps177 fun hO=>?_
 repeat' first|refine st ?_|(refine br ?_ ?_<;>intro hb)|fail
 refine jp (t:=3) 3 1 ss (by decide) ?_
 refine xL (t:=4) ss ?_
 try simp only [go_sem, *]
 refine cW (fun (i:Nat) env S'=>i≤s.length∧env 1000000=.dfr []∧env 0=.str s∧env 3=.sown S.length i (kf ((s.map aJ).take i)).2.length∧env 4=.sval false ((kf ((s.map aJ).take i)).1.map By)∧env 5=.int .i64 (i:Int) ∧
  S'=S++[.arr 3 1 0 i ((kf ((s.map aJ).take i)).2.map Co)]) (fun i=>s.length - i) 0 ?_ ?_
 ·exact⟨bf _,ss,ss,ss,ss,ss,rfl⟩
 ·rintro i env S' ⟨hi,e0,f0,f3,f4,f5,rfl⟩ IH
  have HI:=ab IH
  have H:=ab h
  clear IH h
  obtain⟨hri,hpb⟩:=Hall.out i
  have hsl:=Iw ((s.map aJ).take i)
  have htl:((s.map aJ).take i).length≤i:=List.length_take_le _ _
  by_cases hlt:i<s.length
  ·obtain⟨c,hx⟩:∃ c,s[i]? = some c:=⟨_,al hlt⟩
   have hct:c.toNat<256:=c.toNat_lt
   have hxn:(s.map aJ)[i]? = some c.toNat:=by rw [aI,hx];rfl
   have hsucc:=oc hxn
   have hst:=fun S'=>Kx w0 S' (kf ((s.map aJ).take i)).1 c.toNat hct hri hpb
   have hcl:=(jR (kf ((s.map aJ).take i)).1 c.toNat).2
   generalize kf ((s.map aJ).take i)=q at *
   obtain⟨p,o⟩:=q
   simp only at hst hsucc hcl f3 f4 hsl hri hpb ⊢
   generalize dP p c.toNat=r at hst hsucc hcl
   obtain⟨p',o'⟩:=r
   unfold h_ at hst
   simp only at hst hsucc hcl
   have h1:decide ((i:Int)<(s.length:Int))=true:=by simpa using hlt
   have hw1:ae.wrap ((i:Int)+1)=(i:Int)+1:=ah _ (by omega)
   have hb8:(o.length+o'.length) * 8≤140737488355328:=by omega
   have okC:=Co.ok o'
   simp only [cN,AV.cells] at okC
   have Hsucc:=ab hsucc
   have Hlt:=ab hlt
   have hlen:(o.map Co).length=o.length:=by simp
   clear hi hs hct hxn hcl hri hpb hsucc hsl htl hlt
   repeat' first|refine st ?_|(refine ca ?_;apply hst)|(refine br ?_ ?_<;>intro hb)|fail
   refine cw hO 1 [0,3,4,5] rfl ss ss ss ?_
   simp only [aZ,aP]
   refine HI.out (i+1) _ _ (by have:=Hlt.out;omega) ⟨Hlt.out, ?_, ?_, ?_, ?_, ?_, ?_⟩
   ·(simp only [go_sem, *];try rfl)
   ·(simp only [go_sem, *];try rfl)
   ·rw [Hsucc.out,ai];first|done|(simp only [go_sem, *];try rfl)
   ·rw [Hsucc.out];first|done|(simp only [go_sem, *];try rfl)
   ·(simp only [go_sem, *];try rfl)
   ·rw [Hsucc.out,aY];first|done|rfl
  ·have hie:i=s.length:=by omega
   subst hie
   have htk:(s.map aJ).take s.length=s.map aJ:=by rw [← be (f:=aJ),bt]
   rw [htk] at hri hpb hsl f3 f4 ⊢
   have hfl:=fun S'=>IV w0 S' (kf (s.map aJ)).1 hpb hri
   have hcb:=Hcb.out
   have hf1:(gB (kf (s.map aJ)).1).length≤1:=by unfold gB;split<;>simp
   generalize kf (s.map aJ)=q at *
   obtain⟨p,o⟩:=q
   simp only at hfl hcb f3 f4 hsl hri hpb hf1 ⊢
   generalize gB p=fl at hfl hcb hf1
   have h1:decide ((s.length:Int)<(s.length:Int))=false:=by simp
   have hml:(s.map aJ).length=s.length:=by simp
   have hb8:(o.length+fl.length) * 8≤140737488355328:=by omega
   have okC:=Co.ok fl
   simp only [cN,AV.cells] at okC
   have hlen:(o.map Co).length=o.length:=by simp
   have hh:=H.out
   rw [hcb] at hh
   clear hi hs hri hpb hsl htl hlt hf1 htk hcb hml
   repeat' first|refine st ?_|(refine ca ?_;apply hfl)|(refine br ?_ ?_<;>intro hb)|fail
   rw [← aY]
   have hln:(o++fl).length=o.length+fl.length:=ai
   refine fR results177 ?_
   exact hh
end Go.Proofs.YthdbijpefkapnaaGreatDoor
