/- A part of the proof. -/
import Derived.Test.YthdbijpefkapnaaGreatDoorOfWalk1
set_option linter.all false
set_option maxHeartbeats 40000000
open And renaming intro → a7
open Bool renaming and_false → cr, and_true → cG, eq_iff_iff → eU, false_and → bO, false_or → wG, not_eq_false' → aE, not_eq_true' → ay, not_false → bQ, not_true → cq, true_and → bP
open Go.IntKind renaming i64 → ae
open Go.IntWalk renaming i64_in → ai
open Go.Lib renaming hid → ab
open Int renaming le_refl → Fy
open List renaming all_eq_true → aD, cons_append → fQ, drop_eq_getElem_cons → qK, drop_eq_nil_of_le → Fw, getElem?_eq_getElem → ap, getElem?_eq_some_iff → af, getElem?_map → aJ, length_append → ah, length_cons → aB, length_eq_zero_iff → kE, length_map → bi, length_take_le → nl, map → bn, map_append → aM, map_cons → al, map_nil → aj, mem_append → bV, mem_cons_self → dG, mem_map → aN, mem_of_getElem? → ax, mem_singleton → a_, nil_append → gu, take → rg, take_add_one → jW, take_length → bC, take_of_length_le → dJ, take_succ_cons → aR, take_zero → aO, toList_toArray → bj
open Nat renaming add_mul → eH, le_succ_of_le → t_, le_trans → fc, lt_or_ge → jT, mul_assoc → pX, mul_le_mul_right → bK, mul_right_comm → lb, pow_le_pow_right → gM, pow_succ → mw, zero_le → bf
open UInt8 renaming toNat → aK
namespace Go.Proofs.YthdbijpefkapnaaGreatDoor
open Go Go.Fen Go.Proofs.Tryz
attribute [local irreducible] aX WP ao dS i7 cJ aU cC
set_option maxRecDepth 8000
variable (w0:World) (S:List aH)
def ct(s:List Int):AV:=.agg [.sval false (s.map ea)]
theorem Cl(s:List Int):(ct s).plain=true:=by simp only [ct,go_sem,ea.plainL]
theorem Ff(n:Nat)(s:List Int):(ct s).lt n=true:=by simp only [ct,go_sem,ea.ltL]
@[go_sem] theorem ct.plainL(l:List (List Int)):plainL (l.map ct)=true:=fL Cl l
@[go_sem] theorem ct.ltL(l:List (List Int))(n:Nat):ltL n (l.map ct)=true:=c_.2 fun x hx=>by obtain⟨y,_,rfl⟩:=aN.1 hx;exact Ff n y
@[go_sem] theorem ct.ok(l:List (List Int)):cI 1 (l.map ct)=true:=by
 unfold cI;rw [aD];intro x hx;obtain⟨y,_,rfl⟩:=aN.1 hx;rfl
attribute [go_sem] ct ea
def mr(n:Int):Bool:=decide (n < -1)||decide (9999<n)
def iz(s:List Int):Bool:=s.length==0||(decide (6<s.length)||s.any mr)
def db(l:List (List Int)):Bool:=decide (l.length≤16)&&(!(l==[[-1]])&&!l.any iz)
def mQ(l:List (List Int)):Int:=if db l then 0 else 150
theorem Mm(n:Int)(R:Rt)(h:R (.ret (.bool (mr n))) S):ao prog w0 78 [.int .i64 n] S R:=by
 unfold mr at h
 cases hd:decide (n < -1)<;>rw [hd] at h
 all_goals
  refine γR0 func78 ntmps78 results78 ?_
  first|exact h|(simpa using h)
theorem mH{α:Type}{p:α→Bool}{l:List α}{k:Nat}{x:α}(hx:l[k]? = some x)(h:(l.take k).any p=false)(hp:p x=false):(l.take (k+1)).any p=false:=by
 rw [jW,hx]
 simp [h,hp]
theorem qE{α:Type}{p:α→Bool}{l:List α}{k:Nat}{x:α}(hx:l[k]? = some x)(hp:p x=true):l.any p=true :=
 List.any_eq_true.2 ⟨x,ax hx,hp⟩
theorem GX(s:List Int)(hs:s.length≤1000000)(R:Rt)(h:∀ i:Int,decide (0≤i)=s.any mr→R (.ret (.int .i64 i)) S):ao prog w0 159 [.sval false (s.map ea),.fn (.func 78) [] []] S R:=by
 have hb:=Mm w0
 refine eN func159 rfl ntmps159 fun hO=>?_
 refine ε0 ?_
 refine cD (fun (k:Nat) env S'=>k≤s.length∧(s.take k).any mr=false∧env 1000000=.dfr []∧env 0=.sval false (s.map ea)∧env 1=.fn (.func 78) [] []∧env 7=.int .i64 s.length∧env 8=.int .i64 (k:Int)∧S'=S) (fun k=>s.length - k) 0 ?_ ?_
 ·exact⟨bf _,χ,ss,ss,ss,ss,ss,rfl⟩
 ·rintro k env S' ⟨hk,hp,e0,f0,f1,f7,f8,rfl⟩ IH
  have HI:=ab IH
  have H:=ab h
  clear IH h
  by_cases hlt:k<s.length
  ·obtain⟨x,hx⟩:∃ x,s[k]? = some x:=⟨_,ap hlt⟩
   have h1:decide ((k:Int)<(s.length:Int))=true:=by simpa using hlt
   have hw:ae.wrap ((k:Int)+1)=((k+1:Nat):Int):=by rw [ai _ ω];omega
   have hpx:=hb
   cases hbx:mr x with
   | true =>
    have hh:=H.out (k:Int) (by rw [qE hx hbx];simp)
    have hb':=fun S'=>hb S' x
    rw [hbx] at hb'
    clear hk hp hlt HI hb hpx
    refine ε1 hb' ?_
    refine fR results159 ?_
    exact hh
   | false =>
    have hb':=fun S'=>hb S' x
    rw [hbx] at hb'
    have Hn:=ab (mH hx hp hbx)
    have Hlt:=ab hlt
    clear hk hp hlt hb hpx hbx
    refine ε1 hb' ?_
    refine HI.out (k+1) _ _ (by have:=Hlt.out;omega) ⟨Hlt.out,Hn.out, ?_, ?_, ?_, ?_, ?_,rfl⟩
    all_goals (simp only [go_sem, *];try rfl)
  ·have h1:decide ((k:Int)<(s.length:Int))=false:=by simpa using hlt
   have hk':k=s.length:=ω
   rw [hk',bC] at hp
   have hh:=H.out (-1) (by rw [hp];decide)
   clear hlt hk hk' HI hp
   refine ε0 ?_
   refine fR results159 ?_
   exact hh
theorem Kt(s:List Int)(hs:s.length≤1000000)(R:Rt)(h:R (.ret (.bool (s.any mr))) S):ao prog w0 77 [.sval false (s.map ea),.fn (.func 78) [] []] S R:=by
 have hi:=fun S'=>GX w0 S' s hs
 generalize s.any mr=b at h hi
 refine eN func77 rfl ntmps77 fun hO=>?_
 refine ε1 hi ?_
 intro i hi2
 refine ε0 ?_
 refine fR results77 ?_
 exact h
theorem Ml(s:List Int)(hs:s.length≤1000000)(R:Rt)(h:R (.ret (.bool (iz s))) S):ao prog w0 76 [ct s] S R:=by
 have hc:=fun S'=>Kt w0 S' s hs
 unfold iz at h
 unfold ct
 have e1:((s.length:Int)==0)=(s.length==0):=by rw [eU];simp
 have e2:decide ((6:Int)<(s.length:Int))=decide (6<s.length):=by rw [eU];simp;omega
 cases d1:s.length==0<;>cases d2:decide (6<s.length)<;>rw [d1,d2] at h<;>rw [d1] at e1<;>rw [d2] at e2<;>clear d1 d2 hs
 all_goals
  refine γR1 hc func76 ntmps76 results76 ?_
  first|exact h|(simpa using h)
theorem JG(s:List UInt8)(hs:s.length≤100000000)(R:Rt)(h:R (.ret (.sval false ((dY s).map Co))) S):ao prog w0 186 [.str s] S R:=by
 have hlen:=(qy s).2
 refine eN func186 rfl ntmps186 fun hO=>?_
 refine ε1 LM ?_
 refine nr (a:=S.length) (j:=0) 3 1 ss ss δ ?_
 simp only [go_sem, *]
 apply wN [2]
 ·(simp only [go_sem, *,Jg];try rfl)
 ·exact ss
 ·rfl
 ·exact ss
 ·exact ss
 intro LB hLB
 have hLB2:∀ m,LB.ltB (S.length+(1+m))=true:=by intro m;rw [hLB];(simp only [go_sem, *];try rfl);simp;omega
 have HLB:=ab hLB
 clear hLB
 refine JF w0 s hs (S.length+3) (S.length+4) χ (fun k S'=>S'=S++[aH.cells [AV.sown (S.length+1) k k],aH.arr 3 1 0 k (((dY s).take k).map Co),aH.obj (Obj.deferred (some [])),LB]) ?_ ?_ _ ?_ _ ?_
 ·rintro k _ rfl
  have h7:=hLB2 3
  clear h
  refine⟨χ,bH.app hO ?_⟩
  (simp only [go_sem, *];try rfl)
 ·rintro k _ c rfl hx E R' hR1
  have hkl:k<(dY s).length:=(af.1 hx).1
  have hlk:((dY s).take k).length=k:=κ
  have hb:(k+1) * 8≤140737488355328:=ω
  have htk:(dY s).take (k+1)=(dY s).take k++[c]:=by rw [jW,hx];rfl
  clear h hkl hlen
  apply wL HLB.out
  ·exact ss
  ·rfl
  ·decide
  ·rfl
  ·rfl
  ·exact ss
  intro rb BB hBB
  have HBB:=ab hBB
  clear hBB
  repeat' first|apply fX|apply eA|apply dC|apply eB|apply fY|apply b8|apply gh|apply b_|apply bN|apply cM|apply b9|apply bM|apply bv|apply gg|(apply bw;(· rfl))|(apply cK;simp only [bj])|(apply dx;(· rfl);(· simp only [go_sem, *,Co];try rfl);(· rfl);simp only [putA])|(apply eE;simp only [putA])|apply cN|(apply dy;(· simp only [go_sem, *,Co];try rfl);(· rfl);(· simp only [go_sem, *,Co];try rfl))|(apply dM;(iterate 2 (· simp only [go_sem, *,Co];try rfl));(· rfl);simp only [putA])|(apply bL;(· simp only [go_sem, *,Co];try rfl);(· rfl);simp only [putA])|(apply dz;(· simp only [go_sem, *,Co];try rfl))|(apply dB;(· simp only [go_sem, *,Co];try rfl))|(apply cL;(· rfl);(fail_if_success (focus (show _=some true;(· simp only [go_sem, *,Co];try rfl))));(· simp only [go_sem, *,Co];try rfl);all_goals (intro hb;try simp only [ay,aE] at hb))|(apply dA;(· simp only [go_sem, *,Co];try rfl);all_goals (intro hb;try simp only [ay,aE] at hb))|fail
  apply wK
  ·exact ss
  ·exact ss
  have okC:=Co.ok ((dY s).take k)
  simp only [cI,AV.cells] at okC
  repeat' first|apply fX|apply eA|apply dC|apply eB|apply fY|apply b8|apply gh|apply b_|apply bN|apply cM|apply b9|apply bM|apply bv|apply gg|(apply bw;(· rfl))|(apply cK;simp only [bj])|(apply dx;(· rfl);(· simp only [go_sem, *,bi];try rfl);(· rfl);simp only [putA])|(apply eE;simp only [putA])|apply cN|(apply dy;(· simp only [go_sem, *,bi];try rfl);(· rfl);(· simp only [go_sem, *,bi];try rfl))|(apply dM;(iterate 2 (· simp only [go_sem, *,bi];try rfl));(· rfl);simp only [putA])|(apply bL;(· simp only [go_sem, *,bi];try rfl);(· rfl);simp only [putA])|(apply dz;(· simp only [go_sem, *,bi];try rfl))|(apply dB;(· simp only [go_sem, *,bi];try rfl))|(apply cL;(· rfl);(fail_if_success (focus (show _=some true;(· simp only [go_sem, *,bi];try rfl))));(· simp only [go_sem, *,bi];try rfl);all_goals (intro hb;try simp only [ay,aE] at hb))|(apply dA;(· simp only [go_sem, *,bi];try rfl);all_goals (intro hb;try simp only [ay,aE] at hb))|fail
  apply LZ HLB.out HBB.out
  ·exact ss
  ·exact ss
  have key:=hR1 _ [aH.arr 3 1 0 0 [Co c]] rfl
  rw [htk,aM] at key
  simpa only [nJ,fQ,gu,Co,al,aj] using key
 ·simp [nJ]
 ·rintro _ rfl
  have htl:(dY s).take (dY s).length=dY s:=bC
  rw [htl]
  clear hs hlen
  apply A1 HLB.out rfl
  ·exact ss
  ·exact ss
  refine ε0 ?_
  refine fR results186 ?_
  exact h
theorem uD(b:Nat)(hb:b<256):(cg b).1≤4∧(cg b).2<256:=by
 unfold cg
 repeat' split
 all_goals (refine⟨χ, ?_⟩;simp only;omega)
theorem J8(b:Nat)(hb256:b<256)(R:Rt)(h:R (.ret (.tup [.int .i64 ((cg b).1:Nat),.int .i64 ((cg b).2:Nat)])) S):ao prog w0 235 [.int .u8 b] S R:=by
 have hw:ae.wrap (b:Int)=b:=ai _ ω
 have w1:ae.wrap ((b:Int) - 192)=(b:Int) - 192:=ai _ ω
 have w2:ae.wrap ((b:Int) - 224)=(b:Int) - 224:=ai _ ω
 have w3:ae.wrap ((b:Int) - 240)=(b:Int) - 240:=ai _ ω
 by_cases c1:b<128
 ·have d1:decide ((b:Int)<128)=true:=κ
  have e:cg b=(1,b):=by unfold cg;rw [if_pos c1]
  rw [e] at h
  clear e c1 w1 w2 w3 hb256
  exact γR0 func235 ntmps235 results235 h
 have d1:decide ((b:Int)<128)=false:=κ
 by_cases c2:b<192
 ·have e:cg b=(0,0):=by unfold cg;rw [if_neg c1,if_pos c2]
  have d2:decide ((192:Int)≤(b:Int))=false:=κ
  have d3:decide ((224:Int)≤(b:Int))=false:=κ
  have d4:decide ((240:Int)≤(b:Int))=false:=κ
  rw [e] at h
  clear e c1 c2 w1 w2 w3 hb256
  exact γR0 func235 ntmps235 results235 h
 have d2:decide ((192:Int)≤(b:Int))=true:=κ
 by_cases c3:b<224
 ·have e:cg b=(2,b - 192):=by unfold cg;rw [if_neg c1,if_neg c2,if_pos c3]
  have d3:decide ((b:Int)<224)=true:=κ
  rw [e] at h
  have h:R (.ret (.tup [.int .i64 2,.int .i64 ((b:Int) - 192)])) S:=by
   have e2:((b - 192:Nat):Int)=(b:Int) - 192:=ω
   rw [← e2];exact h
  clear e c1 c2 c3 w2 w3 hb256
  exact γR0 func235 ntmps235 results235 h
 have d3:decide ((b:Int)<224)=false:=κ
 have d3':decide ((224:Int)≤(b:Int))=true:=κ
 by_cases c4:b<240
 ·have e:cg b=(3,b - 224):=by unfold cg;rw [if_neg c1,if_neg c2,if_neg c3,if_pos c4]
  have d4:decide ((b:Int)<240)=true:=κ
  rw [e] at h
  have h:R (.ret (.tup [.int .i64 3,.int .i64 ((b:Int) - 224)])) S:=by
   have e2:((b - 224:Nat):Int)=(b:Int) - 224:=ω
   rw [← e2];exact h
  clear e c1 c2 c3 c4 w1 w3 hb256
  exact γR0 func235 ntmps235 results235 h
 have d4:decide ((b:Int)<240)=false:=κ
 have d4':decide ((240:Int)≤(b:Int))=true:=κ
 by_cases c5:b<248
 ·have e:cg b=(4,b - 240):=by unfold cg;rw [if_neg c1,if_neg c2,if_neg c3,if_neg c4,if_pos c5]
  have d5:decide ((b:Int)<248)=true:=κ
  rw [e] at h
  have h:R (.ret (.tup [.int .i64 4,.int .i64 ((b:Int) - 240)])) S:=by
   have e2:((b - 240:Nat):Int)=(b:Int) - 240:=ω
   rw [← e2];exact h
  clear e c1 c2 c3 c4 c5 w1 w2 hb256
  exact γR0 func235 ntmps235 results235 h
 ·have e:cg b=(0,0):=by unfold cg;rw [if_neg c1,if_neg c2,if_neg c3,if_neg c4,if_neg c5]
  have d5:decide ((b:Int)<248)=false:=κ
  rw [e] at h
  clear e c1 c2 c3 c4 c5 w1 w2 w3 hb256
  exact γR0 func235 ntmps235 results235 h
def An(q:Nat × Nat × Nat):AV:=.tup [.int .i64 q.1,.int .i64 q.2.1,.int .i64 q.2.2]
theorem I7(p:List Nat)(hp:∀ x∈p,x<256)(h4:p.length≤4)(R:Rt)(h:R (.ret (An (fM p))) S):ao prog w0 196 [.sval false (p.map By)] S R:=by
 match p,hp,h4 with
 | [],_,_ =>
  have h:R (.ret (.tup [.int .i64 0,.int .i64 0,.int .i64 0])) S:=h
  simp only [aj]
  have e0:(((0:Nat):Int)==0)=true:=rfl
  exact γR0 func196 ntmps196 results196 h
 | a::r,hp,h4 =>
  have hf:=fun S'=>J8 w0 S' a (hp a (dG ..))
  have hfl:=uD a (hp a (dG ..))
  have hspan:fM (a::r)=match eJ ((cg a).1 - 1) r (cg a).2 (cg a).2 with
   | none=>(0,0,0)
   | some (lo,hi)=>if (cg a).1<r.length+1 then (0,0,0) else (lo,hi,(cg a).1):=rfl
  generalize cg a=q at hf hfl hspan
  obtain⟨n,f⟩:=q
  simp only at hf hfl hspan
  obtain⟨hn4,hf256⟩:=hfl
  have hl0:(((a::r).length:Int)==0)=false:=by
   rw [beq_eq_false_iff_ne,aB];omega
  have hlen:(a::r).length=r.length+1:=rfl
  have hg0:(a::r)[0]? = some a:=rfl
  have hgs:∀ i,(a::r)[i+1]? = r[i]?:=fun i=>List.getElem?_cons_succ
  obtain⟨P,hP⟩:∃ P,a::r=P:=⟨_,rfl⟩
  rw [hP] at hl0 hlen hg0 hgs hspan h hp ⊢
  have hrl:r.length≤3:=by simp at h4;omega
  clear hP h4
  have Hspan:=ab hspan
  have Hp:=ab hp
  have Hgs:=ab hgs
  have Hlen:=ab hlen
  clear hspan hp hgs hlen
  refine eN func196 rfl ntmps196 fun hO=>?_
  repeat' first|apply fX|apply eA|apply dC|apply eB|apply fY|apply b8|apply gh|apply b_|apply bN|apply cM|apply b9|apply bM|apply bv|apply gg|(apply bw;(· rfl))|(apply cK;simp only [bj])|(apply dx;(· rfl);(· simp only [go_sem, *,By];try rfl);(· rfl);simp only [putA])|(apply eE;simp only [putA])|apply cN|(apply df [];(· simp only [go_sem, *,By];try rfl);(· rfl);(· simp only [go_sem, *,By];try rfl);(· rfl);(iterate 2 (· simp only [go_sem, *,By];try rfl));(first|apply hf);simp only [aU,putA])|(apply dy;(· simp only [go_sem, *,By];try rfl);(· rfl);(· simp only [go_sem, *,By];try rfl))|(apply dM;(iterate 2 (· simp only [go_sem, *,By];try rfl));(· rfl);simp only [putA])|(apply bL;(· simp only [go_sem, *,By];try rfl);(· rfl);simp only [putA])|(apply dz;(· simp only [go_sem, *,By];try rfl))|(apply dB;(· simp only [go_sem, *,By];try rfl))|(apply cL;(· rfl);(fail_if_success (focus (show _=some true;(· simp only [go_sem, *,By];try rfl))));(· simp only [go_sem, *,By];try rfl);all_goals (intro hb;try simp only [ay,aE] at hb))|(apply dA;(· simp only [go_sem, *,By];try rfl);all_goals (intro hb;try simp only [ay,aE] at hb))|fail
  refine cD (fun (i:Nat × Nat × Nat) env S'=>i.1≤3∧(i.1+1≤n∨i.1=0)∧i.2.1<256 * 64 ^ i.1∧i.2.2<256 * 64 ^ i.1∧eJ (n - 1 - i.1) (r.drop i.1) i.2.1 i.2.2=eJ (n - 1) r f f∧env 1000000=.dfr []∧env 0=.sval false (P.map By)∧env 5=.int .i64 (n:Nat)∧env 6=.int .i64 i.2.1∧env 7=.int .i64 i.2.2∧env 8=.int .i64 ((i.1:Int)+1)∧S'=S) (fun i=>4 - i.1) (0,f,f) ?_ ?_
  ·exact⟨bf _,.inr rfl,by simp only;omega,by simp only;omega,rfl,ss,ss,ss,ss,ss,ss,rfl⟩
  ·rintro⟨i,lo,hi⟩ env S' ⟨hi3,hin,hlo,hhi,hsp,e0,f0,e5,e6,e7,e8,rfl⟩ IH
   simp only at hi3 hin hlo hhi hsp e6 e7 e8
   have HI:=ab IH
   have Hsp:=ab hsp
   have H:=ab h
   clear IH h hsp hf
   obtain⟨M,hM⟩:∃ M,64 ^ i=M:=⟨_,rfl⟩
   have hM3:M≤262144:=by rw [← hM];exact gM δ hi3
   have hMs:64 ^ (i+1)=64 * M:=by rw [mw,hM,Nat.mul_comm]
   rw [hM] at hlo hhi
   by_cases hlt:i+1<n
   ·have d0:decide ((i:Int)+1<(n:Int))=true:=κ
    have w1:ae.wrap ((lo:Int) * 64)=((lo * 64:Nat):Int):=by rw [ai _ ω];omega
    have w2:ae.wrap ((hi:Int) * 64)=((hi * 64:Nat):Int):=by rw [ai _ ω];omega
    have w3:ae.wrap (((hi * 64:Nat):Int)+63)=((hi * 64+63:Nat):Int):=by rw [ai _ ω];omega
    have w4:ae.wrap ((i:Int)+1+1)=(i:Int)+1+1:=ai _ ω
    have hst:n - 1 - i=(n - 1 - (i+1))+1:=ω
    by_cases hin2:i<r.length
    ·obtain⟨b,hx⟩:∃ b,r[i]? = some b:=⟨_,ap hin2⟩
     have hPx:P[i+1]? = some b:=by rw [Hgs.out,hx]
     have hb:=Hp.out b (ax hPx)
     have d1:decide ((i:Int)+1<(P.length:Int))=true:=by rw [Hlen.out];simp;omega
     have hdr:r.drop i=b::r.drop (i+1):=by
      rw [qK hin2]
      have:=(af.1 hx).2
      rw [this]
     have htn:((i:Int)+1).toNat=i+1:=ω
     have hge:decide ((0:Int)≤(i:Int)+1)=true:=κ
     by_cases hbad:b<128∨191<b
     ·have hz:fM P=(0,0,0):=by
       rw [Hspan.out,← Hsp.out,hdr,hst,eJ,if_pos hbad]
      have hh:=H.out
      rw [hz] at hh
      have hh:R (.ret (.tup [.int .i64 0,.int .i64 0,.int .i64 0])) S':=hh
      rcases jT b 128 with hb1|hb1
      ·have d2:decide ((b:Int)<128)=true:=κ
       clear hM3 hMs hlo hhi hst hbad hz hdr hlt hin2 hi3 hin hb hb1 hrl hn4 hf256 hM hx
       repeat' first|apply fX|apply eA|apply dC|apply eB|apply fY|apply b8|apply gh|apply b_|apply bN|apply cM|apply b9|apply bM|apply bv|apply gg|(apply bw;(· rfl))|(apply cK;simp only [bj])|(apply dx;(· rfl);(· simp only [go_sem, *,By];try rfl);(· rfl);simp only [putA])|(apply eE;simp only [putA])|apply cN|(apply dy;(· simp only [go_sem, *,By];try rfl);(· rfl);(· simp only [go_sem, *,By];try rfl))|(apply dM;(iterate 2 (· simp only [go_sem, *,By];try rfl));(· rfl);simp only [putA])|(apply bL;(· simp only [go_sem, *,By];try rfl);(· rfl);simp only [putA])|(apply dz;(· simp only [go_sem, *,By];try rfl))|(apply dB;(· simp only [go_sem, *,By];try rfl))|(apply cL;(· rfl);(fail_if_success (focus (show _=some true;(· simp only [go_sem, *,By];try rfl))));(· simp only [go_sem, *,By];try rfl);all_goals (intro hb;try simp only [ay,aE] at hb))|(apply dA;(· simp only [go_sem, *,By];try rfl);all_goals (intro hb;try simp only [ay,aE] at hb))|fail
       refine fR results196 ?_
       exact hh
      ·have d2:decide ((b:Int)<128)=false:=κ
       have d3:decide ((191:Int)<(b:Int))=true:=κ
       clear hM3 hMs hlo hhi hst hbad hz hdr hlt hin2 hi3 hin hb hb1 hrl hn4 hf256 hM hx
       repeat' first|apply fX|apply eA|apply dC|apply eB|apply fY|apply b8|apply gh|apply b_|apply bN|apply cM|apply b9|apply bM|apply bv|apply gg|(apply bw;(· rfl))|(apply cK;simp only [bj])|(apply dx;(· rfl);(· simp only [go_sem, *,By];try rfl);(· rfl);simp only [putA])|(apply eE;simp only [putA])|apply cN|(apply dy;(· simp only [go_sem, *,By];try rfl);(· rfl);(· simp only [go_sem, *,By];try rfl))|(apply dM;(iterate 2 (· simp only [go_sem, *,By];try rfl));(· rfl);simp only [putA])|(apply bL;(· simp only [go_sem, *,By];try rfl);(· rfl);simp only [putA])|(apply dz;(· simp only [go_sem, *,By];try rfl))|(apply dB;(· simp only [go_sem, *,By];try rfl))|(apply cL;(· rfl);(fail_if_success (focus (show _=some true;(· simp only [go_sem, *,By];try rfl))));(· simp only [go_sem, *,By];try rfl);all_goals (intro hb;try simp only [ay,aE] at hb))|(apply dA;(· simp only [go_sem, *,By];try rfl);all_goals (intro hb;try simp only [ay,aE] at hb))|fail
       refine fR results196 ?_
       exact hh
     ·have d2:decide ((b:Int)<128)=false:=κ
      have d3:decide ((191:Int)<(b:Int))=false:=κ
      have hw:ae.wrap (b:Int)=b:=ai _ ω
      have w5:ae.wrap ((b:Int) - 128)=((b - 128:Nat):Int):=by rw [ai _ ω];omega
      have w6:ae.wrap (((lo * 64:Nat):Int)+((b - 128:Nat):Int))=((lo * 64+(b - 128):Nat):Int):=by rw [ai _ ω];omega
      have w7:ae.wrap (((hi * 64+63:Nat):Int) - 63)=((hi * 64:Nat):Int):=by rw [ai _ ω];omega
      have w8:ae.wrap (((hi * 64:Nat):Int)+((b - 128:Nat):Int))=((hi * 64+(b - 128):Nat):Int):=by rw [ai _ ω];omega
      have hsp2:eJ (n - 1 - (i+1)) (r.drop (i+1)) (lo * 64+(b - 128)) (hi * 64+(b - 128))=eJ (n - 1) r f f:=by
       rw [← Hsp.out,hdr,hst,eJ,if_neg hbad]
      have hq1:lo * 64+(b - 128)<256 * 64 ^ (i+1):=by rw [hMs];omega
      have hq2:hi * 64+(b - 128)<256 * 64 ^ (i+1):=by rw [hMs];omega
      have hi4:i+1≤3:=ω
      have HF:=ab (a7 hsp2 (a7 hq1 (a7 hq2 (a7 hi4 hlt))))
      clear hM3 hMs hlo hhi hst hbad hdr hlt hin2 hi3 hin hb hrl hn4 hf256 hM hx hsp2 hq1 hq2 hi4
      repeat' first|apply fX|apply eA|apply dC|apply eB|apply fY|apply b8|apply gh|apply b_|apply bN|apply cM|apply b9|apply bM|apply bv|apply gg|(apply bw;(· rfl))|(apply cK;simp only [bj])|(apply dx;(· rfl);(· simp only [go_sem, *,By];try rfl);(· rfl);simp only [putA])|(apply eE;simp only [putA])|apply cN|(apply dy;(· simp only [go_sem, *,By];try rfl);(· rfl);(· simp only [go_sem, *,By];try rfl))|(apply dM;(iterate 2 (· simp only [go_sem, *,By];try rfl));(· rfl);simp only [putA])|(apply bL;(· simp only [go_sem, *,By];try rfl);(· rfl);simp only [putA])|(apply dz;(· simp only [go_sem, *,By];try rfl))|(apply dB;(· simp only [go_sem, *,By];try rfl))|(apply cL;(· rfl);(fail_if_success (focus (show _=some true;(· simp only [go_sem, *,By];try rfl))));(· simp only [go_sem, *,By];try rfl);all_goals (intro hb;try simp only [ay,aE] at hb))|(apply dA;(· simp only [go_sem, *,By];try rfl);all_goals (intro hb;try simp only [ay,aE] at hb))|fail
      obtain⟨hsp2,hq1,hq2,hi4,hlt⟩:=HF.out
      refine HI.out (i+1,lo * 64+(b - 128),hi * 64+(b - 128)) _ _ (by simp only;omega) ⟨hi4,.inl hlt,hq1,hq2,hsp2, ?_, ?_, ?_, ?_, ?_, ?_,rfl⟩
      all_goals (simp only [go_sem, *];try rfl)
    ·have d1:decide ((i:Int)+1<(P.length:Int))=false:=by rw [Hlen.out];simp;omega
     have hdr:r.drop i=[]:=Fw ω
     have hsp2:eJ (n - 1 - (i+1)) (r.drop (i+1)) (lo * 64) (hi * 64+63)=eJ (n - 1) r f f:=by
      rw [← Hsp.out,hdr,hst,eJ,Fw ω]
     have hq1:lo * 64<256 * 64 ^ (i+1):=by rw [hMs];omega
     have hq2:hi * 64+63<256 * 64 ^ (i+1):=by rw [hMs];omega
     have hi4:i+1≤3:=ω
     have HF:=ab (a7 hsp2 (a7 hq1 (a7 hq2 (a7 hi4 hlt))))
     clear hM3 hMs hlo hhi hst hdr hlt hin2 hi3 hin hrl hn4 hf256 hM hsp2 hq1 hq2 hi4
     refine ε0 ?_
     obtain⟨hsp2,hq1,hq2,hi4,hlt⟩:=HF.out
     refine HI.out (i+1,lo * 64,hi * 64+63) _ _ (by simp only;omega) ⟨hi4,.inl hlt,hq1,hq2,hsp2, ?_, ?_, ?_, ?_, ?_, ?_,rfl⟩
     all_goals (simp only [go_sem, *];try rfl)
   ·have d0:decide ((i:Int)+1<(n:Int))=false:=κ
    have hsp3:eJ (n - 1) r f f=some (lo,hi):=by
     rw [← Hsp.out,show n - 1 - i=0 by omega,eJ]
    have hh:=H.out
    rw [Hspan.out,hsp3] at hh
    simp only at hh
    by_cases hnl:n<r.length+1
    ·rw [if_pos hnl] at hh
     have hh:R (.ret (.tup [.int .i64 0,.int .i64 0,.int .i64 0])) S':=hh
     have d1:decide ((n:Int)<(P.length:Int))=true:=by rw [Hlen.out];simp;omega
     clear hM3 hMs hlo hhi hlt hi3 hin hrl hn4 hf256 hM hsp3 hnl
     refine ε0 ?_
     refine fR results196 ?_
     exact hh
    ·rw [if_neg hnl] at hh
     unfold An at hh
     simp only at hh
     have d1:decide ((n:Int)<(P.length:Int))=false:=by rw [Hlen.out];simp;omega
     clear hM3 hMs hlo hhi hlt hi3 hin hrl hn4 hf256 hM hsp3 hnl
     refine ε0 ?_
     refine fR results196 ?_
     exact hh
theorem rY:∀ (n:Nat) (r:List Nat) (lo hi:Nat) (q:Nat × Nat),eJ n r lo hi=some q→q.1≤(lo+1) * 64 ^ n∧q.2+1≤(hi+1) * 64 ^ n
 | 0,r,lo,hi,q,h=>by
  rw [eJ] at h;cases h;simp
 | n+1,[],lo,hi,q,h=>by
  rw [eJ] at h
  have:=rY n [] _ _ q h
  rw [mw,← pX,← pX]
  have e1:(lo+1) * 64 ^ n * 64=(lo * 64+64) * 64 ^ n:=by rw [lb,eH]
  have e2:(hi+1) * 64 ^ n * 64=(hi * 64+63+1) * 64 ^ n:=by rw [lb,eH]
  rw [e1,e2]
  refine⟨fc this.1 (bK _ ω),this.2⟩
 | n+1,b::r,lo,hi,q,h=>by
  rw [eJ] at h
  split at h
  ·cases h
  ·have:=rY n r _ _ q h
   rw [mw,← pX,← pX]
   have e1:(lo+1) * 64 ^ n * 64=(lo * 64+64) * 64 ^ n:=by rw [lb,eH]
   have e2:(hi+1) * 64 ^ n * 64=(hi * 64+64) * 64 ^ n:=by rw [lb,eH]
   rw [e1,e2]
   refine⟨fc this.1 (bK _ ω),fc this.2 (bK _ ω)⟩
theorem C_(p:List Nat)(hp:∀ x∈p,x<256):(fM p).1≤134217728∧(fM p).2.1≤134217728∧(fM p).2.2≤4:=by
 cases p with
 | nil=>simp [fM]
 | cons a r =>
  have hf:=uD a (hp a (dG ..))
  rw [fM]
  cases hs:eJ ((cg a).1 - 1) r (cg a).2 (cg a).2 with
  | none=>simp
  | some q =>
   have:=rY _ _ _ _ _ hs
   obtain⟨lo,hi⟩:=q
   simp only at this ⊢
   have h3:64 ^ ((cg a).1 - 1)≤262144:=gM (by decide:64>0) (show (cg a).1 - 1≤3 by omega)
   have h4:((cg a).2+1) * 64 ^ ((cg a).1 - 1)≤257 * 262144:=Nat.mul_le_mul ω h3
   split
   ·simp
   ·simp only;omega
theorem I9(p:List Nat)(hp:∀ x∈p,x<256)(h4:p.length≤4)(R:Rt)(h:R (.ret (.tup [.bool (kz p).1,.bool (kz p).2])) S):ao prog w0 118 [.sval false (p.map By)] S R:=by
 have hs:=fun S'=>I7 w0 S' p hp h4
 have hle:=C_ p hp
 unfold An at hs
 unfold kz at h
 simp only at h
 generalize fM p=q at hs hle h
 obtain⟨lo,hi,n⟩:=q
 simp only at hs hle h
 obtain⟨l1,l2,l3⟩:=hle
 have hn:n=0∨n=1∨n=2∨n=3∨n=4:=ω
 clear hp h4 l1 l2 l3
 rcases hn with rfl|rfl|rfl|rfl|rfl
 ·have h:R (.ret (.tup [.bool false,.bool false])) S:=h
  have e0:(((0:Nat):Int)==0)=true:=rfl
  exact γR1 hs func118 ntmps118 results118 h
 all_goals
  rw [if_neg δ] at h
  simp only [qj,uu] at h
 ·have e0:(((1:Nat):Int)==0)=false:=rfl
  obtain⟨L,hL⟩:∃ L,max lo 0=L:=⟨_,rfl⟩
  obtain⟨M,hM⟩:∃ M,min hi 127=M:=⟨_,rfl⟩
  rw [hL,hM] at h
  have m1:(if (0:Int)>(lo:Int) then (0:Int) else (lo:Int))=(L:Int):=by rw [← hL];split<;>omega
  have m2:(if (127:Int)<(hi:Int) then (127:Int) else (hi:Int))=(M:Int):=by rw [← hM];split<;>omega
  replace hM:M≤127:=ω
  clear hL
  by_cases c1:L≤M
  ·have d1:decide ((L:Int)≤(M:Int))=true:=κ
   by_cases c2:55296≤L
   ·exact absurd c1 ω
   ·have d2:decide ((55296:Int)≤(L:Int))=false:=κ
    by_cases c4:p.length=1
    ·have d4:((p.length:Int)==((1:Nat):Int))=true:=by rw [beq_iff_eq];omega
     simp only [decide_eq_true c1,decide_eq_false c2,decide_eq_true c4,bP,bO,cG,cq,bQ,cr] at h
     clear hM c1 c2 c4
     exact ΓR1 hs func118 ntmps118 results118 h
    ·have d4:((p.length:Int)==((1:Nat):Int))=false:=ν
     simp only [decide_eq_true c1,decide_eq_false c2,decide_eq_false c4,bP,bO,cG,cq,bQ,cr] at h
     clear hM c1 c2 c4
     exact ΓR1 hs func118 ntmps118 results118 h
  ·have d1:decide ((L:Int)≤(M:Int))=false:=κ
   simp only [decide_eq_false c1,bP,bO,cG,cq,bQ,cr] at h
   clear hM c1
   exact ΓR1 hs func118 ntmps118 results118 h
 ·have e0:(((2:Nat):Int)==0)=false:=rfl
  obtain⟨L,hL⟩:∃ L,max lo 128=L:=⟨_,rfl⟩
  obtain⟨M,hM⟩:∃ M,min hi 2047=M:=⟨_,rfl⟩
  rw [hL,hM] at h
  have m1:(if (128:Int)>(lo:Int) then (128:Int) else (lo:Int))=(L:Int):=by rw [← hL];split<;>omega
  have m2:(if (2047:Int)<(hi:Int) then (2047:Int) else (hi:Int))=(M:Int):=by rw [← hM];split<;>omega
  replace hM:M≤2047:=ω
  clear hL
  by_cases c1:L≤M
  ·have d1:decide ((L:Int)≤(M:Int))=true:=κ
   by_cases c2:55296≤L
   ·exact absurd c1 ω
   ·have d2:decide ((55296:Int)≤(L:Int))=false:=κ
    by_cases c4:p.length=2
    ·have d4:((p.length:Int)==((2:Nat):Int))=true:=by rw [beq_iff_eq];omega
     simp only [decide_eq_true c1,decide_eq_false c2,decide_eq_true c4,bP,bO,cG,cq,bQ,cr] at h
     clear hM c1 c2 c4
     exact ΓR1 hs func118 ntmps118 results118 h
    ·have d4:((p.length:Int)==((2:Nat):Int))=false:=ν
     simp only [decide_eq_true c1,decide_eq_false c2,decide_eq_false c4,bP,bO,cG,cq,bQ,cr] at h
     clear hM c1 c2 c4
     exact ΓR1 hs func118 ntmps118 results118 h
  ·have d1:decide ((L:Int)≤(M:Int))=false:=κ
   simp only [decide_eq_false c1,bP,bO,cG,cq,bQ,cr] at h
   clear hM c1
   exact ΓR1 hs func118 ntmps118 results118 h
 ·have e0:(((3:Nat):Int)==0)=false:=rfl
  obtain⟨L,hL⟩:∃ L,max lo 2048=L:=⟨_,rfl⟩
  obtain⟨M,hM⟩:∃ M,min hi 65535=M:=⟨_,rfl⟩
  rw [hL,hM] at h
  have m1:(if (2048:Int)>(lo:Int) then (2048:Int) else (lo:Int))=(L:Int):=by rw [← hL];split<;>omega
  have m2:(if (65535:Int)<(hi:Int) then (65535:Int) else (hi:Int))=(M:Int):=by rw [← hM];split<;>omega
  replace hM:M≤65535:=ω
  clear hL
  by_cases c1:L≤M
  ·have d1:decide ((L:Int)≤(M:Int))=true:=κ
   by_cases c2:55296≤L
   ·have d2:decide ((55296:Int)≤(L:Int))=true:=κ
    by_cases c3:M≤57343
    ·have d3:decide ((M:Int)≤57343)=true:=κ
     simp only [decide_eq_true c1,decide_eq_true c2,decide_eq_true c3,bP,bO,cG,cq,bQ,cr] at h
     clear hM c1 c2 c3
     exact ΓR1 hs func118 ntmps118 results118 h
    ·have d3:decide ((M:Int)≤57343)=false:=κ
     by_cases c4:p.length=3
     ·have d4:((p.length:Int)==((3:Nat):Int))=true:=by rw [beq_iff_eq];omega
      simp only [decide_eq_true c1,decide_eq_true c2,decide_eq_false c3,decide_eq_true c4,bP,bO,cG,cq,bQ,cr] at h
      clear hM c1 c2 c3 c4
      exact ΓR1 hs func118 ntmps118 results118 h
     ·have d4:((p.length:Int)==((3:Nat):Int))=false:=ν
      simp only [decide_eq_true c1,decide_eq_true c2,decide_eq_false c3,decide_eq_false c4,bP,bO,cG,cq,bQ,cr] at h
      clear hM c1 c2 c3 c4
      exact ΓR1 hs func118 ntmps118 results118 h
   ·have d2:decide ((55296:Int)≤(L:Int))=false:=κ
    by_cases c4:p.length=3
    ·have d4:((p.length:Int)==((3:Nat):Int))=true:=by rw [beq_iff_eq];omega
     simp only [decide_eq_true c1,decide_eq_false c2,decide_eq_true c4,bP,bO,cG,cq,bQ,cr] at h
     clear hM c1 c2 c4
     exact ΓR1 hs func118 ntmps118 results118 h
    ·have d4:((p.length:Int)==((3:Nat):Int))=false:=ν
     simp only [decide_eq_true c1,decide_eq_false c2,decide_eq_false c4,bP,bO,cG,cq,bQ,cr] at h
     clear hM c1 c2 c4
     exact ΓR1 hs func118 ntmps118 results118 h
  ·have d1:decide ((L:Int)≤(M:Int))=false:=κ
   simp only [decide_eq_false c1,bP,bO,cG,cq,bQ,cr] at h
   clear hM c1
   exact ΓR1 hs func118 ntmps118 results118 h
 ·have e0:(((4:Nat):Int)==0)=false:=rfl
  obtain⟨L,hL⟩:∃ L,max lo 65536=L:=⟨_,rfl⟩
  obtain⟨M,hM⟩:∃ M,min hi 1114111=M:=⟨_,rfl⟩
  rw [hL,hM] at h
  have m1:(if (65536:Int)>(lo:Int) then (65536:Int) else (lo:Int))=(L:Int):=by rw [← hL];split<;>omega
  have m2:(if (1114111:Int)<(hi:Int) then (1114111:Int) else (hi:Int))=(M:Int):=by rw [← hM];split<;>omega
  replace hM:M≤1114111:=ω
  clear hL
  by_cases c1:L≤M
  ·have d1:decide ((L:Int)≤(M:Int))=true:=κ
   by_cases c2:55296≤L
   ·have d2:decide ((55296:Int)≤(L:Int))=true:=κ
    by_cases c3:M≤57343
    ·have d3:decide ((M:Int)≤57343)=true:=κ
     simp only [decide_eq_true c1,decide_eq_true c2,decide_eq_true c3,bP,bO,cG,cq,bQ,cr] at h
     clear hM c1 c2 c3
     exact ΓR1 hs func118 ntmps118 results118 h
    ·have d3:decide ((M:Int)≤57343)=false:=κ
     by_cases c4:p.length=4
     ·have d4:((p.length:Int)==((4:Nat):Int))=true:=by rw [beq_iff_eq];omega
      simp only [decide_eq_true c1,decide_eq_true c2,decide_eq_false c3,decide_eq_true c4,bP,bO,cG,cq,bQ,cr] at h
      clear hM c1 c2 c3 c4
      exact ΓR1 hs func118 ntmps118 results118 h
     ·have d4:((p.length:Int)==((4:Nat):Int))=false:=ν
      simp only [decide_eq_true c1,decide_eq_true c2,decide_eq_false c3,decide_eq_false c4,bP,bO,cG,cq,bQ,cr] at h
      clear hM c1 c2 c3 c4
      exact ΓR1 hs func118 ntmps118 results118 h
   ·have d2:decide ((55296:Int)≤(L:Int))=false:=κ
    by_cases c4:p.length=4
    ·have d4:((p.length:Int)==((4:Nat):Int))=true:=by rw [beq_iff_eq];omega
     simp only [decide_eq_true c1,decide_eq_false c2,decide_eq_true c4,bP,bO,cG,cq,bQ,cr] at h
     clear hM c1 c2 c4
     exact ΓR1 hs func118 ntmps118 results118 h
    ·have d4:((p.length:Int)==((4:Nat):Int))=false:=ν
     simp only [decide_eq_true c1,decide_eq_false c2,decide_eq_false c4,bP,bO,cG,cq,bQ,cr] at h
     clear hM c1 c2 c4
     exact ΓR1 hs func118 ntmps118 results118 h
  ·have d1:decide ((L:Int)≤(M:Int))=false:=κ
   simp only [decide_eq_false c1,bP,bO,cG,cq,bQ,cr] at h
   clear hM c1
   exact ΓR1 hs func118 ntmps118 results118 h
theorem xJ(p:List Nat):di p=0∨di p=1∨di p=2:=by
 cases p with
 | nil=>exact .inl rfl
 | cons a r =>
  simp only [di]
  repeat' split
  all_goals simp
theorem yW(p:List Nat)(hp:∀ x∈p,x<256)(h4:p.length≤4)(R:Rt)(h:R (.ret (.bool (e9 p))) S):ao prog w0 57 [.sval false (p.map By)] S R:=by
 have hg:=fun S'=>I9 w0 S' p hp h4
 rw [uC] at hg
 by_cases he:p=[]
 ·subst he
  have h:R (.ret (.bool true)) S:=h
  have hg:∀ S' (R:Rt),R (.ret (.tup [.bool false,.bool false])) S'→ao prog w0 118 [.sval false (bn By [])] S' R:=hg
  have e0:(((0:Nat):Int)==0)=true:=rfl
  simp only [aj] at hg ⊢
  clear hp h4
  exact γR1 hg func57 ntmps57 results57 h
 ·have hl:((p.length:Int)==0)=false:=by
   rw [beq_eq_false_iff_ne]
   intro e
   exact he (kE.1 ω)
  have hr:e9 p=decide (di p=1):=by unfold e9;rw [decide_eq_false he,wG]
  rw [hr] at h
  have hk:=xJ p
  generalize di p=kd at hg h hk
  clear he hp h4 hr
  rcases hk with rfl|rfl|rfl
  ·have h:R (.ret (.bool false)) S:=h
   have hg:∀ S' (R:Rt),R (.ret (.tup [.bool false,.bool false])) S'→ao prog w0 118 [.sval false (bn By p)] S' R:=hg
   exact γR1 hg func57 ntmps57 results57 h
  ·have h:R (.ret (.bool true)) S:=h
   have hg:∀ S' (R:Rt),R (.ret (.tup [.bool true,.bool false])) S'→ao prog w0 118 [.sval false (bn By p)] S' R:=hg
   exact γR1 hg func57 ntmps57 results57 h
  ·have h:R (.ret (.bool false)) S:=h
   have hg:∀ S' (R:Rt),R (.ret (.tup [.bool true,.bool true])) S'→ao prog w0 118 [.sval false (bn By p)] S' R:=hg
   exact γR1 hg func57 ntmps57 results57 h
theorem J7(p:List Nat)(hb:∀ x∈p,x<256)(hr:e9 p=true)(R:Rt)(h:R (.ret (.sval false ((gU p).map Co))) S):ao prog w0 223 [.sval false (p.map By)] S R:=by
 have hri:=fun S'=>yW w0 S' p hb (t_ (nu hr))
 rw [hr] at hri
 by_cases hp:p=[]
 ·subst hp
  have h:R (.ret (.sval false [])) S:=h
  have e0:decide ((0:Int)<((0:Nat):Int))=false:=rfl
  simp only [aj]
  clear hr hri hb
  exact γR0 func223 ntmps223 results223 h
 ·have hl:decide ((0:Int)<(p.length:Int))=true:=by
   cases p with
   | nil=>exact absurd rfl hp
   | cons a r=>simp only [aB,decide_eq_true_eq];omega
  rw [gU,if_neg hp] at h
  have h:R (.ret (.sval false [AV.int .i64 65533])) S:=h
  clear hr hp hb
  exact γR1 hri func223 ntmps223 results223 h
theorem DA(p:List Nat)(b:Nat)(hb:b<256)(hr:e9 p=true)(hp:∀ x∈p,x<256)
  (hrec:p≠[]→∀ (S':List aH) (R:Rt),R (.ret (iB (gR b))) S'→ao prog w0 119 [.sval false [],.int .u8 b] S' R)
  (R:Rt) (h:R (.ret (iB (dN p b))) S):ao prog w0 119 [.sval false (p.map By),.int .u8 b] S R:=by
 have hl3:=nu hr
 have hpb:∀ x∈p++[b],x<256:=by
  intro x hx
  rcases bV.1 hx with hx|hx
  ·exact hp x hx
  ·rw [a_.1 hx];exact hb
 have hri:=fun S'=>yW w0 S' p hp (t_ hl3)
 rw [hr] at hri
 have hk:=fun S'=>I9 w0 S' (p++[b]) hpb κ
 rw [uC] at hk
 have hb0:p.length * 1≤140737488355328:=ω
 have hb00:(0+p.length) * 1≤140737488355328:=ω
 have hb1:(p.length+1) * 1≤140737488355328:=ω
 have happ:bn By p++[AV.int .u8 b]=bn By (p++[b]):=by rw [aM];rfl
 have hlen:(p++[b]).length=p.length+1:=χ
 have htk:rg p.length (bn By p)=bn By p:=dJ χ
 have hc:=fun S'=>I7 w0 S' (p++[b]) hpb κ
 have hsc:=Bq (p:=p++[b])
 have hall:=By.all1 p
 simp only [AV.cells] at hall
 have okA:=By.ok p
 simp only [cI,AV.cells] at okA
 have hle:(p.length:Int)≤(p.length:Int):=Fy _
 have hbe:(p.length==p.length)=true:=χ
 unfold dN at h
 have Happ:=ab happ
 have Hc:=ab hc
 have Hsc:=ab hsc
 have Hrec:=ab hrec
 have H:=ab h
 clear hp hb happ hc hrec h hl3 hr hpb hsc
 refine eN func119 rfl ntmps119 fun hO=>?_
 refine ε1 hri ?_
 rw [Happ.out]
 refine i8 S.length ss ?_
 try simp only [go_sem, *]
 have h012:=xJ (p++[b])
 obtain⟨kd,hkd⟩:∃ kd,di (p++[b])=kd:=⟨_,rfl⟩
 rw [hkd] at hk h012
 rcases h012 with rfl|rfl|rfl
 ·have hh:=H.out
  rw [hkd,if_neg δ,if_neg δ] at hh
  have hk:∀ S' (R:Rt),R (.ret (.tup [.bool false,.bool false])) S'→ao prog w0 118 [.sval false (bn By (p++[b]))] S' R:=hk
  clear hkd
  by_cases hp:p=[]
  ·subst hp
   rw [if_pos rfl] at hh
   have e0:(((0:Nat):Int)==0)=true:=rfl
   unfold iB at hh
   simp only [al,aj,Co] at hh
   refine ε1 hk ?_
   refine fR results119 ?_
   exact hh
  ·rw [if_neg hp] at hh
   have hrec:=Hrec.out hp
   have hl0:((p.length:Int)==0)=false:=by
    rw [beq_eq_false_iff_ne]
    intro e
    exact hp (kE.1 ω)
   have hq1:(gR b).2.length≤1:=by unfold gR;split<;>(try split)<;>simp
   generalize gR b=q at hrec hh hq1
   obtain⟨q1,q2⟩:=q
   unfold iB at hh hrec
   simp only [al,Co] at hh hrec hq1
   have okC:=Co.ok q2
   simp only [cI,AV.cells] at okC
   have hb8:(1+q2.length) * 8≤140737488355328:=ω
   clear hp hq1
   refine ε2 hk hrec ?_
   have hcm:(1+q2.length=q2.length+1)=True:=by rw [Nat.add_comm];simp
   refine fR results119 ?_
   exact hh
 ·have hh:=H.out
  rw [hkd,if_neg δ,if_pos rfl] at hh
  have hk:∀ S' (R:Rt),R (.ret (.tup [.bool true,.bool false])) S'→ao prog w0 118 [.sval false (bn By (p++[b]))] S' R:=hk
  unfold iB at hh
  simp only [aj] at hh
  clear hkd
  refine ε1 hk ?_
  refine fR results119 ?_
  exact hh
 ·have hh:=H.out
  rw [hkd,if_pos rfl] at hh
  have hk:∀ S' (R:Rt),R (.ret (.tup [.bool true,.bool true])) S'→ao prog w0 118 [.sval false (bn By (p++[b]))] S' R:=hk
  have hc:=Hc.out
  have hsc:=Hsc.out hkd
  rw [← hsc] at hh
  generalize fM (p++[b])=q at hc hh hsc
  obtain⟨q1,q2,q3⟩:=q
  unfold iB at hh
  unfold An at hc
  simp only [al,aj,Co] at hh hc
  clear hkd hsc
  refine ε2 hk hc ?_
  refine fR results119 ?_
  exact hh
theorem J4(b:Nat)(hb:b<256)(R:Rt)(h:R (.ret (iB (gR b))) S):ao prog w0 119 [.sval false [],.int .u8 b] S R:=by
 refine DA w0 S [] b hb rfl χ (fun hh=>absurd rfl hh) R ?_
 have e:dN [] b=gR b:=by unfold dN gR;simp
 rw [e];exact h
theorem I6(p:List Nat)(b:Nat)(hb:b<256)(hr:e9 p=true)(hp:∀ x∈p,x<256)(R:Rt)(h:R (.ret (iB (dN p b))) S) :
  ao prog w0 119 [.sval false (p.map By),.int .u8 b] S R :=
 DA w0 S p b hb hr hp (fun _ S' R h=>J4 w0 S' b hb R h) R h
theorem JP(l:List Nat):(kG l).2.length≤2 * l.length+1:=by
 have h:=(qx l []).2
 have e:lW [] l=(kG l).2++gU (kG l).1:=m9 l
 rw [e,ah] at h
 omega
theorem J_(s:List UInt8)(hs:s.length≤100000000)(R:Rt)(h:R (.ret (.sval false ((dY s).map Co))) S):ao prog w0 177 [.str s] S R:=by
 have hsm:∀ b∈s.map aK,b<256:=by
  intro b hb
  obtain⟨c,_,rfl⟩:=aN.1 hb
  exact c.toNat_lt
 have hall:=I2 (s.map aK) hsm
 have hcb:dY s=(kG (s.map aK)).2++gU (kG (s.map aK)).1:=m9 _
 have Hall:=ab hall
 have Hcb:=ab hcb
 clear hall hcb hsm
 refine eN func177 rfl ntmps177 fun hO=>?_
 refine ε0 ?_
 refine ij (t:=3) 3 1 ss δ ?_
 refine yK (t:=4) ss ?_
 try simp only [go_sem, *]
 refine cD (fun (i:Nat) env S'=>i≤s.length∧env 1000000=.dfr []∧env 0=.str s∧env 3=.sown S.length i (kG ((s.map aK).take i)).2.length∧env 4=.sval false ((kG ((s.map aK).take i)).1.map By)∧env 5=.int .i64 (i:Int) ∧
  S'=S++[.arr 3 1 0 i ((kG ((s.map aK).take i)).2.map Co)]) (fun i=>s.length - i) 0 ?_ ?_
 ·exact⟨bf _,ss,ss,ss,ss,ss,rfl⟩
 ·rintro i env S' ⟨hi,e0,f0,f3,f4,f5,rfl⟩ IH
  have HI:=ab IH
  have H:=ab h
  clear IH h
  obtain⟨hri,hpb⟩:=Hall.out i
  have hsl:=JP ((s.map aK).take i)
  have htl:((s.map aK).take i).length≤i:=nl _ _
  by_cases hlt:i<s.length
  ·obtain⟨c,hx⟩:∃ c,s[i]? = some c:=⟨_,ap hlt⟩
   have hct:c.toNat<256:=c.toNat_lt
   have hxn:(s.map aK)[i]? = some c.toNat:=by rw [aJ,hx];rfl
   have hsucc:=oX hxn
   have hst:=fun S'=>I6 w0 S' (kG ((s.map aK).take i)).1 c.toNat hct hri hpb
   have hcl:=(jc (kG ((s.map aK).take i)).1 c.toNat).2
   generalize kG ((s.map aK).take i)=q at *
   obtain⟨p,o⟩:=q
   simp only at hst hsucc hcl f3 f4 hsl hri hpb ⊢
   generalize dN p c.toNat=r at hst hsucc hcl
   obtain⟨p',o'⟩:=r
   unfold iB at hst
   simp only at hst hsucc hcl
   have h1:decide ((i:Int)<(s.length:Int))=true:=by simpa using hlt
   have hw1:ae.wrap ((i:Int)+1)=(i:Int)+1:=ai _ ω
   have hb8:(o.length+o'.length) * 8≤140737488355328:=ω
   have okC:=Co.ok o'
   simp only [cI,AV.cells] at okC
   have Hsucc:=ab hsucc
   have Hlt:=ab hlt
   have hlen:(o.map Co).length=o.length:=χ
   clear hi hs hct hxn hcl hri hpb hsucc hsl htl hlt
   refine ε1 hst ?_
   refine bX hO 1 [0,3,4,5] rfl ss ss ss ?_
   simp only [aR,aO]
   refine HI.out (i+1) _ _ (by have:=Hlt.out;omega) ⟨Hlt.out, ?_, ?_, ?_, ?_, ?_, ?_⟩
   ·exact ss
   ·exact ss
   ·rw [Hsucc.out,ah];first|done|(simp only [go_sem, *];try rfl)
   ·rw [Hsucc.out];first|done|(simp only [go_sem, *];try rfl)
   ·exact ss
   ·rw [Hsucc.out,aM];first|done|rfl
  ·have hie:i=s.length:=ω
   subst hie
   have htk:(s.map aK).take s.length=s.map aK:=by rw [← bi (f:=aK),bC]
   rw [htk] at hri hpb hsl f3 f4 ⊢
   have hfl:=fun S'=>J7 w0 S' (kG (s.map aK)).1 hpb hri
   have hcb:=Hcb.out
   have hf1:(gU (kG (s.map aK)).1).length≤1:=by unfold gU;split<;>simp
   generalize kG (s.map aK)=q at *
   obtain⟨p,o⟩:=q
   simp only at hfl hcb f3 f4 hsl hri hpb hf1 ⊢
   generalize gU p=fl at hfl hcb hf1
   have h1:decide ((s.length:Int)<(s.length:Int))=false:=χ
   have hml:(s.map aK).length=s.length:=χ
   have hb8:(o.length+fl.length) * 8≤140737488355328:=ω
   have okC:=Co.ok fl
   simp only [cI,AV.cells] at okC
   have hlen:(o.map Co).length=o.length:=χ
   have hh:=H.out
   rw [hcb] at hh
   clear hi hs hri hpb hsl htl hlt hf1 htk hcb hml
   refine ε1 hfl ?_
   rw [← aM]
   have hln:(o++fl).length=o.length+fl.length:=ah
   refine fR results177 ?_
   exact hh
end Go.Proofs.YthdbijpefkapnaaGreatDoor
