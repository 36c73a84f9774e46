/- YthdbijpefkapnaaGreatDoorWalk1. Texts of the proof of a law about texts: a layer of abstract values above the worlds, the types, the walks of the functions that the law reaches, the law and its card. Own work of an AI agent. -/
import Derived.Test.YthdbijpefkapnaaGreatDoorWalk0
import Derived.Test.YthdbijpefkapnaaGreatDoorCore2
import Derived.Shelf.Strings.Search1
import Derived.Test.YthdbijpefkapnaaGreatDoorShelf
import Derived.Test.YthdbijpefkapnaaGreatDoorCore1
set_option linter.all false
set_option maxHeartbeats 40000000
open And renaming intro → dw
open BitVec renaming getLsbD_and → wC, getLsbD_not → wB, getLsbD_ofNat → ux, getLsbD_zero → vN, ofInt → ai, ofNat → mP, toNat_and → Au, toNat_ofInt → bL, toNat_or → Cn
open Bool renaming and_eq_true → aj, eq_iff_iff → dX, false_eq_true → bJ, false_or → uq, not_eq_false' → aG, not_eq_true' → az, not_true → x9, or_eq_false_iff → bj, or_eq_true → ef, or_false → eI, true_and → lX
open Function renaming comp_def → aN
open Go.IntKind renaming bits → a6, i64 → af, u64 → aO
open Go.IntWalk renaming i64_in → au
open Go.Lib renaming hid → ae, indexByte → ci
open Go.RowKit.Below renaming refl → jR
open Int renaming fdiv_eq_ediv_of_nonneg → vJ
open List renaming all_eq_true → aq, all_map → be, any_cons → ed, any_nil → fc, append_nil → aE, getElem?_append_left → ap, getElem?_append_right → aw, getElem?_eq_getElem → al, getElem?_eq_some_iff → ab, getElem?_of_mem → aQ, getElem?_set_ne → bl, length → dM, length_append → ah, length_drop → kV, length_map → aY, map → bE, map_append → bg, map_cons → aA, map_nil → aC, mem_map → aH, mem_of_getElem? → ar, range → bC, set_append_left → Af, set_append_right → cZ, take → lm, takeWhile_append_dropWhile → nS, take_left → kU, take_length → bk, take_zero → co, toList_toArray → bt
open Nat renaming and_two_pow_sub_one_eq_mod → vH, lt_of_lt_of_le → jS, mod_lt → gj, pow_le_pow_right → dL, testBit → xS, testBit_lt_two_pow → kS, zero_le → bx
namespace Go.Proofs.YthdbijpefkapnaaGreatDoor
open Go Go.Fen
attribute [local irreducible] aX WP ao er nF dt bK fD
set_option maxRecDepth 8000
theorem FW (a b:Nat):(a:Int).tmod (b:Int)=((a % b:Nat):Int):=by rw [Int.tmod_eq_emod_of_nonneg (by omega)];omega
theorem FX (a b:Nat) (h:a<4294967296):af.wrap ((a:Int).tdiv (b:Int))=((a / b:Nat):Int):=by
 have:=Nat.div_le_self a b
 rw [Int.tdiv_eq_ediv_of_nonneg (by omega),← Int.natCast_ediv]
 generalize a / b=q at *
 exact au _ (by omega)
def dst (V:List Nat) (i:Nat):lj:=(V.take i).foldl cY ⟨[],0,0⟩
def vF (q:lj):Prop:=(q.wait=0∧q.rest=0)∨(q.wait=6∧q.rest<64)∨(q.wait=4∧q.rest<16)∨(q.wait=2∧q.rest<4)
theorem zl {q:lj}{v:Nat} (h:vF q) (hv:v<64):vF (cY q v)∧(cY q v).out.length≤q.out.length+1:=by
 obtain⟨o,w,r⟩:=q
 unfold vF cY at *
 simp only at *
 rcases h with⟨rfl,rfl⟩ | ⟨rfl,h⟩ | ⟨rfl,h⟩ | ⟨rfl,h⟩<;>simp<;>omega
def Ac.av (a:Ac):AV:=.agg [.int .i64 a.kind,.int .i64 a.n,.int .i64 a.m,.int .i64 a.ck,.int .i64 a.cn,.str a.text]
def uT:Option Ac→AV
 | some a=>.tup [a.av,.bool true]
 | none=>.tup [zeroA.av,.bool false]
theorem rY {s w r:List UInt8} (h:iB s=some (w,r)):w.length≤s.length∧r.length≤s.length:=by
 unfold iB at h
 split at h
 ·cases h
 ·cases h
  have htd:=congrArg dM (nS (p:=fun b=>b != 59) (l:=s))
  rw [ah] at htd
  rw [kV]
  omega
def rk:Option (List UInt8)→AV
 | some s=>.tup [.str s,.int .i64 0]
 | none=>.tup [.str [],.int .i64 2]
def bn:AV:=.ifc 170 (.agg [])
theorem jF (w0:World) (S:List ax) (R:Rt) (h:R (.ret (.tup [])) S):ao Tryz.prog w0 52 [.bool true] S R:=by
 refine eN Tryz.func52 rfl Tryz.ntmps52 fun hO=>?_
 repeat' first | refine st ?_ | (refine br ?_ ?_<;>intro hb) | fail
 refine fE Tryz.results52 ?_
 exact h
theorem jG (w0:World) (S:List ax) (R:Rt) (h:R (.panic bn) S):ao Tryz.prog w0 52 [.bool false] S R:=by
 refine eN Tryz.func52 rfl Tryz.ntmps52 fun hO=>?_
 repeat' first | refine st ?_ | (refine br ?_ ?_<;>intro hb) | fail
 refine fP ?_
 exact h
theorem o8 (k n m ck cn:Int) (t:List UInt8) (k2 n2 m2 CF cn2:Int) (t2:List UInt8):(k==k2&&(n==n2&&(m==m2&&((ck==CF&&cn==cn2)&&t==t2))))=decide ((⟨k,n,m,ck,cn,t⟩:Ac)=⟨k2,n2,m2,CF,cn2,t2⟩):=by
 rw [dX]
 simp [and_assoc]
theorem rz (w0:World) (S:List ax) (a b:Ac) (hab:a=b) (R:Rt) (h:R (.ret (.tup [])) S):ao Tryz.prog w0 112 [a.av,b.av] S R:=by
 have hm:=jF w0
 obtain⟨k,n,m,ck,cn,t⟩:=a
 obtain⟨k2,n2,m2,CF,cn2,t2⟩:=b
 have e:=o8 k n m ck cn t k2 n2 m2 CF cn2 t2
 rw [decide_eq_true hab] at e
 unfold Ac.av
 simp only
 clear hab
 refine eN Tryz.func112 rfl Tryz.ntmps112 fun hO=>?_
 repeat' first | refine st ?_ | (refine ca ?_;apply hm) | (refine br ?_ ?_<;>intro hb) | fail
 refine fE Tryz.results112 ?_
 exact h
theorem rB (w0:World) (S:List ax) (a b:Ac) (hab:a≠b) (R:Rt) (h:R (.panic bn) S):ao Tryz.prog w0 112 [a.av,b.av] S R:=by
 have hm:=jG w0
 obtain⟨k,n,m,ck,cn,t⟩:=a
 obtain⟨k2,n2,m2,CF,cn2,t2⟩:=b
 have e:=o8 k n m ck cn t k2 n2 m2 CF cn2 t2
 rw [decide_eq_false hab] at e
 unfold Ac.av
 simp only
 unfold bn at hm h
 clear hab
 refine eN Tryz.func112 rfl Tryz.ntmps112 fun hO=>?_
 repeat' first | refine st ?_ | (refine ca ?_;apply hm) | (refine br ?_ ?_<;>intro hb) | fail
 refine fP ?_
 exact h
theorem y5 (w0:World) (S:List ax) (s:List UInt8) (hs:s.length≤10000000) (R:Rt) (h:R (if fV s then .ret (.tup []) else .panic bn) S):ao Tryz.prog w0 113 [.str s] S R:=by
 have hco:=fun S'=>C2 w0 S' s (by omega)
 have hcl:=qB s
 have hte:=fun S'=>Eo w0 S' (dl s) (fun c hc=>by have:=hcl.1 c hc;omega) (by omega)
 have hll:(dl s).length≤100000000:=by omega
 unfold fV tn at h
 generalize dl s=l at h hco hte hll
 have hmT:=jF w0
 have hmF:=jG w0
 unfold bn at hmF h
 have bad:(decide (s.length≤510)&&(l.all ti&&decide (e9 l=s)))=false→R (.panic (.ifc 170 (.agg []))) S:=fun e=>by rw [e] at h;exact h
 have good:(decide (s.length≤510)&&(l.all ti&&decide (e9 l=s)))=true→R (.ret (.tup [])) S:=fun e=>by rw [e] at h;exact h
 clear h hcl
 by_cases h40:s.length≤510
 case neg =>
  have d0:decide ((s.length:Int)≤510)=false:=by simp;omega
  have hh:=bad (by rw [decide_eq_false h40,Bool.false_and])
  clear h40 hs hte bad good hmT hll
  refine eN Tryz.func113 rfl Tryz.ntmps113 fun hO=>?_
  repeat' first | refine st ?_ | (refine ca ?_;first | apply hco | apply hmF) | (refine br ?_ ?_<;>intro hb) | fail
  refine fP ?_
  exact hh
 have d0:decide ((s.length:Int)≤510)=true:=by simp;omega
 rw [decide_eq_true h40,lX] at bad good
 by_cases htx:e9 l=s
 case neg =>
  have d1:(e9 l==s)=false:=by rw [beq_eq_false_iff_ne];exact htx
  have hh:=bad (by rw [decide_eq_false htx,Bool.and_false])
  clear h40 hs bad good hmT hll htx
  refine eN Tryz.func113 rfl Tryz.ntmps113 fun hO=>?_
  repeat' first | refine st ?_ | (refine ca ?_;first | apply hco | apply hte | apply hmF) | (refine br ?_ ?_<;>intro hb) | fail
  refine fP ?_
  exact hh
 have d1:(e9 l==s)=true:=by rw [beq_iff_eq];exact htx
 rw [decide_eq_true htx,Bool.and_true] at bad good
 have Bad:=ae bad
 have Good:=ae good
 have HmF:=ae hmF
 clear h40 hs htx bad good hmF
 refine eN Tryz.func113 rfl Tryz.ntmps113 fun hO=>?_
 repeat' first | refine st ?_ | (refine ca ?_;first | apply hco | apply hte | apply hmT) | (refine br ?_ ?_<;>intro hb) | fail
 refine eJ (fun (k:Nat) env S'=>k≤l.length∧(∀ j c,j<k→l[j]? = some c→ti c=true)∧env 1000000=.dfr []∧env 17=.sval false (l.map Co)∧env 18=.int .i64 l.length∧env 19=.int .i64 (k:Int)∧S'=S) (fun k=>l.length - k) 0 ?_ ?_
 ·exact⟨bx _,fun j c hj=>absurd hj (by omega),ss,ss,ss,ss,rfl⟩
 ·rintro k env S' ⟨hk,hall,e0,e17,e18,e19,rfl⟩ IH
  have HI:=ae IH
  have Hall:=ae hall
  clear IH hall hco hte
  by_cases hlt:k<l.length
  ·obtain⟨c,hx⟩:∃ c,l[k]? = some c:=⟨_,al hlt⟩
   have h1:decide ((k:Int)<(l.length:Int))=true:=by simpa using hlt
   have hw:af.wrap ((k:Int)+1)=(k:Int)+1:=au _ (by omega)
   have bad:ti c=false→R (.panic (.ifc 170 (.agg []))) S':=fun hc=>Bad.out (by
    rw [List.all_eq_false]
    exact⟨c,ar hx,by simp [hc]⟩)
   have good:ti c=true→∀ j d,j<k+1→l[j]? = some d→ti d=true:=fun hc j d hj hd=>by
    by_cases e:j=k
    ·rw [e,hx] at hd;cases hd;exact hc
    ·exact Hall.out j d (by omega) hd
   have Bad2:=ae bad
   have Good2:=ae good
   have Hlt:=ae hlt
   clear bad good hlt hk hll
   by_cases q1:c<32
   ·have d2:decide ((32:Int)≤(c:Int))=false:=by simp;omega
    have hc:ti c=false:=by unfold ti;rw [decide_eq_false (by omega)];rfl
    have hb:=Bad2.out hc
    have hmF:=HmF.out
    clear q1 hc hmT
    repeat' first | apply gp | apply eT | apply dU | apply eU | apply gq | apply cG | apply gu | apply cI | apply ct | apply dd | apply cH | apply cr | apply bU | apply gr | (apply bV;(· rfl)) | (apply da;simp only [bt]) | (apply dN;(· rfl);(· simp only [go_sem, *,Co];try rfl);(· rfl);simp only [putA]) | (apply eZ;simp only [putA]) | apply de | (apply dT [];(· simp only [go_sem, *,Co];try rfl);(· rfl);(· simp only [go_sem, *,Co];try rfl);(· rfl);(iterate 2 (· simp only [go_sem, *,Co];try rfl));(first | apply hmF);simp only [bK,putA]) | (apply dP;(· simp only [go_sem, *,Co];try rfl);(· rfl);(· simp only [go_sem, *,Co];try rfl)) | (apply dF;(iterate 2 (· simp only [go_sem, *,Co];try rfl));(· rfl);simp only [putA]) | (apply cq;(· simp only [go_sem, *,Co];try rfl);(· rfl);simp only [putA]) | (apply dQ;(· simp only [go_sem, *,Co];try rfl)) | (apply dS;(· simp only [go_sem, *,Co];try rfl)) | (apply db;(· rfl);(fail_if_success (focus (show _=some true;(· simp only [go_sem, *,Co];try rfl))));(· simp only [go_sem, *,Co];try rfl);all_goals (intro hb;try simp only [az,aG] at hb)) | (apply dR;(· simp only [go_sem, *,Co];try rfl);all_goals (intro hb;try simp only [az,aG] at hb)) | fail
    refine fP ?_
    exact hb
   have d2:decide ((32:Int)≤(c:Int))=true:=by simp;omega
   by_cases q2:127≤c
   ·have d3:decide ((c:Int)<127)=false:=by simp;omega
    by_cases q3:c≤159
    ·have d4:decide ((159:Int)<(c:Int))=false:=by simp;omega
     have hc:ti c=false:=by unfold ti;rw [decide_eq_true q2,decide_eq_true q3];simp
     have hb:=Bad2.out hc
     have hmF:=HmF.out
     clear q1 q2 q3 hc hmT
     repeat' first | apply gp | apply eT | apply dU | apply eU | apply gq | apply cG | apply gu | apply cI | apply ct | apply dd | apply cH | apply cr | apply bU | apply gr | (apply bV;(· rfl)) | (apply da;simp only [bt]) | (apply dN;(· rfl);(· simp only [go_sem, *,Co];try rfl);(· rfl);simp only [putA]) | (apply eZ;simp only [putA]) | apply de | (apply dT [];(· simp only [go_sem, *,Co];try rfl);(· rfl);(· simp only [go_sem, *,Co];try rfl);(· rfl);(iterate 2 (· simp only [go_sem, *,Co];try rfl));(first | apply hmF);simp only [bK,putA]) | (apply dP;(· simp only [go_sem, *,Co];try rfl);(· rfl);(· simp only [go_sem, *,Co];try rfl)) | (apply dF;(iterate 2 (· simp only [go_sem, *,Co];try rfl));(· rfl);simp only [putA]) | (apply cq;(· simp only [go_sem, *,Co];try rfl);(· rfl);simp only [putA]) | (apply dQ;(· simp only [go_sem, *,Co];try rfl)) | (apply dS;(· simp only [go_sem, *,Co];try rfl)) | (apply db;(· rfl);(fail_if_success (focus (show _=some true;(· simp only [go_sem, *,Co];try rfl))));(· simp only [go_sem, *,Co];try rfl);all_goals (intro hb;try simp only [az,aG] at hb)) | (apply dR;(· simp only [go_sem, *,Co];try rfl);all_goals (intro hb;try simp only [az,aG] at hb)) | fail
     refine fP ?_
     exact hb
    ·have d4:decide ((159:Int)<(c:Int))=true:=by simp;omega
     have hc:ti c=true:=by unfold ti;rw [decide_eq_false q3,decide_eq_true (by omega)];simp
     clear q1 q2 q3
     repeat' first | apply gp | apply eT | apply dU | apply eU | apply gq | apply cG | apply gu | apply cI | apply ct | apply dd | apply cH | apply cr | apply bU | apply gr | (apply bV;(· rfl)) | (apply da;simp only [bt]) | (apply dN;(· rfl);(· simp only [go_sem, *,Co];try rfl);(· rfl);simp only [putA]) | (apply eZ;simp only [putA]) | apply de | (apply dT [];(· simp only [go_sem, *,Co];try rfl);(· rfl);(· simp only [go_sem, *,Co];try rfl);(· rfl);(iterate 2 (· simp only [go_sem, *,Co];try rfl));(first | apply hmT);simp only [bK,putA]) | (apply dP;(· simp only [go_sem, *,Co];try rfl);(· rfl);(· simp only [go_sem, *,Co];try rfl)) | (apply dF;(iterate 2 (· simp only [go_sem, *,Co];try rfl));(· rfl);simp only [putA]) | (apply cq;(· simp only [go_sem, *,Co];try rfl);(· rfl);simp only [putA]) | (apply dQ;(· simp only [go_sem, *,Co];try rfl)) | (apply dS;(· simp only [go_sem, *,Co];try rfl)) | (apply db;(· rfl);(fail_if_success (focus (show _=some true;(· simp only [go_sem, *,Co];try rfl))));(· simp only [go_sem, *,Co];try rfl);all_goals (intro hb;try simp only [az,aG] at hb)) | (apply dR;(· simp only [go_sem, *,Co];try rfl);all_goals (intro hb;try simp only [az,aG] at hb)) | fail
     refine HI.out (k+1) _ _ (by have:=Hlt.out;omega) ⟨Hlt.out,Good2.out hc, ?_, ?_, ?_, ?_,rfl⟩
     all_goals (simp only [go_sem, *];try rfl)
   ·have d3:decide ((c:Int)<127)=true:=by simp;omega
    have hc:ti c=true:=by unfold ti;rw [decide_eq_false q2,decide_eq_true (by omega)];rfl
    clear q1 q2
    repeat' first | apply gp | apply eT | apply dU | apply eU | apply gq | apply cG | apply gu | apply cI | apply ct | apply dd | apply cH | apply cr | apply bU | apply gr | (apply bV;(· rfl)) | (apply da;simp only [bt]) | (apply dN;(· rfl);(· simp only [go_sem, *,Co];try rfl);(· rfl);simp only [putA]) | (apply eZ;simp only [putA]) | apply de | (apply dT [];(· simp only [go_sem, *,Co];try rfl);(· rfl);(· simp only [go_sem, *,Co];try rfl);(· rfl);(iterate 2 (· simp only [go_sem, *,Co];try rfl));(first | apply hmT);simp only [bK,putA]) | (apply dP;(· simp only [go_sem, *,Co];try rfl);(· rfl);(· simp only [go_sem, *,Co];try rfl)) | (apply dF;(iterate 2 (· simp only [go_sem, *,Co];try rfl));(· rfl);simp only [putA]) | (apply cq;(· simp only [go_sem, *,Co];try rfl);(· rfl);simp only [putA]) | (apply dQ;(· simp only [go_sem, *,Co];try rfl)) | (apply dS;(· simp only [go_sem, *,Co];try rfl)) | (apply db;(· rfl);(fail_if_success (focus (show _=some true;(· simp only [go_sem, *,Co];try rfl))));(· simp only [go_sem, *,Co];try rfl);all_goals (intro hb;try simp only [az,aG] at hb)) | (apply dR;(· simp only [go_sem, *,Co];try rfl);all_goals (intro hb;try simp only [az,aG] at hb)) | fail
    refine HI.out (k+1) _ _ (by have:=Hlt.out;omega) ⟨Hlt.out,Good2.out hc, ?_, ?_, ?_, ?_,rfl⟩
    all_goals (simp only [go_sem, *];try rfl)
  ·have h1:decide ((k:Int)<(l.length:Int))=false:=by simpa using hlt
   have hh:=Good.out (by
    rw [aq]
    intro c hc
    obtain⟨j,hj⟩:=aQ hc
    exact Hall.out j c (by have:=(ab.1 hj).1;omega) hj)
   clear hlt hk Hall HI hll
   repeat' first | refine st ?_ | (refine br ?_ ?_<;>intro hb) | fail
   refine fE Tryz.results113 ?_
   exact hh
def vb (T:List (Int × Int)) (c:Int):Bool:=T.any fun p=>decide (p.1≤c)&&decide (c≤p.2)
def uh (p:Int × Int):AV:=.agg [.int .i64 p.1,.int .i64 p.2]
attribute [go_sem] uh
@[go_sem] theorem uh.plainL (l:List (Int × Int)):plainL (l.map uh)=true:=ej (fun _=>rfl) l
@[go_sem] theorem uh.ltL (l:List (Int × Int)) (n:Nat):ltL n (l.map uh)=true:=cw.2 fun x hx=>by obtain⟨y,_,rfl⟩:=aH.1 hx;rfl
theorem oX {T:List (Int × Int)}{k:Nat}{x:Int × Int}{c:Int} (hx:T[k]? = some x) (h:vb (T.take k) c=false) (hp:(decide (x.1≤c)&&decide (c≤x.2))=false):vb (T.take (k+1)) c=false:=oB hx h hp
theorem FP (w0:World) (S:List ax) (f:Bool) (c:Int) (T:List (Int × Int)) (hT:T.length≤1000000) (R:Rt) (h:R (.ret (.bool (vb T c))) S):ao Tryz.prog w0 46 [.int .i64 c,.sval f (T.map uh)] S R:=by
 refine eN Tryz.func46 rfl Tryz.ntmps46 fun hO=>?_
 repeat' first | refine st ?_ | (refine br ?_ ?_<;>intro hb) | fail
 refine eJ (fun (k:Nat) env S'=>k≤T.length∧vb (T.take k) c=false∧env 1000000=.dfr []∧env 0=.int .i64 c∧env 7=.sval f (T.map uh)∧env 8=.int .i64 T.length∧env 9=.int .i64 (k:Int)∧S'=S) (fun k=>T.length - k) 0 ?_ ?_
 ·exact⟨bx _,by simp [vb],ss,ss,ss,ss,ss,rfl⟩
 ·rintro k env S' ⟨hk,hp,e0,f0,f7,f8,f9,rfl⟩ IH
  have HI:=ae IH
  have H:=ae h
  clear IH h
  by_cases hlt:k<T.length
  ·obtain⟨⟨a,b⟩,hx⟩:∃ x,T[k]? = some x:=⟨_,al hlt⟩
   have h1:decide ((k:Int)<(T.length:Int))=true:=by simpa using hlt
   have hw:af.wrap ((k:Int)+1)=((k+1:Nat):Int):=by rw [au _ (by omega)];omega
   have Hlt:=ae (dw hlt hp)
   clear hk hp hlt
   cases d1:decide (a≤c)<;>cases d2:decide (c≤b)
   ·have Hn:=ae (oX hx Hlt.out.2 (by simp only;rw [d1,d2];rfl))
    repeat' first | refine st ?_ | (refine br ?_ ?_<;>intro hb) | fail
    refine fT hO 0 [0,7,8,9] rfl ss ss ss ?_
    simp only [co,aE]
    refine HI.out (k+1) _ _ (by have:=Hlt.out.1;omega) ⟨Hlt.out.1,Hn.out, ?_, ?_, ?_, ?_, ?_,rfl⟩
    all_goals (simp only [go_sem, *];try rfl)
   ·have Hn:=ae (oX hx Hlt.out.2 (by simp only;rw [d1,d2];rfl))
    repeat' first | refine st ?_ | (refine br ?_ ?_<;>intro hb) | fail
    refine fT hO 0 [0,7,8,9] rfl ss ss ss ?_
    simp only [co,aE]
    refine HI.out (k+1) _ _ (by have:=Hlt.out.1;omega) ⟨Hlt.out.1,Hn.out, ?_, ?_, ?_, ?_, ?_,rfl⟩
    all_goals (simp only [go_sem, *];try rfl)
   ·have Hn:=ae (oX hx Hlt.out.2 (by simp only;rw [d1,d2];rfl))
    repeat' first | refine st ?_ | (refine br ?_ ?_<;>intro hb) | fail
    refine fT hO 0 [0,7,8,9] rfl ss ss ss ?_
    simp only [co,aE]
    refine HI.out (k+1) _ _ (by have:=Hlt.out.1;omega) ⟨Hlt.out.1,Hn.out, ?_, ?_, ?_, ?_, ?_,rfl⟩
    all_goals (simp only [go_sem, *];try rfl)
   ·have hh:=H.out
    rw [show vb T c=true from vA hx (by simp only;rw [d1,d2];rfl)] at hh
    repeat' first | refine st ?_ | (refine br ?_ ?_<;>intro hb) | fail
    refine fR Tryz.results46 ?_
    exact hh
  ·have h1:decide ((k:Int)<(T.length:Int))=false:=by simpa using hlt
   have hk':k=T.length:=by omega
   rw [hk',bk] at hp
   have hh:=H.out
   rw [hp] at hh
   clear hlt hk hk' HI hp
   repeat' first | refine st ?_ | (refine br ?_ ?_<;>intro hb) | fail
   refine fR Tryz.results46 ?_
   exact hh
def ja:List (Int × Int):=[(768,879),(1155,1161),(1425,1469),(1552,1562),(1611,1631),(6832,6911),(7616,7679),(8203,8207),(8400,8447),(65024,65039),(65056,65071)]
def kl:List (Int × Int):=[(4352,4447),(11904,12350),(12353,19903),(19968,42191),(44032,55203),(63744,64255),(65072,65135),(65280,65376),(65504,65510),(127744,128591),(128640,128767),(129280,129535),(131072,262141)]
def jA (c:Int):Int:=if !(decide (0≤c)&&Bd c.toNat)||(decide (c<32)||(decide (127≤c)&&decide (c<160))) then -1 else if vb ja c then 0 else if vb kl c then 2 else 1
theorem BV (c:Int) (h:0≤c):vb [(0,31),(127,159)] c=(decide (c<32)||(decide (127≤c)&&decide (c<160))):=by
 rw [dX]
 simp only [vb,ed,fc,ef,aj,decide_eq_true_eq,eI,bJ,or_false]
 omega
theorem t_ (c:Int) (h:c<768):vb ja c=false∧vb kl c=false:=by
 constructor<;>rw [Bool.eq_false_iff] <;>
 ·simp only [vb,ja,kl,ed,fc,ne_eq,ef,aj,decide_eq_true_eq,eI,bJ,or_false]
  omega
theorem Ay (w0:World) (S:List ax) (c:Int) (R:Rt) (h:R (.ret (.bool (decide (0≤c)&&Bd c.toNat))) S):ao Tryz.prog w0 45 [.int .i64 c] S R:=by
 by_cases c0:0≤c
 ·obtain⟨n,rfl⟩:∃ n:Nat,c=n:=⟨c.toNat,by omega⟩
  rw [decide_eq_true c0,lX,Int.toNat_natCast] at h
  exact yr w0 S n R h
 ·have d0:decide (0≤c)=false:=decide_eq_false c0
  rw [d0,Bool.false_and] at h
  clear c0
  refine eN Tryz.func45 rfl Tryz.ntmps45 fun hO=>?_
  repeat' first | refine st ?_ | (refine br ?_ ?_<;>intro hb) | fail
  refine fR Tryz.results45 ?_
  exact h
def jQ (w0:World):Prop:=gl w0 0=.pro (dg (ja.map uh))
def jO (w0:World):Prop:=gl w0 1=.pro (dg (kl.map uh))
theorem sg {T:List (Int × Int)}:∀ y∈T.map uh,y.cells.length=2:=by
 intro y hy
 obtain⟨p,_,rfl⟩:=aH.1 hy
 rfl
theorem JW (w0:World) (hM:jQ w0) (hW:jO w0) (S:List ax) (c:Int) (R:Rt) (h:R (.ret (.int .i64 (jA c))) S):ao Tryz.prog w0 25 [.int .i64 c] S R:=by
 have hu:=fun S'=>Ay w0 S' c
 have hc:=fun S'=>FP w0 S' false c [(0,31),(127,159)] (by decide)
 have hm:=fun S'=>FP w0 S' false c ja (by decide)
 have hw:=fun S'=>FP w0 S' false c kl (by decide)
 unfold jQ at hM
 unfold jO at hW
 unfold jA at h
 simp only [aA,aC,uh] at hc
 have hM1:gl w0 0=.pro (.int .i64 768::(dg (ja.map uh)).drop 1):=by rw [hM];rfl
 cases hk:decide (0≤c)&&Bd c.toNat with
 | false =>
  rw [hk] at h hu
  clear hm hw hc hM hW hM1 hk
  refine eN Tryz.func25 rfl Tryz.ntmps25 fun hO=>?_
  repeat' first | refine st ?_ | (refine ca ?_;apply hu) | (refine br ?_ ?_<;>intro hb) | fail
  refine fR Tryz.results25 ?_
  exact h
 | true =>
  have h0:0≤c:=by
   have:=(aj _ _▸hk).1
   simpa using this
  rw [BV c h0] at hc
  rw [hk] at h hu
  simp only [x9,uq] at h
  cases hi:decide (c<32)||(decide (127≤c)&&decide (c<160)) with
  | true =>
   rw [hi] at h hc
   clear hm hw hM hW hM1 hk hi h0
   refine eN Tryz.func25 rfl Tryz.ntmps25 fun hO=>?_
   repeat' first | refine st ?_ | (refine ca ?_;first | apply hu | apply hc) | (apply dT [S.length];(· simp only [go_sem, *];try rfl);(· rfl);(· simp only [go_sem, *];try rfl);(· rfl);(iterate 2 (· simp only [go_sem, *];try rfl));first | apply hu | apply hc) | (refine br ?_ ?_<;>intro hb) | fail
   refine fR Tryz.results25 ?_
   exact h
  | false =>
   rw [hi] at h hc
   simp only [bJ,if_false] at h
   by_cases h7:c<768
   ·obtain⟨b1,b2⟩:=t_ c h7
    rw [b1,b2] at h
    have d7:decide (c<768)=true:=decide_eq_true h7
    clear hm hw hM hW hk hi h0 h7 b1 b2
    refine eN Tryz.func25 rfl Tryz.ntmps25 fun hO=>?_
    repeat' first | refine st ?_ | (refine ca ?_;first | apply hu | apply hc) | (apply dT [S.length];(· simp only [go_sem, *];try rfl);(· rfl);(· simp only [go_sem, *];try rfl);(· rfl);(iterate 2 (· simp only [go_sem, *];try rfl));first | apply hu | apply hc) | (refine br ?_ ?_<;>intro hb) | fail
    refine fR Tryz.results25 ?_
    exact h
   ·have d7:decide (c<768)=false:=decide_eq_false h7
    clear hk hi h0 h7
    cases hi1:vb ja c with
    | true =>
     rw [hi1] at h hm
     have HM:=ae hM
     clear hw hM hW hi1
     refine eN Tryz.func25 rfl Tryz.ntmps25 fun hO=>?_
     repeat' first | refine st ?_ | (refine ca ?_;first | apply hu | apply hc) | (apply dT [S.length];(· simp only [go_sem, *];try rfl);(· rfl);(· simp only [go_sem, *];try rfl);(· rfl);(iterate 2 (· simp only [go_sem, *];try rfl));first | apply hu | apply hc) | (refine br ?_ ?_<;>intro hb) | fail
     have hM:=HM.out
     clear hM1
     refine oo (els:=ja.map uh) ss rfl uB uE hM (by decide) sg ss ?_
     clear hM
     repeat' first | refine st ?_ | (refine ca ?_;apply hm) | (refine br ?_ ?_<;>intro hb) | fail
     refine fR Tryz.results25 ?_
     exact h
    | false =>
     rw [hi1] at h hm
     have HM:=ae hM
     have HW:=ae hW
     clear hM hW hi1
     refine eN Tryz.func25 rfl Tryz.ntmps25 fun hO=>?_
     repeat' first | refine st ?_ | (refine ca ?_;first | apply hu | apply hc) | (apply dT [S.length];(· simp only [go_sem, *];try rfl);(· rfl);(· simp only [go_sem, *];try rfl);(· rfl);(iterate 2 (· simp only [go_sem, *];try rfl));first | apply hu | apply hc) | (refine br ?_ ?_<;>intro hb) | fail
     have hM:=HM.out
     clear hM1
     refine oo (els:=ja.map uh) ss rfl uB uE hM (by decide) sg ss ?_
     clear hM
     repeat' first | refine st ?_ | (refine ca ?_;apply hm) | (refine br ?_ ?_<;>intro hb) | fail
     have hW:=HW.out
     refine oo (els:=kl.map uh) ss rfl yo uE hW (by decide) sg ss ?_
     clear hW
     cases hi2:vb kl c<;>rw [hi2] at h hw<;>clear hi2
     all_goals
      repeat' first | refine st ?_ | (refine ca ?_;apply hw) | (refine br ?_ ?_<;>intro hb) | fail
      refine fR Tryz.results25 ?_
      exact h
def EK (v:Nat):Nat:=(bC 8).foldl (fun s i=>s+v / 2 ^ i % 2) 0
theorem Bn (w0:World) (S:List ax) (v:Nat) (hv:v<256) (R:Rt) (h:R (.ret (.int .i64 (EK v))) S):ao Tryz.prog w0 227 [.int .u64 v] S R:=by
 refine eN Tryz.func227 rfl Tryz.ntmps227 fun hO=>?_
 repeat' first | refine st ?_ | (refine br ?_ ?_<;>intro hb) | fail
 refine fR Tryz.results227 ?_
 refine(congrArg (fun z=>R (.ret (.int .i64 z)) S) (?_:_=((EK v:Nat):Int))).mpr h
 clear h hO
 revert v
 decide +kernel
theorem EX (w0:World) (S:List ax) (v:Nat) (hv:v<256) (R:Rt) (h:R (.ret (.int .i64 (EK v))) S):ao Tryz.prog w0 185 [.int .u64 v] S R:=by
 have h1:=fun S'=>Bn w0 S' v hv
 clear hv
 refine eN Tryz.func185 rfl Tryz.ntmps185 fun hO=>?_
 repeat' first | refine st ?_ | (refine ca ?_;apply h1) | (refine br ?_ ?_<;>intro hb) | fail
 refine fR Tryz.results185 ?_
 exact h
def Em (m:Int):Prop:=-9223372036854775808≤m∧m≤9223372036854775807
theorem zT {x:BitVec 64}{c:Nat} (hc:c<256):(x &&& ~~~(mP 64 255))=0#64↔x.toNat<256:=by
 constructor
 ·intro h
  refine Nat.lt_pow_two_of_testBit (n:=8) x.toNat fun i hi=>?_
  by_cases h64:i<64
  ·have:=congrArg (fun y=>y.getLsbD i) h
   simp only [wC,wB,h64,decide_true,lX,ux,vN] at this
   have h2:xS 255 i=false:=kS (jS (by decide) (dL (by decide) hi))
   rw [h2] at this
   simpa [BitVec.getLsbD] using this
  ·exact kS (jS x.isLt (dL (by decide) (by omega)))
 ·intro h
  apply BitVec.eq_of_getLsbD_eq
  intro i hi
  simp only [wC,wB,hi,decide_true,lX,ux,vN]
  by_cases h8:i<8
  ·have:xS 255 i=true:=by
    have:∀ j,j<8→xS 255 j=true:=by decide
    exact this i h8
   rw [this];simp
  ·have:x.getLsbD i=false:=kS (jS h (dL (n:=2) (i:=8) (by decide) (by omega)))
   rw [this];simp
theorem pN (m:Int):((ai 64 m).toNat:Int)=m % 18446744073709551616:=by
 rw [bL]
 have:(0:Int)≤m % ((2 ^ 64:Nat):Int):=Int.emod_nonneg _ (by decide)
 rw [Int.toNat_of_nonneg this];rfl
theorem wG (n:Nat) (h:n<18446744073709551616):(af.wrap (n:Int)==0)=(n==0):=by
 rw [dX,IntKind.wrap_i64]
 simp only [beq_iff_eq]
 omega
theorem ud {m:Int} (h:Em m):(af.wrap ((((ai af.bits m &&& ~~~ ai af.bits 255).toNat:Nat):Int))==0)=(decide (0≤m)&&decide (m≤255)):=by
 obtain⟨h1,h2⟩:=h
 show (af.wrap ((((ai 64 m &&& ~~~ mP 64 255).toNat:Nat):Int))==0)=_
 rw [wG _ (BitVec.isLt _)]
 have e:=zT (x:=ai 64 m) (c:=0) (by decide)
 have t:=pN m
 rw [dX]
 simp only [beq_iff_eq,aj,decide_eq_true_eq]
 rw [show ((ai 64 m &&& ~~~ mP 64 255).toNat=0)↔(ai 64 m &&& ~~~ mP 64 255)=0#64 from ⟨fun e=>BitVec.eq_of_toNat_eq e,fun e=>by rw [e];rfl⟩,e]
 omega
def oN (m:Int):Bool:=m==1||(m==2||(m==4||(m==8||(m==16||(m==32||(m==64||m==128))))))
theorem Dh:∀ v:Nat,v<256→(((EK v:Nat):Int)==1)=oN v:=by decide +kernel
theorem EA (w0:World) (S:List ax) (m:Int) (hm:Em m) (R:Rt) (h:R (.ret (.bool (oN m))) S):ao Tryz.prog w0 100 [.int .i64 m] S R:=by
 have e:=ud hm
 simp only [a6] at e
 by_cases hr:0≤m∧m≤255
 ·obtain⟨v,rfl⟩:∃ v:Nat,m=v:=⟨m.toNat,by omega⟩
  have hv:v<256:=by omega
  rw [decide_eq_true hr.1,decide_eq_true hr.2,Bool.and_true] at e
  have h1:=fun S'=>EX w0 S' v hv
  have hw:aO.wrap (v:Int)=(v:Int):=by simp only [IntKind.wrap,IntKind.signed,a6];simp;omega
  have h2:=Dh v hv
  generalize oN v=b at h h2
  generalize EK v=p at h1 h2
  clear hr hv hm
  refine eN Tryz.func100 rfl Tryz.ntmps100 fun hO=>?_
  repeat' first | refine st ?_ | (refine ca ?_;apply h1) | (refine br ?_ ?_<;>intro hb) | fail
  refine fR Tryz.results100 ?_
  exact h
 ·have h3:oN m=false:=by
   unfold oN
   simp only [bj,beq_eq_false_iff_ne]
   omega
  have h4:(decide (0≤m)&&decide (m≤255))=false:=by simpa using hr
  rw [h4] at e
  rw [h3] at h
  clear hr h3 h4 hm
  refine eN Tryz.func100 rfl Tryz.ntmps100 fun hO=>?_
  repeat' first | refine st ?_ | (refine br ?_ ?_<;>intro hb) | fail
  refine fR Tryz.results100 ?_
  exact h
theorem Ex (w0:World) (S:List ax) (m:Int) (R:Rt) (h:R (.ret (.bool (m==0))) S):ao Tryz.prog w0 97 [.int .i64 m] S R:=by
 refine eN Tryz.func97 rfl Tryz.ntmps97 fun hO=>?_
 repeat' first | refine st ?_ | (refine br ?_ ?_<;>intro hb) | fail
 refine fR Tryz.results97 ?_
 exact h
def D_ (m:Int):Bool:=m==3||(oN m&&(m != 1&&m != 2))
theorem xc {m:Int} (h:oN m=true):m=1∨m=2∨m=4∨m=8∨m=16∨m=32∨m=64∨m=128:=by
 unfold oN at h
 simpa using h
theorem Gs {m:Int} (h:oN m=true):(af.wrap ((((ai af.bits m &&& ai af.bits 3).toNat:Nat):Int))==0)=(m != 1&&m != 2):=by
 rcases xc h with rfl | rfl | rfl | rfl | rfl | rfl | rfl | rfl<;>decide
theorem F1 (w0:World) (S:List ax) (m:Int) (hm:Em m) (R:Rt) (h:R (.ret (.bool (D_ m))) S):ao Tryz.prog w0 102 [.int .i64 m] S R:=by
 have h1:=fun S'=>EA w0 S' m hm
 unfold D_ at h
 cases d3:m==3<;>rw [d3] at h
 ·cases d1:oN m
  ·rw [d1] at h h1
   clear hm d1
   refine eN Tryz.func102 rfl Tryz.ntmps102 fun hO=>?_
   repeat' first | refine st ?_ | (refine ca ?_;apply h1) | (refine br ?_ ?_<;>intro hb) | fail
   refine fR Tryz.results102 ?_
   exact h
  ·have e:=Gs d1
   simp only [a6] at e
   rw [d1] at h h1
   clear hm d1
   refine eN Tryz.func102 rfl Tryz.ntmps102 fun hO=>?_
   repeat' first | refine st ?_ | (refine ca ?_;apply h1) | (refine br ?_ ?_<;>intro hb) | fail
   refine fR Tryz.results102 ?_
   simpa using h
 ·clear hm h1
  refine eN Tryz.func102 rfl Tryz.ntmps102 fun hO=>?_
  repeat' first | refine st ?_ | (refine br ?_ ?_<;>intro hb) | fail
  refine fR Tryz.results102 ?_
  exact h
theorem C9 (w0:World) (S:List ax) (m:Int) (R:Rt) (h:R (.ret (.bool (decide (0≤m)&&decide (m≤5)))) S):ao Tryz.prog w0 104 [.int .i64 m] S R:=by
 cases d:decide (0≤m)<;>rw [d] at h
 all_goals
  refine eN Tryz.func104 rfl Tryz.ntmps104 fun hO=>?_
  repeat' first | refine st ?_ | (refine br ?_ ?_<;>intro hb) | fail
  refine fR Tryz.results104 ?_
  first | exact h | (simpa using h)
def ur (f:FuncId):AV:=.fn (.func f) [] []
def kK (g:FuncId):AV:=.agg [ur 97,.bool true,.fn (.func 98) [] [.pro [ur g]]]
theorem AZ (w0:World) (S:List ax) (g:FuncId) (R:Rt) (h:R (.ret (kK g)) S):ao Tryz.prog w0 96 [ur g] S R:=by
 unfold kK ur at h
 unfold ur
 refine eN Tryz.func96 rfl Tryz.ntmps96 fun hO=>?_
 repeat' first | refine st ?_ | (refine br ?_ ?_<;>intro hb) | fail
 refine fR Tryz.results96 ?_
 exact h
def yV:List (AV × AV):=[(.int .i64 0,.agg [ur 97,.bool false,ur 99]),(.int .i64 1,.agg [ur 100,.bool false,ur 101]),(.int .i64 2,.agg [ur 102,.bool false,ur 103]),
 (.int .i64 3,.agg [ur 104,.bool false,ur 105]),(.int .i64 4,kK 106),(.int .i64 5,kK 107),(.int .i64 6,kK 108)]
theorem Ez (w0:World) (S:List ax) (R:Rt) (h:R (.ret (.mval yV)) S):ao Tryz.prog w0 47 [] S R:=by
 have hc:=AZ w0
 unfold kK ur at hc
 unfold yV kK ur at h
 refine eN Tryz.func47 rfl Tryz.ntmps47 fun hO=>?_
 repeat' first | refine st ?_ | (refine ca ?_;apply hc) | (refine br ?_ ?_<;>intro hb) | fail
 refine fR Tryz.results47 ?_
 exact h
theorem Bo (w0:World) (S:List ax) (R:Rt) (h:R (.ret (.agg [.int .i64 0,.int .i64 255,.int .i64 16777215])) S):ao Tryz.prog w0 109 [] S R:=by
 refine eN Tryz.func109 rfl Tryz.ntmps109 fun hO=>?_
 repeat' first | refine st ?_ | (refine br ?_ ?_<;>intro hb) | fail
 refine fR Tryz.results109 ?_
 exact h
def u0 (k:Int):Int:=if k=0 then 0 else if k=1 then 255 else 16777215
def iD (k n:Int):Bool:=(decide (0≤k)&&decide (k≤2))&&(decide (0≤n)&&decide (n≤u0 k))
theorem fK (w0:World) (S:List ax) (k n:Int) (R:Rt) (h:R (.ret (.int .i64 (if iD k n then 0 else 130))) S):ao Tryz.prog w0 48 [.agg [.int .i64 k,.int .i64 n]] S R:=by
 have hl:=Bo w0
 have H:=ae h
 clear h
 have hk3:k=0∨k=1∨k=2∨k<0∨(0≤k∧3≤k):=by omega
 rcases hk3 with rfl | rfl | rfl | hk | ⟨hk,hk3⟩
 case inr.inr.inr.inl =>
  have d1:decide (k<0)=true:=decide_eq_true hk
  have hh:=H.out
  rw [if_neg (by unfold iD;simp;omega)] at hh
  clear hk H
  refine eN Tryz.func48 rfl Tryz.ntmps48 fun hO=>?_
  repeat' first | refine st ?_ | (refine ca ?_;apply hl) | (refine br ?_ ?_<;>intro hb) | refine sd ?_ | apply aB | (apply aL;(· decide +kernel)) | refine bd ?_ ?_ | (refine cd ?_;apply hl) | fail
  refine fR Tryz.results48 ?_
  exact hh
 case inr.inr.inr.inr =>
  have d1:decide (k<0)=false:=decide_eq_false (by omega)
  have d2:decide (3≤k)=true:=decide_eq_true hk3
  have hh:=H.out
  rw [if_neg (by unfold iD;simp;omega)] at hh
  clear hk hk3 H
  refine eN Tryz.func48 rfl Tryz.ntmps48 fun hO=>?_
  repeat' first | refine st ?_ | (refine ca ?_;apply hl) | (refine br ?_ ?_<;>intro hb) | refine sd ?_ | apply aB | (apply aL;(· decide +kernel)) | refine bd ?_ ?_ | (refine cd ?_;apply hl) | fail
  refine fR Tryz.results48 ?_
  exact hh
 all_goals
  rcases(show n<0∨0≤n by omega) with hn | hn
  all_goals
   first
   | have d1:decide (n<0)=true:=decide_eq_true hn
   | have d1:decide (n<0)=false:=decide_eq_false (by omega)
   have Hn:=ae hn
   clear hn
   refine eN Tryz.func48 rfl Tryz.ntmps48 fun hO=>?_
   repeat' first | refine st ?_ | (refine ca ?_;apply hl) | (refine br ?_ ?_<;>intro hb) | refine sd ?_ | apply aB | (apply aL;(· decide +kernel)) | refine bd ?_ ?_ | (refine cd ?_;apply hl) | fail
   all_goals refine fR Tryz.results48 ?_
   all_goals
    refine cast (congrArg (fun v=>R (.ret (.int .i64 v)) S) ?_) H.out
    have hn:=Hn.out
    simp only [decide_eq_true_eq,decide_eq_false_iff_not] at *
    first
    | (rw [if_pos (by simp [iD,u0];omega)])
    | (rw [if_neg (by simp [iD,u0];omega)])
def eG (ck cn:Int):Bool:=ck==0&&cn==0
def En (m:Int):Bool:=decide (0≤m)&&decide (m≤5)
def pR (n m ck cn:Int):Bool :=
 if n=0 then m==0&&eG ck cn else if n=1 then oN m&&eG ck cn else if n=2 then D_ m&&eG ck cn else if n=3 then En m&&eG ck cn
 else if n=4∨n=5∨n=6 then m==0&&iD ck cn else false
def ta (a:Ac):Bool:=a.kind==39&&(a.text==[]&&pR a.n a.m a.ck a.cn)
theorem pu:iD 0 0=true:=by decide
theorem uQ (n:Int):(n=0∨n=1∨n=2∨n=3∨n=4∨n=5∨n=6)∨((n==0)=false∧(n==1)=false∧(n==2)=false∧(n==3)=false∧(n==4)=false∧(n==5)=false∧(n==6)=false):=by
 simp only [beq_eq_false_iff_ne]
 omega
theorem wT (w0:World) (S:List ax) (a:Ac) (hm:Em a.m) (R:Rt) (h:R (.ret (.int .i64 (if ta a then 0 else 141))) S):ao Tryz.prog w0 27 [a.av] S R:=by
 obtain⟨k,n,m,ck,cn,t⟩:=a
 have hp:=Ez w0
 unfold yV kK ur at hp
 have z1:=fun S'=>Ex w0 S' m
 have z2:=fun S'=>EA w0 S' m hm
 have z3:=fun S'=>F1 w0 S' m hm
 have z4:=fun S'=>C9 w0 S' m
 have hc:=fun S'=>fK w0 S' ck cn
 unfold ta at h
 unfold Ac.av
 simp only at h ⊢ hm
 clear hm
 rw [show (decide (0≤m)&&decide (m≤5))=En m from rfl] at z4
 rcases uQ n with(rfl | rfl | rfl | rfl | rfl | rfl | rfl) | ⟨c0,c1,c2,c3,c4,c5,c6⟩
 ·clear z2 z3 z4
  refine eN Tryz.func27 rfl Tryz.ntmps27 fun hO=>?_
  refine share ?K1 ?hK1 fun key1=>?main1
  case main1 =>
   repeat' ((fail_if_success (apply bW 2));first | refine st ?_ | (refine ca ?_;apply hp) | (refine br ?_ ?_<;>intro hb) | refine sd ?_ | apply aB | (apply aL;(· decide +kernel)) | refine bd ?_ ?_ | (refine cd ?_;apply hp) | fail)
   all_goals
    refine jV [1000000,1,3,4] ?_
    simp only [fH,go_sem]
    exact key1
  case hK1 =>
   rintro env ⟨e0,e1,e3,e4⟩
   repeat' first | refine st ?_ | (refine ca ?_;first | apply z1 | apply hc) | (refine br ?_ ?_<;>intro hb) | fail
   all_goals refine fR Tryz.results27 ?_
   all_goals
    refine(congrArg (fun z=>R (.ret (.int .i64 z)) S) (?_:_=_)).mpr h
    clear h hp z1 hc hO e0 e1 e3 e4
    simp_all [pR,eG,pu]
 ·clear z1 z3 z4
  refine eN Tryz.func27 rfl Tryz.ntmps27 fun hO=>?_
  refine share ?K2 ?hK2 fun key1=>?main2
  case main2 =>
   repeat' ((fail_if_success (apply bW 2));first | refine st ?_ | (refine ca ?_;apply hp) | (refine br ?_ ?_<;>intro hb) | refine sd ?_ | apply aB | (apply aL;(· decide +kernel)) | refine bd ?_ ?_ | (refine cd ?_;apply hp) | fail)
   all_goals
    refine jV [1000000,1,3,4] ?_
    simp only [fH,go_sem]
    exact key1
  case hK2 =>
   rintro env ⟨e0,e1,e3,e4⟩
   repeat' first | refine st ?_ | (refine ca ?_;first | apply z2 | apply hc) | (refine br ?_ ?_<;>intro hb) | fail
   all_goals refine fR Tryz.results27 ?_
   all_goals
    refine(congrArg (fun z=>R (.ret (.int .i64 z)) S) (?_:_=_)).mpr h
    clear h hp z2 hc hO e0 e1 e3 e4
    simp_all [pR,eG,pu]
 ·clear z1 z2 z4
  refine eN Tryz.func27 rfl Tryz.ntmps27 fun hO=>?_
  refine share ?K3 ?hK3 fun key1=>?main3
  case main3 =>
   repeat' ((fail_if_success (apply bW 2));first | refine st ?_ | (refine ca ?_;apply hp) | (refine br ?_ ?_<;>intro hb) | refine sd ?_ | apply aB | (apply aL;(· decide +kernel)) | refine bd ?_ ?_ | (refine cd ?_;apply hp) | fail)
   all_goals
    refine jV [1000000,1,3,4] ?_
    simp only [fH,go_sem]
    exact key1
  case hK3 =>
   rintro env ⟨e0,e1,e3,e4⟩
   repeat' first | refine st ?_ | (refine ca ?_;first | apply z3 | apply hc) | (refine br ?_ ?_<;>intro hb) | fail
   all_goals refine fR Tryz.results27 ?_
   all_goals
    refine(congrArg (fun z=>R (.ret (.int .i64 z)) S) (?_:_=_)).mpr h
    clear h hp z3 hc hO e0 e1 e3 e4
    simp_all [pR,eG,pu]
 ·clear z1 z2 z3
  refine eN Tryz.func27 rfl Tryz.ntmps27 fun hO=>?_
  refine share ?K4 ?hK4 fun key1=>?main4
  case main4 =>
   repeat' ((fail_if_success (apply bW 2));first | refine st ?_ | (refine ca ?_;apply hp) | (refine br ?_ ?_<;>intro hb) | refine sd ?_ | apply aB | (apply aL;(· decide +kernel)) | refine bd ?_ ?_ | (refine cd ?_;apply hp) | fail)
   all_goals
    refine jV [1000000,1,3,4] ?_
    simp only [fH,go_sem]
    exact key1
  case hK4 =>
   rintro env ⟨e0,e1,e3,e4⟩
   repeat' first | refine st ?_ | (refine ca ?_;first | apply z4 | apply hc) | (refine br ?_ ?_<;>intro hb) | fail
   all_goals refine fR Tryz.results27 ?_
   all_goals
    refine(congrArg (fun z=>R (.ret (.int .i64 z)) S) (?_:_=_)).mpr h
    clear h hp z4 hc hO e0 e1 e3 e4
    simp_all [pR,eG,pu]
 ·clear z2 z3 z4
  refine eN Tryz.func27 rfl Tryz.ntmps27 fun hO=>?_
  refine share ?K5 ?hK5 fun key1=>?main5
  case main5 =>
   repeat' ((fail_if_success (apply bW 2));first | refine st ?_ | (refine ca ?_;apply hp) | (refine br ?_ ?_<;>intro hb) | refine sd ?_ | apply aB | (apply aL;(· decide +kernel)) | refine bd ?_ ?_ | (refine cd ?_;apply hp) | fail)
   all_goals
    refine jV [1000000,1,3,4] ?_
    simp only [fH,go_sem]
    exact key1
  case hK5 =>
   rintro env ⟨e0,e1,e3,e4⟩
   repeat' first | refine st ?_ | (refine ca ?_;first | apply z1 | apply hc) | (refine br ?_ ?_<;>intro hb) | fail
   all_goals refine fR Tryz.results27 ?_
   all_goals
    refine(congrArg (fun z=>R (.ret (.int .i64 z)) S) (?_:_=_)).mpr h
    clear h hp z1 hc hO e0 e1 e3 e4
    simp_all [pR,eG,pu]
 ·clear z2 z3 z4
  refine eN Tryz.func27 rfl Tryz.ntmps27 fun hO=>?_
  refine share ?K6 ?hK6 fun key1=>?main6
  case main6 =>
   repeat' ((fail_if_success (apply bW 2));first | refine st ?_ | (refine ca ?_;apply hp) | (refine br ?_ ?_<;>intro hb) | refine sd ?_ | apply aB | (apply aL;(· decide +kernel)) | refine bd ?_ ?_ | (refine cd ?_;apply hp) | fail)
   all_goals
    refine jV [1000000,1,3,4] ?_
    simp only [fH,go_sem]
    exact key1
  case hK6 =>
   rintro env ⟨e0,e1,e3,e4⟩
   repeat' first | refine st ?_ | (refine ca ?_;first | apply z1 | apply hc) | (refine br ?_ ?_<;>intro hb) | fail
   all_goals refine fR Tryz.results27 ?_
   all_goals
    refine(congrArg (fun z=>R (.ret (.int .i64 z)) S) (?_:_=_)).mpr h
    clear h hp z1 hc hO e0 e1 e3 e4
    simp_all [pR,eG,pu]
 ·clear z2 z3 z4
  refine eN Tryz.func27 rfl Tryz.ntmps27 fun hO=>?_
  refine share ?K7 ?hK7 fun key1=>?main7
  case main7 =>
   repeat' ((fail_if_success (apply bW 2));first | refine st ?_ | (refine ca ?_;apply hp) | (refine br ?_ ?_<;>intro hb) | refine sd ?_ | apply aB | (apply aL;(· decide +kernel)) | refine bd ?_ ?_ | (refine cd ?_;apply hp) | fail)
   all_goals
    refine jV [1000000,1,3,4] ?_
    simp only [fH,go_sem]
    exact key1
  case hK7 =>
   rintro env ⟨e0,e1,e3,e4⟩
   repeat' first | refine st ?_ | (refine ca ?_;first | apply z1 | apply hc) | (refine br ?_ ?_<;>intro hb) | fail
   all_goals refine fR Tryz.results27 ?_
   all_goals
    refine(congrArg (fun z=>R (.ret (.int .i64 z)) S) (?_:_=_)).mpr h
    clear h hp z1 hc hO e0 e1 e3 e4
    simp_all [pR,eG,pu]
 ·have hn:pR n m ck cn=false:=by
   simp only [beq_eq_false_iff_ne] at c0 c1 c2 c3 c4 c5 c6
   simp [pR,c0,c1,c2,c3,c4,c5,c6]
  rw [hn] at h
  clear z1 z2 z3 z4 hc hn
  refine eN Tryz.func27 rfl Tryz.ntmps27 fun hO=>?_
  repeat' first | refine st ?_ | (refine ca ?_;apply hp) | (refine br ?_ ?_<;>intro hb) | refine sd ?_ | apply aB | (apply aL;(· decide +kernel)) | refine bd ?_ ?_ | (refine cd ?_;apply hp) | fail
  all_goals refine fR Tryz.results27 ?_
  all_goals simpa using h
inductive Sp where
 | rng (a b:Int)
 | zt
def Sp.ok:Sp→Int→Bool
 | .rng a b,n=>decide (a≤n)&&decide (n≤b)
 | .zt,n=>n==0||n==3
def Sp.fv:Sp→AV
 | .rng a b=>.fn (.func 35) [.agg [.int .i64 a,.int .i64 b]] []
 | .zt=>.fn (.func 54) [] []
def Bs:List (Int × Sp × Sp):=[(17,.rng 0 3,.rng 0 1),(18,.rng 2 3,.rng 0 0),(19,.rng 1 9999,.rng 1 9999),(20,.rng 0 3,.rng 1 9999),(26,.rng 0 3,.rng 0 0),(27,.rng 0 2,.rng 0 0),(35,.zt,.rng 0 0),(38,.rng 0 9999,.rng 0 9999),(40,.rng 0 6,.rng 0 0),(41,.rng 5 6,.rng 0 0),(2,.rng 0 0,.rng 0 0),(3,.rng 0 0,.rng 0 0),(4,.rng 0 0,.rng 0 0),(5,.rng 0 0,.rng 0 0),(6,.rng 0 0,.rng 0 0),(8,.rng 0 0,.rng 0 0),(9,.rng 0 0,.rng 0 0),(10,.rng 0 0,.rng 0 0),(11,.rng 0 0,.rng 0 0),(12,.rng 0 0,.rng 0 0),(13,.rng 0 0,.rng 0 0),(15,.rng 0 0,.rng 0 0),(16,.rng 0 0,.rng 0 0),(7,.rng 0 1,.rng 0 0),(14,.rng 0 1,.rng 0 0),(42,.rng 0 1,.rng 0 0),(21,.rng 0 1,.rng 1 9999),(33,.rng 0 1,.rng 1 9999),(22,.rng 1 9999,.rng 0 0),(23,.rng 1 9999,.rng 0 0),(24,.rng 1 9999,.rng 0 0),(25,.rng 1 9999,.rng 0 0),(28,.rng 1 9999,.rng 0 0),(29,.rng 1 9999,.rng 0 0),(30,.rng 1 9999,.rng 0 0),(31,.rng 1 9999,.rng 0 0),(32,.rng 1 9999,.rng 0 0),(34,.rng 1 9999,.rng 0 0),(36,.rng 0 9999,.rng 0 1),(37,.rng 0 9999,.rng 0 1),(43,.rng 0 9999,.rng 0 1)]
def xe:List (AV × AV):=Bs.map fun p=>(.int .i64 p.1,.agg [p.2.1.fv,p.2.2.fv])
theorem Fu (w0:World) (S:List ax) (a b n:Int) (R:Rt) (h:R (.ret (.bool (decide (a≤n)&&decide (n≤b)))) S):ao Tryz.prog w0 35 [.agg [.int .i64 a,.int .i64 b],.int .i64 n] S R:=by
 cases d:decide (a≤n)<;>rw [d] at h
 all_goals
  refine eN Tryz.func35 rfl Tryz.ntmps35 fun hO=>?_
  repeat' first | refine st ?_ | (refine br ?_ ?_<;>intro hb) | fail
  refine fR Tryz.results35 ?_
  first | exact h | (simpa using h)
theorem KF (w0:World) (S:List ax) (n:Int) (R:Rt) (h:R (.ret (.bool (n==0||n==3))) S):ao Tryz.prog w0 54 [.int .i64 n] S R:=by
 cases d:n==0<;>rw [d] at h
 all_goals
  refine eN Tryz.func54 rfl Tryz.ntmps54 fun hO=>?_
  repeat' first | refine st ?_ | (refine br ?_ ?_<;>intro hb) | fail
  refine fR Tryz.results54 ?_
  first | exact h | (simpa using h)
theorem Cc (w0:World) (S:List ax) (R:Rt) (h:R (.ret (.tup [(Sp.rng 0 0).fv,(Sp.rng 0 1).fv,(Sp.rng 1 9999).fv,(Sp.rng 0 9999).fv])) S):ao Tryz.prog w0 53 [] S R:=by
 simp only [Sp.fv] at h
 refine eN Tryz.func53 rfl Tryz.ntmps53 fun hO=>?_
 repeat' first | refine st ?_ | (refine br ?_ ?_<;>intro hb) | fail
 refine fR Tryz.results53 ?_
 exact h
theorem zZ (w0:World) (S:List ax) (R:Rt) (h:R (.ret (.mval xe)) S):ao Tryz.prog w0 29 [] S R:=by
 have hl:=Cc w0
 simp only [Sp.fv] at hl
 simp only [xe,Bs,aA,aC,Sp.fv] at h
 have H:=ae h
 clear h
 refine eN Tryz.func29 rfl Tryz.ntmps29 fun hO=>?_
 repeat' first | refine st ?_ | (refine ca ?_;apply hl) | (refine br ?_ ?_<;>intro hb) | apply cR | apply fO | fail
 refine fR Tryz.results29 ?_
 exact H.out
theorem CB (w0:World) (S:List ax) (n:Nat) (hn:n≤100000) (R:Rt) (h:R (.ret (.int .i64 (((n+2) / 3 * 4:Nat):Int))) S):ao Tryz.prog w0 194 [.int .i64 n] S R:=by
 have m1:(if (1099511627776:Int)<(n:Int) then (1099511627776:Int) else (n:Int))=(n:Int):=by rw [if_neg (by omega)]
 have m2:(if (n:Int)>0 then (n:Int) else 0)=(n:Int):=by split<;>omega
 have k1:af.wrap ((n:Int)+2)=((n+2:Nat):Int):=by rw [au _ (by omega)];omega
 have k2:af.wrap (((n+2:Nat):Int).tdiv 3)=(((n+2) / 3:Nat):Int):=FX (n+2) 3 (by omega)
 have k3:af.wrap ((((n+2) / 3:Nat):Int) * 4)=(((n+2) / 3 * 4:Nat):Int):=by rw [au _ (by omega)];omega
 clear hn
 refine eN Tryz.func194 rfl Tryz.ntmps194 fun hO=>?_
 repeat' first | refine st ?_ | (refine br ?_ ?_<;>intro hb) | fail
 refine fR Tryz.results194 ?_
 exact h
theorem EW (w0:World) (S:List ax) (n:Int) (hn:iD 2 n=true) (R:Rt) (h:R (.ret (.tup [.int .i64 n,.bool true])) S):ao Tryz.prog w0 188 [.agg [.int .i64 2,.int .i64 n]] S R:=by
 have hc:=fun S'=>fK w0 S' 2 n
 rw [hn,if_pos rfl] at hc
 clear hn
 refine eN Tryz.func188 rfl Tryz.ntmps188 fun hO=>?_
 repeat' first | refine st ?_ | (refine ca ?_;apply hc) | (refine br ?_ ?_<;>intro hb) | fail
 refine fR Tryz.results188 ?_
 exact h
theorem E6 (s:List UInt8):ci s 59=if s.dropWhile (fun b=>b != 59)=[] then -1 else ((s.takeWhile (fun b=>b != 59)).length:Int):=by
 induction s with
 | nil=>rfl
 | cons b l ih =>
  rw [ci,List.dropWhile_cons,List.takeWhile_cons]
  by_cases hb:b=59
  ·subst hb;simp
  ·have h1:(b==59)=false:=by simpa using hb
   have h2:(b != 59)=true:=by simpa using hb
   rw [h1,h2]
   simp only [bJ,if_false,if_true]
   rw [ih]
   split
   ·simp
   ·rw [if_neg (by simp)]
    simp
theorem Gh (w0:World) (S:List ax) (s:List UInt8) (R:Rt) (h:R (.ret (.int .i64 (ci s 59))) S):ao Tryz.prog w0 307 [.str s,.int .u8 59] S R:=by
 refine ao.lib (vs:=[.string ⟨s.toArray⟩,.int .u8 59]) (v:=.int .i64 (ci s 59)) (c:=.int .i64 (ci s 59)) (Go.Proofs.enters_of Tryz.func307 (by kernel_rfl) rfl) rfl rfl ?_ h
 intro w hb
 refine(Go.Proofs.Any.stringslite_IndexByte Go.Proofs.Tryz.lays217 ⟨s.toArray⟩ 59 w).mono ?_
 rintro e w' ⟨rfl,rfl⟩
 exact⟨rfl,jR _ _⟩
theorem DA (w0:World) (S:List ax) (s:List UInt8) (R:Rt) (h:R (.ret (.int .i64 (ci s 59))) S):ao Tryz.prog w0 281 [.str s,.str [59]] S R:=by
 have hi:=fun S'=>Gh w0 S' s
 by_cases hs:s=[59]
 ·subst hs
  have h:R (.ret (.int .i64 0)) S:=h
  clear hi
  refine eN Tryz.func281 rfl Tryz.ntmps281 fun hO=>?_
  repeat' first | refine st ?_ | (refine br ?_ ?_<;>intro hb) | fail
  refine fR Tryz.results281 ?_
  exact h
 ·have hne:(([59]:List UInt8)==s)=false:=by
   rw [beq_eq_false_iff_ne]
   exact fun e=>hs e.symm
  generalize ci s 59=i at h hi
  clear hs
  refine eN Tryz.func281 rfl Tryz.ntmps281 fun hO=>?_
  repeat' first | refine st ?_ | (refine ca ?_;apply hi) | (refine br ?_ ?_<;>intro hb) | fail
  refine fR Tryz.results281 ?_
  exact h
def xG (s:List UInt8):AV:=match iB s with | some q=>.tup [.str q.1,.str q.2,.bool true] | none=>.tup [.str s,.str [],.bool false]
theorem EY (w0:World) (S:List ax) (s:List UInt8) (hs:s.length≤10000000) (R:Rt) (h:R (.ret (xG s)) S):ao Tryz.prog w0 238 [.str s,.str [59]] S R:=by
 have hi:=fun S'=>DA w0 S' s
 have htd:=nS (p:=fun b=>b != 59) (l:=s)
 rw [E6] at hi
 by_cases hd:s.dropWhile (fun b=>b != 59)=[]
 ·rw [if_pos hd] at hi
  unfold xG iB at h
  rw [if_pos hd] at h
  have h:R (.ret (.tup [.str s,.str [],.bool false])) S:=h
  clear htd hd hs
  refine eN Tryz.func238 rfl Tryz.ntmps238 fun hO=>?_
  repeat' first | refine st ?_ | (refine ca ?_;apply hi) | (refine br ?_ ?_<;>intro hb) | fail
  refine fR Tryz.results238 ?_
  exact h
 ·rw [if_neg hd] at hi
  unfold xG iB at h
  rw [if_neg hd] at h
  have h:R (.ret (.tup [.str (s.takeWhile (fun b=>b != 59)),.str ((s.dropWhile (fun b=>b != 59)).drop 1),.bool true])) S:=h
  obtain⟨W,hW⟩:∃ W,s.takeWhile (fun b=>b != 59)=W:=⟨_,rfl⟩
  obtain⟨D,hD⟩:∃ D,s.dropWhile (fun b=>b != 59)=D:=⟨_,rfl⟩
  rw [hW] at hi h htd
  rw [hD] at hd htd h
  have hdl:0<D.length:=List.length_pos_iff.2 hd
  have hsl:s.length=W.length+D.length:=by rw [← htd];simp
  have d1:decide ((0:Int)≤(W.length:Int))=true:=by simp
  have hw:af.wrap ((W.length:Int)+((1:Nat):Int))=((W.length+1:Nat):Int):=by rw [au _ (by omega)];rfl
  have b1:(W.length:Int)≤(s.length:Int):=by omega
  have b2:((W.length+1:Nat):Int)≤(s.length:Int):=by omega
  have htk:lm W.length s=W:=by rw [← htd];simp
  have hdk:List.drop (W.length+1) s=D.drop 1:=by rw [← htd,← List.drop_drop];simp
  have hts:lm s.length s=s:=bk
  generalize hE:D.drop 1=E at h hdk
  clear hD hW hd htd hsl hdl hs hE
  refine eN Tryz.func238 rfl Tryz.ntmps238 fun hO=>?_
  repeat' first | refine st ?_ | (refine ca ?_;apply hi) | (refine br ?_ ?_<;>intro hb) | refine sd ?_ | apply aB | (apply aL;(· decide +kernel)) | refine bd ?_ ?_ | (refine cd ?_;apply hi) | fail
  all_goals refine fR Tryz.results238 ?_
  all_goals exact h
theorem Gi (w0:World) (S:List ax) (s:List UInt8) (hs:s.length≤10000000) (R:Rt) (h:R (.ret (xG s)) S):ao Tryz.prog w0 202 [.str s,.str [59]] S R:=by
 have hi:=fun S'=>EY w0 S' s hs
 unfold xG at h hi
 clear hs
 cases hq:iB s with
 | none =>
  rw [hq] at h hi
  clear hq
  refine eN Tryz.func202 rfl Tryz.ntmps202 fun hO=>?_
  repeat' first | refine st ?_ | (refine ca ?_;apply hi) | (refine br ?_ ?_<;>intro hb) | fail
  refine fR Tryz.results202 ?_
  exact h
 | some q =>
  rw [hq] at h hi
  obtain⟨u,v⟩:=q
  simp only at h hi
  clear hq
  refine eN Tryz.func202 rfl Tryz.ntmps202 fun hO=>?_
  repeat' first | refine st ?_ | (refine ca ?_;apply hi) | (refine br ?_ ?_<;>intro hb) | fail
  refine fR Tryz.results202 ?_
  exact h
def qR:Option (List UInt8 × List UInt8)→df
 | some q=>.ret (.tup [.str q.1,.str q.2])
 | none=>.panic bn
theorem Dr (w0:World) (S:List ax) (s:List UInt8) (hs:s.length≤10000000) (R:Rt) (h:R (qR (iB s)) S):ao Tryz.prog w0 135 [.str s] S R:=by
 have hi:=fun S'=>Gi w0 S' s hs
 have hT:=jF w0
 have hF:=jG w0
 unfold xG at hi
 clear hs
 cases hq:iB s with
 | none =>
  rw [hq] at h hi
  unfold qR bn at h
  unfold bn at hF
  clear hq hT
  refine eN Tryz.func135 rfl Tryz.ntmps135 fun hO=>?_
  repeat' first | refine st ?_ | (refine ca ?_;first | apply hi | apply hF) | (refine br ?_ ?_<;>intro hb) | fail
  refine fP ?_
  exact h
 | some q =>
  rw [hq] at h hi
  obtain⟨u,v⟩:=q
  unfold qR at h
  simp only at h hi
  clear hq hF
  refine eN Tryz.func135 rfl Tryz.ntmps135 fun hO=>?_
  repeat' first | refine st ?_ | (refine ca ?_;first | apply hi | apply hT) | (refine br ?_ ?_<;>intro hb) | fail
  refine fR Tryz.results135 ?_
  exact h
theorem Dz (w0:World) (S:List ax) (s:List UInt8) (hs:s.length≤10000000) (R:Rt) (h:R (if fV s then .ret (Ac.av ⟨44,0,0,0,0,s⟩) else .panic bn) S):ao Tryz.prog w0 203 [.str s] S R:=by
 have ht:=fun S'=>y5 w0 S' s hs
 unfold Ac.av at h
 clear hs
 cases hb:fV s with
 | true =>
  rw [hb,if_pos rfl] at h
  rw [hb,if_pos rfl] at ht
  simp only at h
  clear hb
  refine eN Tryz.func203 rfl Tryz.ntmps203 fun hO=>?_
  repeat' first | refine st ?_ | (refine ca ?_;apply ht) | (refine br ?_ ?_<;>intro hb) | fail
  refine fR Tryz.results203 ?_
  exact h
 | false =>
  rw [hb,if_neg (by decide)] at h
  rw [hb,if_neg (by decide)] at ht
  unfold bn at h ht
  clear hb
  refine eN Tryz.func203 rfl Tryz.ntmps203 fun hO=>?_
  repeat' first | refine st ?_ | (refine ca ?_;apply ht) | (refine br ?_ ?_<;>intro hb) | fail
  refine fP ?_
  exact h
theorem Bl (w0:World) (S:List ax) (a:Ac) (hs:a.text.length≤10000000) (hk:a.kind=44) (R:Rt) (h:R (if a=⟨44,0,0,0,0,a.text⟩∧fV a.text=true then .ret (.str (50::59::a.text)) else .panic bn) S):ao Tryz.prog w0 111 [a.av] S R:=by
 have ht:=fun S'=>y5 w0 S' a.text hs
 have hpT:=fun S'=>rz w0 S' a ⟨a.kind,0,0,0,0,a.text⟩
 have hpF:=fun S'=>rB w0 S' a ⟨a.kind,0,0,0,0,a.text⟩
 obtain⟨k,n,m,ck,cn,t⟩:=a
 simp only at hk hs ht hpT hpF h
 subst hk
 unfold Ac.av at hpT hpF ⊢
 simp only at hpT hpF ⊢
 have hl:2+t.length≤9223372036854775807:=by omega
 clear hs
 by_cases he:(⟨44,n,m,ck,cn,t⟩:Ac)=⟨44,0,0,0,0,t⟩
 ·have hp:=fun S'=>hpT S' he
  cases hb:fV t with
  | true =>
   rw [if_pos ⟨he,hb⟩] at h
   rw [hb,if_pos rfl] at ht
   clear hpT hpF he hb
   refine eN Tryz.func111 rfl Tryz.ntmps111 fun hO=>?_
   repeat' first | refine st ?_ | (refine ca ?_;first | apply hp | apply ht) | (refine br ?_ ?_<;>intro hb) | fail
   refine fR Tryz.results111 ?_
   exact h
  | false =>
   rw [if_neg (by rw [hb];simp)] at h
   rw [hb,if_neg (by decide)] at ht
   unfold bn at h ht
   clear hpT hpF he hb
   refine eN Tryz.func111 rfl Tryz.ntmps111 fun hO=>?_
   repeat' first | refine st ?_ | (refine ca ?_;first | apply hp | apply ht) | (refine br ?_ ?_<;>intro hb) | fail
   refine fP ?_
   exact h
 ·have hp:=fun S'=>hpF S' he
  rw [if_neg (fun e=>he e.1)] at h
  unfold bn at h hp
  clear hpT hpF he ht
  refine eN Tryz.func111 rfl Tryz.ntmps111 fun hO=>?_
  repeat' first | refine st ?_ | (refine ca ?_;apply hp) | (refine br ?_ ?_<;>intro hb) | fail
  refine fP ?_
  exact h
def jP (w0:World):Prop:=∀ (S:List ax) (s:List UInt8),s.length≤8192→∀ (R:Rt),R (.ret (uT (ek s))) S→ao Tryz.prog w0 74 [.str s] S R
def ld (w0:World):Prop:=∀ (S:List ax) (a:Ac),a.text.length≤10000→∀ (R:Rt),R (.ret (rk (dH a))) S→ao Tryz.prog w0 28 [a.av] S R
def IQ (o:Option (List UInt8)):List UInt8:=o.getD []
def IR (o:Option (List UInt8)):Int:=if o.isSome then 0 else 2
theorem w7 (o:Option (List UInt8)):rk o=.tup [.str (IQ o),.int .i64 (IR o)]:=by cases o<;>rfl
theorem wF (w0:World) (S:List ax) (a g i:Nat) (ad:AV) (bs:List UInt8) (c:UInt8) (hb:Gz S a g i ad bs) (hlen:(bs.length+1) * 1≤140737488355328) (R:Rt)
  (h:R (.ret .inil) ((S.set g (.arr 5 1 0 (i+1) ((bs++[c]).map iJ))).set a (.cells [.own a 0,.sown g (i+1) (bs.length+1)] (some 90)))) :
  ao Tryz.prog w0 192 [.own a 0,.int .u8 c.toNat] S R:=by
 obtain⟨ha,hg,had⟩:=hb
 have hal:=(ab.1 ha).1
 have hgl:=(ab.1 hg).1
 have hne:a≠g:=by rintro rfl;rw [ha] at hg;cases hg
 obtain⟨S1,hS1⟩:∃ S1,S.set a (.cells [.own a 0,.sown g i bs.length] (some 90))=S1:=⟨_,rfl⟩
 have hck:∀ R:df→List ax→Prop,R (.ret (.tup [])) S1→ao Tryz.prog w0 87 [.own a 0] S R:=by
  intro R hR
  rcases had with rfl | rfl
  ·exact po w0 S a _ ha (by simpa [AV.lt] using hgl) hal R (hS1▸hR)
  ·have:S.set a (.cells [.own a 0,.sown g i bs.length] (some 90))=S:=eK ha
   rw [this] at hS1
   exact pn w0 S a _ ha R (hS1▸hR)
 have h1:S1[a]? = some (.cells [.own a 0,.sown g i bs.length] (some 90)):=by rw [← hS1];simp [hal]
 have h2:S1[g]? = some (.arr 5 1 0 i (bs.map iJ)):=by rw [← hS1,bl hne];exact hg
 have hl1:S1.length=S.length:=by rw [← hS1];simp
 have hbl:(bs.map iJ).length=bs.length:=by simp
 have h3:∀ B,(S1.set g B)[a]? = some (.cells [.own a 0,.sown g i bs.length] (some 90)):=by intro B;rw [bl (Ne.symm hne)];exact h1
 have hg1:g<S1.length:=by rw [hl1];exact hgl
 have ha1:a<S1.length:=by rw [hl1];exact hal
 have h4:∀ B,(S1++[B])[g]? = some (.arr 5 1 0 i (bs.map iJ)):=by intro B;rw [ap hg1];exact h2
 have h5:∀ B,(S1++[B])[a]? = some (.cells [.own a 0,.sown g i bs.length] (some 90)):=by intro B;rw [ap ha1];exact h1
 have h6:∀ B C,(S1++[B]).set g C=S1.set g C++[B]:=by intro B C;exact Af _ _ hg1
 have h7:∀ B C,(S1.set g C++[B])[a]? = some (.cells [.own a 0,.sown g i bs.length] (some 90)):=by intro B C;rw [ap (by simpa using ha1)];exact h3 C
 have h8:∀ B C D,(S1.set g C++[B]).set a D=(S1.set g C).set a D++[B]:=by intro B C D;exact Af _ _ (by simpa using ha1)
 have hfin:∀ B C,(S1.set g B).set a C=(S.set g B).set a C:=by
  intro B C
  rw [← hS1,List.set_comm _ _ hne,List.set_set]
 rw [bg] at h
 have Hfin:=ae hfin
 have Hal:=ae (dw hal hgl)
 have H:=ae h
 have Hl1:=ae hl1
 clear hg had hal hgl hne hS1 hfin h hg1 ha1 hl1
 refine eN Tryz.func192 rfl Tryz.ntmps192 fun hO=>?_
 repeat' first | apply gp | apply eT | apply dU | apply eU | apply gq | apply cG | apply gu | apply cI | apply ct | apply dd | apply cH | apply cr | apply bU | apply gr | (apply bV;(· rfl)) | (apply da;simp only [bt]) | (apply dN;(· rfl);(· simp only [go_sem, *,be,aN,b8];try rfl);(· rfl);simp only [putA]) | (apply eZ;simp only [putA]) | apply de | (apply dT [];(· simp only [go_sem, *,be,aN,b8];try rfl);(· rfl);(· simp only [go_sem, *,be,aN,b8];try rfl);(· rfl);(iterate 2 (· simp only [go_sem, *,be,aN,b8];try rfl));(first | apply hck);simp only [bK,putA]) | (apply dP;(· simp only [go_sem, *,be,aN,b8];try rfl);(· rfl);(· simp only [go_sem, *,be,aN,b8];try rfl)) | (apply dF;(iterate 2 (· simp only [go_sem, *,be,aN,b8];try rfl));(· rfl);simp only [putA]) | (apply cq;(· simp only [go_sem, *,be,aN,b8];try rfl);(· rfl);simp only [putA]) | (apply dQ;(· simp only [go_sem, *,be,aN,b8];try rfl)) | (apply dS;(· simp only [go_sem, *,be,aN,b8];try rfl)) | (apply db;(· rfl);(fail_if_success (focus (show _=some true;(· simp only [go_sem, *,be,aN,b8];try rfl))));(· simp only [go_sem, *,be,aN,b8];try rfl);all_goals (intro hb;try simp only [az,aG] at hb)) | (apply dR;(· simp only [go_sem, *,be,aN,b8];try rfl);all_goals (intro hb;try simp only [az,aG] at hb)) | fail
 refine wm ss ss (by (simp only [go_sem, *,Tryz.results192];try rfl)) (lF (S2:=(S1.set g (.arr 5 1 0 (i+1) (bE iJ bs++[iJ c]))).set a (.cells [.own a 0,.sown g (i+1) (bs.length+1)] (some 90))) ?_ ?_) ss ss rfl ?_
 ·have hb4:ltL S.length (bE iJ bs++[iJ c])=true:=by rw [show bE iJ bs++[iJ c]=bE iJ (bs++[c]) by simp];exact se _ _
  rw [Hfin.out]
  refine bw.set (bw.set hO hb4) ?_
  have:=Hal.out;simp [ax.ltB,ltL,AV.lt,this.1,this.2]
 ·simpa using Hl1.out
 ·have e:((S1.set g (.arr 5 1 0 (i+1) (bE iJ bs++[iJ c]))).set a (.cells [.own a 0,.sown g (i+1) (bs.length+1)] (some 90))++[ax.arr 5 1 0 0 [iJ c]]).take S.length=(S.set g (.arr 5 1 0 (i+1) (bE iJ bs++[iJ c]))).set a (.cells [.own a 0,.sown g (i+1) (bs.length+1)] (some 90)):=by
   rw [Hfin.out]
   have:=kU (l₁:=(S.set g (.arr 5 1 0 (i+1) (bE iJ bs++[iJ c]))).set a (.cells [.own a 0,.sown g (i+1) (bs.length+1)] (some 90))) (l₂:=[ax.arr 5 1 0 0 [iJ c]])
   simpa using this
  refine cast ?_ H.out
  rw [show ([c].map iJ)=[iJ c] from rfl,← e]
  rfl
def dh (X:Nat) (ad:AV) (i:Nat) (bs:List UInt8) (fr tz:Int) (hv:AV) (wt rs:Int):List ax :=
 [ax.cells [ad,.sown (X+6) i bs.length] (some 90),ax.cells [.int .i64 fr],ax.cells [.int .i64 tz],ax.cells [hv],ax.cells [.int .i64 wt],ax.cells [.int .i64 rs],ax.arr 5 1 0 i (bs.map iJ)]
theorem FF (w0:World) (X:List ax) (ad:AV) (had:ad=.nilp∨ad=.own X.length 0) (i:Nat) (bs:List UInt8) (fr tz:Int) (hv:AV) (wt rs:Int) (c:UInt8) (hlen:bs.length≤1000000) (R:Rt)
  (h:R (.ret .inil) (X++dh X.length (.own X.length 0) (i+1) (bs++[c]) fr tz hv wt rs)) :
  ao Tryz.prog w0 192 [.own X.length 0,.int .u8 c.toNat] (X++dh X.length ad i bs fr tz hv wt rs) R:=by
 refine wF w0 _ X.length (X.length+6) i ad bs c ⟨by simp [dh],by rw [aw (by omega)];simp [dh],had⟩ (by omega) R ?_
 have e:((X++dh X.length ad i bs fr tz hv wt rs).set (X.length+6) (.arr 5 1 0 (i+1) ((bs++[c]).map iJ))).set X.length (.cells [.own X.length 0,.sown (X.length+6) (i+1) (bs.length+1)] (some 90)) =
   X++dh X.length (.own X.length 0) (i+1) (bs++[c]) fr tz hv wt rs:=by
  unfold dh
  rw [cZ _ _ (by omega),cZ _ _ (by omega)]
  simp
 rw [e]
 exact h
theorem Be (X:List ax) (hX:bw X) (ad:AV) (had:ad=.nilp∨ad=.own X.length 0) (i:Nat) (bs:List UInt8) (fr tz:Int) (f:Nat) (wt rs:Int):bw (X++dh X.length ad i bs fr tz (.fn (.func f) [] [.own X.length 0]) wt rs):=by
 refine bw.app hX ?_
 unfold dh
 have h4:ltL (X.length+7) (bE iJ bs)=true:=se _ _
 rcases had with rfl | rfl<;>simp [ax.ltB,ltL,AV.lt,h4]
theorem wi (w0:World) (X:List ax) (hX:bw X) (ad:AV) (had:ad=.nilp∨ad=.own X.length 0) (i:Nat) (bs:List UInt8) (fr tz:Int) (wt rs:Int) (v:Nat) (hv:v<64) (hlen:bs.length≤1000000) (R:Rt)
  (h:R (.ret (.tup [])) (X++dh X.length (.own X.length 0) (i+1) (bs++[bh v]) fr tz (.fn (.func 191) [] [.own X.length 0]) wt rs)) :
  ao Tryz.prog w0 191 [.int .i64 v,.own X.length 0] (X++dh X.length ad i bs fr tz (.fn (.func 191) [] [.own X.length 0]) wt rs) R:=by
 have hsg:([65,66,67,68,69,70,71,72,73,74,75,76,77,78,79,80,81,82,83,84,85,86,87,88,89,90,97,98,99,100,101,102,103,104,105,106,107,108,109,110,111,112,113,114,115,116,117,118,119,120,121,122,48,49,50,51,52,53,54,55,56,57,43,47]:List UInt8)[v]? = some (bh v):=by
  have:∀ v,v<64→mU[v]? = some (bh v):=by decide +kernel
  exact this v hv
 generalize bh v=c at h hsg
 have hw:=FF w0 X ad had i bs fr tz (.fn (.func 191) [] [.own X.length 0]) wt rs c hlen
 have hok:=Be X hX (.own X.length 0) (.inr rfl) (i+1) (bs++[c]) fr tz 191 wt rs
 generalize hS:X++dh X.length (.own X.length 0) (i+1) (bs++[c]) fr tz (.fn (.func 191) [] [.own X.length 0]) wt rs=S2 at *
 have hl2:S2.length=X.length+7:=by rw [← hS];simp [dh]
 have hl1:(X++dh X.length ad i bs fr tz (.fn (.func 191) [] [.own X.length 0]) wt rs).length=X.length+7:=by simp [dh]
 have hgt:(X++dh X.length ad i bs fr tz (.fn (.func 191) [] [.own X.length 0]) wt rs)[X.length]? = some (ax.cells [ad,.sown (X.length+6) i bs.length] (some 90)):=by simp [dh]
 generalize X++dh X.length ad i bs fr tz (.fn (.func 191) [] [.own X.length 0]) wt rs=S1 at *
 clear hX had hlen hS hv
 have Hok:=ae hok
 clear hok
 refine eN Tryz.func191 rfl Tryz.ntmps191 fun hO=>?_
 repeat' first | refine st ?_ | (refine ca ?_;apply hw) | (refine br ?_ ?_<;>intro hb) | fail
 refine El Tryz.results191 ?_ ?_ ?_
 ·exact Hok.out
 ·rw [hl1,hl2]
 ·exact h
theorem oJ (w0:World) (S:List ax) (fr tz:Int) (f a:Nat) (hfr:af.wrap fr=fr) (R:Rt)
  (h:R (.ret (.fn (.func 231) [] [.own (S.length+4) 0,.own S.length 0,.own (S.length+3) 0,.own (S.length+1) 0,.own (S.length+2) 0])) (S++[ax.cells [.int .i64 fr],ax.cells [.int .i64 tz],ax.cells [.fn (.func f) [] [.own a 0]],ax.cells [.int .i64 0],ax.cells [.int .i64 0]])) :
  ao Tryz.prog w0 190 [.int .i64 fr,.int .i64 tz,.fn (.func f) [] [.own a 0]] S R:=by
 refine DZ Tryz.func190 rfl (by decide +kernel) (by rw [Tryz.ntmps190];simp) (by rw [Tryz.ntmps190];decide) (fun hO=>?_);rw [Tryz.ntmps190]
 repeat' first | refine st ?_ | (refine br ?_ ?_<;>intro hb) | fail
 (apply DU;iterate 4 (· simp only [go_sem, *,Tryz.results190];try rfl))
 exact h
theorem Gd {a b k:Nat} (ha:a<4294967296) (hk:k≤16) (hb:b<2 ^ k):af.wrap (((ai af.bits (af.wrap ((a:Int) * 2 ^ min k 64)) ||| ai af.bits (b:Int)).toNat:Nat):Int)=((a * 2 ^ k+b:Nat):Int):=by
 have h2:2 ^ k≤2 ^ 16:=dL (by omega) hk
 have h3:a * 2 ^ k≤4294967296 * 65536:=Nat.mul_le_mul (by omega) h2
 have e1:af.wrap ((a:Int) * 2 ^ min k 64)=((a * 2 ^ k:Nat):Int):=by
  rw [Nat.min_eq_left (by omega),show ((a:Int) * 2 ^ k)=((a * 2 ^ k:Nat):Int) by simp]
  exact au _ (by omega)
 rw [e1,Cn]
 have e2:(ai af.bits ((a * 2 ^ k:Nat):Int)).toNat=a * 2 ^ k:=by
  show (ai 64 _).toNat=_
  rw [bL];omega
 have e3:(ai af.bits (b:Int)).toNat=b:=by
  show (ai 64 _).toNat=_
  rw [bL];omega
 rw [e2,e3]
 have e4:a * 2 ^ k ||| b=a * 2 ^ k+b:=by
  have:=Nat.shiftLeft_add_eq_or_of_lt hb a
  rw [Nat.shiftLeft_eq] at this
  exact this.symm
 rw [e4]
 exact au _ (by omega)
theorem vD {m k:Nat} (hm:m<4294967296) (hk:k≤16):af.wrap (((ai af.bits (m:Int) &&& ai af.bits ((2 ^ k - 1:Nat):Int)).toNat:Nat):Int)=((m % 2 ^ k:Nat):Int):=by
 rw [Au]
 have h2:2 ^ k≤2 ^ 16:=dL (by omega) hk
 have h0:0<2 ^ k:=Nat.two_pow_pos k
 have e1:(ai af.bits (m:Int)).toNat=m:=by
  show (ai 64 _).toNat=_
  rw [bL];omega
 have e2:(ai af.bits ((2 ^ k - 1:Nat):Int)).toNat=2 ^ k - 1:=by
  show (ai 64 _).toNat=_
  rw [bL];omega
 rw [e1,e2,vH m k]
 have:=gj m h0
 exact au _ (by omega)
theorem jn (m k:Nat) (hk:k≤16):(m:Int).fdiv (2 ^ min k 64)=((m / 2 ^ k:Nat):Int):=by
 rw [Nat.min_eq_left (by omega),vJ _ (by exact Int.le_of_lt (Int.pow_pos (by decide)))]
 simp
theorem F3 (w0:World) (X:List ax) (hX:bw X) (ad:AV) (had:ad=.nilp∨ad=.own X.length 0) (i:Nat) (q:lj) (n:Nat) (hn:n<256) (hq:(q.wait=0∧q.rest=0)∨(q.wait=2∧q.rest<4)∨(q.wait=4∧q.rest<16)) (hlen:q.out.length≤100000) (R:Rt)
  (h:∀ i',R (.ret (.tup [.int .i64 ((dq q n).wait:Nat),.int .i64 ((dq q n).rest:Nat)])) (X++dh X.length (.own X.length 0) i' ((dq q n).out.map bh) 8 6 (.fn (.func 191) [] [.own X.length 0]) ((dq q n).wait:Nat) ((dq q n).rest:Nat))) :
  ao Tryz.prog w0 231 [.int .i64 n,.own (X.length+5) 0,.own (X.length+1) 0,.own (X.length+4) 0,.own (X.length+2) 0,.own (X.length+3) 0] (X++dh X.length ad i (q.out.map bh) 8 6 (.fn (.func 191) [] [.own X.length 0]) (q.wait:Nat) (q.rest:Nat)) R:=by
 obtain⟨o,w,r⟩:=q
 have w2:af.wrap 2=2:=by decide
 have w4:af.wrap 4=4:=by decide
 have w6:af.wrap 6=6:=by decide
 have w8:af.wrap 8=8:=by decide
 have w10:af.wrap 10=10:=by decide
 have w12:af.wrap 12=12:=by decide
 have wz:af.wrap 0=0:=by decide
 have c0:((0:Nat):Int)=0:=rfl
 have c2:((2:Nat):Int)=2:=rfl
 have c4:((4:Nat):Int)=4:=rfl
 simp only at hq hlen
 obtain⟨m,hmm⟩:∃ m,m=r * 256+n:=⟨_,rfl⟩
 have hor:=Gd (a:=r) (b:=n) (k:=8) (by omega) (by omega) (by omega)
 have hmp:r * 2 ^ 8+n=m:=by omega
 rw [hmp] at hor
 simp only [a6] at hor
 clear hmp
 have hm:m<256 * 2 ^ w:=by rcases hq with⟨rfl,hr⟩ | ⟨rfl,hr⟩ | ⟨rfl,hr⟩<;>omega
 rcases hq with⟨rfl,hr⟩ | ⟨rfl,hr⟩ | ⟨rfl,hr⟩
 ·have e:dq ⟨o,0,r⟩ n=⟨o++[m / 4],2,m % 4⟩:=by rw [hmm];rfl
  rw [e] at h
  have hv:m / 4<64:=by omega
  have h1:=jn m 2 (by omega)
  have h2:=vD (m:=m) (k:=2) (by omega) (by omega)
  have h3:af.wrap (af.wrap (1 * 2 ^ min 2 64) - 1)=3:=by decide
  have h1:(m:Int).fdiv (2 ^ min 2 64)=((m / 4:Nat):Int):=h1
  have h2:af.wrap (((ai af.bits (m:Int) &&& ai af.bits 3).toNat:Nat):Int)=((m % 4:Nat):Int):=h2
  simp only [a6] at h2
  have hp:=wi w0 X hX ad had i (o.map bh) 8 6 2 m (m / 4) hv (by rw [aY];omega)
  have hok:=fun B=>Be X hX (.own X.length 0) (.inr rfl) (i+1) B 8 6 191 2 ((m % 4:Nat):Int)
  simp only [bg,aA,aC] at h
  generalize o.map bh++[bh (m / 4)]=B at h hp
  generalize o.map bh=A at h hp ⊢
  have h:=h (i+1)
  unfold dh at h hp hok ⊢
  simp only at h hp hok ⊢
  have Hok:=ae (hok B)
  clear hX had hn hr e hm hmm hv hlen hok
  refine eN Tryz.func231 rfl Tryz.ntmps231 fun hO=>?_
  repeat' first | refine st ?_ | (refine ca ?_;apply hp) | (refine br ?_ ?_<;>intro hb) | apply cR | apply fO | refine sd ?_ | apply aB | (apply aL;(· decide +kernel)) | refine bd ?_ ?_ | (refine cd ?_;apply hp) | fail
  ·repeat' first | exact aB | refine fY ?_ | refine fu (by decide +kernel) ?_
  refine BP Tryz.results231 ?_ ?_ ?_
  ·exact Hok.out
  ·simp
  ·exact h
 ·have e:dq ⟨o,2,r⟩ n=⟨o++[m / 16],4,m % 16⟩:=by rw [hmm];rfl
  rw [e] at h
  have hv:m / 16<64:=by omega
  have h1:=jn m 4 (by omega)
  have h2:=vD (m:=m) (k:=4) (by omega) (by omega)
  have h3:af.wrap (af.wrap (1 * 2 ^ min 4 64) - 1)=15:=by decide
  have h1:(m:Int).fdiv (2 ^ min 4 64)=((m / 16:Nat):Int):=h1
  have h2:af.wrap (((ai af.bits (m:Int) &&& ai af.bits 15).toNat:Nat):Int)=((m % 16:Nat):Int):=h2
  simp only [a6] at h2
  have hp:=wi w0 X hX ad had i (o.map bh) 8 6 4 m (m / 16) hv (by rw [aY];omega)
  have hok:=fun B=>Be X hX (.own X.length 0) (.inr rfl) (i+1) B 8 6 191 4 ((m % 16:Nat):Int)
  simp only [bg,aA,aC] at h
  generalize o.map bh++[bh (m / 16)]=B at h hp
  generalize o.map bh=A at h hp ⊢
  have h:=h (i+1)
  unfold dh at h hp hok ⊢
  simp only at h hp hok ⊢
  have Hok:=ae (hok B)
  clear hX had hn hr e hm hmm hv hlen hok
  refine eN Tryz.func231 rfl Tryz.ntmps231 fun hO=>?_
  repeat' first | refine st ?_ | (refine ca ?_;apply hp) | (refine br ?_ ?_<;>intro hb) | apply cR | apply fO | refine sd ?_ | apply aB | (apply aL;(· decide +kernel)) | refine bd ?_ ?_ | (refine cd ?_;apply hp) | fail
  ·repeat' first | exact aB | refine fY ?_ | refine fu (by decide +kernel) ?_
  refine BP Tryz.results231 ?_ ?_ ?_
  ·exact Hok.out
  ·simp
  ·exact h
 ·have e:dq ⟨o,4,r⟩ n=⟨o++[m / 64,m % 64],0,0⟩:=by rw [hmm];rfl
  rw [e] at h
  have hv:m / 64<64:=by omega
  have hv2:m % 64<64:=by omega
  have h1:=jn m 6 (by omega)
  have h2:=vD (m:=m) (k:=6) (by omega) (by omega)
  have h3:af.wrap (af.wrap (1 * 2 ^ min 6 64) - 1)=63:=by decide
  have h4:af.wrap (af.wrap (1 * 2 ^ min 0 64) - 1)=0:=by decide
  have h1:(m:Int).fdiv (2 ^ min 6 64)=((m / 64:Nat):Int):=h1
  have h2:af.wrap (((ai af.bits (m:Int) &&& ai af.bits 63).toNat:Nat):Int)=((m % 64:Nat):Int):=h2
  simp only [a6] at h2
  obtain⟨u,hu⟩:∃ u,u=m % 64:=⟨_,rfl⟩
  have hu1:(u:Int).fdiv (2 ^ min 0 64)=(u:Int):=by have:=jn u 0 (by omega);simpa using this
  have hu2:=vD (m:=u) (k:=0) (by omega) (by omega)
  have hu2:af.wrap (((ai af.bits (u:Int) &&& ai af.bits 0).toNat:Nat):Int)=0:=by rw [Nat.pow_zero,Nat.mod_one] at hu2;exact hu2
  simp only [a6] at hu2
  rw [← hu] at h2 h hv2
  have hp:=wi w0 X hX ad had i (o.map bh) 8 6 6 m (m / 64) hv (by rw [aY];omega)
  have hp2:=wi w0 X hX (.own X.length 0) (.inr rfl) (i+1) (o.map bh++[bh (m / 64)]) 8 6 0 (u:Int) u hv2 (by rw [ah,aY];simp;omega)
  have hok:=fun B=>Be X hX (.own X.length 0) (.inr rfl) (i+1+1) B 8 6 191 0 0
  simp only [bg,aA,aC] at h
  rw [show bE bh o++[bh (m / 64),bh u]=(bE bh o++[bh (m / 64)])++[bh u] by simp] at h
  generalize hB:o.map bh++[bh (m / 64)]=B at h hp hp2
  generalize hC:B++[bh u]=C at h hp2
  generalize o.map bh=A at h hp ⊢
  have h:=h (i+1+1)
  unfold dh at h hp hp2 hok ⊢
  simp only at h hp hp2 hok ⊢
  have Hok:=ae (hok C)
  clear hX had hn hr e hm hmm hv hv2 hlen hok hB hC hu
  refine eN Tryz.func231 rfl Tryz.ntmps231 fun hO=>?_
  repeat' first | refine st ?_ | (refine ca ?_;first | apply hp | apply hp2) | (refine br ?_ ?_<;>intro hb) | apply cR | apply fO | refine sd ?_ | apply aB | (apply aL;(· decide +kernel)) | refine bd ?_ ?_ | (refine cd ?_;first | apply hp | apply hp2) | fail
  ·repeat' first | exact aB | refine fY ?_ | refine fu (by decide +kernel) ?_
  ·repeat' first | exact aB | refine fY ?_ | refine fu (by decide +kernel) ?_
  refine BP Tryz.results231 ?_ ?_ ?_
  ·exact Hok.out
  ·simp
  ·exact h
end Go.Proofs.YthdbijpefkapnaaGreatDoor
