/- YthdbijpefkapnaaGreatDoorWalk6: a part of the proof. -/
import Derived.Test.YthdbijpefkapnaaGreatDoorWalk5
import Derived.Shelf.Strings.Search1
import Derived.Test.YthdbijpefkapnaaGreatDoorShelf
import Derived.Test.YthdbijpefkapnaaGreatDoorWalk3
import Derived.Test.YthdbijpefkapnaaGreatDoorWalk1
import Derived.Test.YthdbijpefkapnaaGreatDoorCore3
import Derived.Shelf.Strconv.ToError
set_option linter.all false
set_option maxHeartbeats 40000000
open And renaming intro → a6
open BitVec renaming ofInt → ar
open Bool renaming and_eq_false_iff → gp, and_false → b_, and_true → cu, eq_iff_iff → eB, false_and → bK, false_eq_true → cg, false_or → vH, not_eq_false' → aE, not_eq_true' → aw, or_eq_false_iff → ct, true_and → bL
open Go.IntKind renaming bits → bh, i64 → ae, u64 → aR, u8 → aX
open Go.IntWalk renaming i64_in → ah, u64_in → im, u8_in → di
open Go.Lib renaming hid → ab, indexByte → cX
open Go.RowKit.Below renaming refl → pg
open Go.World renaming block_lt_of_cell? → jb
open List renaming all_eq_true → aC, eq_nil_of_length_eq_zero → bQ, getElem?_eq_getElem → al, getElem?_eq_some_iff → af, getElem?_of_mem → aQ, length_cons → aB, length_eq_one_iff → p8, length_pos_iff → nt, map_cons → ap, map_nil → aq, mem_of_getElem? → ax, take → pi, take_length → bt, toList_toArray → bg
open Nat renaming zero_le → bf
open Option renaming bind_some → HQ
open UInt8 renaming ofNat → ay, ofNat_toNat → cj
namespace Go.Proofs.YthdbijpefkapnaaGreatDoor
open Go Go.Fen Go.Proofs.Tryz
attribute [local irreducible] aW WP aj dS jl cQ aV cV
set_option maxRecDepth 8000
variable (w0:World) (S:List aH)
theorem C8(s:List UInt8)(hs:s.length≤10000000)(R:Rt)(h:R (if gq s then .ret (.tup []) else .panic bA) S):aj prog w0 113 [.str s] S R:=by
 have hco:=fun S'=>Ik w0 S' s (by omega)
 have hcl:=pU s
 have hte:=fun S'=>Kg w0 S' (dN s) (fun c hc=>by have:=hcl.1 c hc;omega) (by omega)
 have hll:(dN s).length≤100000000:=by omega
 unfold gq tv at h
 generalize dN s=l at h hco hte hll
 have hmT:=li w0
 have hmF:=lj w0
 unfold bA at hmF h
 have bad:(decide (s.length≤510)&&(l.all nB&&decide (fj l=s)))=false→R (.panic (.ifc 170 (.agg []))) S:=fun e=>by rw [e] at h;exact h
 have good:(decide (s.length≤510)&&(l.all nB&&decide (fj l=s)))=true→R (.ret (.tup [])) S:=fun e=>by rw [e] at h;exact h
 clear h hcl
 by_cases h40:s.length≤510
 case neg =>
  have d0:decide ((s.length:Int)≤510)=false:=by simp;omega
  have hh:=bad (by rw [decide_eq_false h40,bK])
  clear h40 hs hte bad good hmT hll
  refine eN func113 rfl ntmps113 fun hO=>?_
  repeat' first|refine st ?_|(refine ca ?_;first|apply hco|apply hmF)|(refine br ?_ ?_<;>intro hb)|fail
  refine fP ?_
  exact hh
 have d0:decide ((s.length:Int)≤510)=true:=by simp;omega
 rw [decide_eq_true h40,bL] at bad good
 by_cases htx:fj l=s
 case neg =>
  have d1:(fj l==s)=false:=by rw [beq_eq_false_iff_ne];exact htx
  have hh:=bad (by rw [decide_eq_false htx,b_])
  clear h40 hs bad good hmT hll htx
  refine eN func113 rfl ntmps113 fun hO=>?_
  repeat' first|refine st ?_|(refine ca ?_;first|apply hco|apply hte|apply hmF)|(refine br ?_ ?_<;>intro hb)|fail
  refine fP ?_
  exact hh
 have d1:(fj l==s)=true:=by rw [beq_iff_eq];exact htx
 rw [decide_eq_true htx,cu] at bad good
 have Bad:=ab bad
 have Good:=ab good
 have HmF:=ab hmF
 clear h40 hs htx bad good hmF
 refine eN func113 rfl ntmps113 fun hO=>?_
 repeat' first|refine st ?_|(refine ca ?_;first|apply hco|apply hte|apply hmT)|(refine br ?_ ?_<;>intro hb)|fail
 refine cW (fun (k:Nat) env S'=>k≤l.length∧(∀ j c,j<k→l[j]? = some c→nB c=true)∧env 1000000=.dfr []∧env 17=.sval false (l.map Co)∧env 18=.int .i64 l.length∧env 19=.int .i64 (k:Int)∧S'=S) (fun k=>l.length - k) 0 ?_ ?_
 ·exact⟨bf _,fun j c hj=>absurd hj (by omega),ss,ss,ss,ss,rfl⟩
 ·rintro k env S' ⟨hk,hall,e0,e17,e18,e19,rfl⟩ IH
  have HI:=ab IH
  have Hall:=ab hall
  clear IH hall hco hte
  by_cases hlt:k<l.length
  ·obtain⟨c,hx⟩:∃ c,l[k]? = some c:=⟨_,al hlt⟩
   have h1:decide ((k:Int)<(l.length:Int))=true:=by simpa using hlt
   have hw:ae.wrap ((k:Int)+1)=(k:Int)+1:=ah _ (by omega)
   have bad:nB c=false→R (.panic (.ifc 170 (.agg []))) S':=fun hc=>Bad.out (by
    rw [List.all_eq_false]
    exact⟨c,ax hx,by simp [hc]⟩)
   have good:nB c=true→∀ j d,j<k+1→l[j]? = some d→nB d=true:=fun hc j d hj hd=>by
    by_cases e:j=k
    ·rw [e,hx] at hd;cases hd;exact hc
    ·exact Hall.out j d (by omega) hd
   have Bad2:=ab bad
   have Good2:=ab good
   have Hlt:=ab hlt
   clear bad good hlt hk hll
   by_cases q1:c<32
   ·have d2:decide ((32:Int)≤(c:Int))=false:=by simp;omega
    have hc:nB c=false:=by unfold nB;rw [decide_eq_false (by omega)];rfl
    have hb:=Bad2.out hc
    have hmF:=HmF.out
    clear q1 hc hmT
    repeat' first|apply fK|apply eg|apply dx|apply eh|apply fL|apply bU|apply fQ|apply bW|apply bJ|apply cE|apply bV|apply bI|apply bo|apply fO|(apply bp;(· rfl))|(apply cC;simp only [bg])|(apply dq;(· rfl);(· simp only [go_sem, *,Co];try rfl);(· rfl);simp only [putA])|(apply eo;simp only [putA])|apply cF|(apply cZ [];(· simp only [go_sem, *,Co];try rfl);(· rfl);(· simp only [go_sem, *,Co];try rfl);(· rfl);(iterate 2 (· simp only [go_sem, *,Co];try rfl));(first|apply hmF);simp only [aV,putA])|(apply dr;(· simp only [go_sem, *,Co];try rfl);(· rfl);(· simp only [go_sem, *,Co];try rfl))|(apply dF;(iterate 2 (· simp only [go_sem, *,Co];try rfl));(· rfl);simp only [putA])|(apply bH;(· simp only [go_sem, *,Co];try rfl);(· rfl);simp only [putA])|(apply dt;(· simp only [go_sem, *,Co];try rfl))|(apply dw;(· simp only [go_sem, *,Co];try rfl))|(apply cD;(· rfl);(fail_if_success (focus (show _=some true;(· simp only [go_sem, *,Co];try rfl))));(· simp only [go_sem, *,Co];try rfl);all_goals (intro hb;try simp only [aw,aE] at hb))|(apply du;(· simp only [go_sem, *,Co];try rfl);all_goals (intro hb;try simp only [aw,aE] at hb))|fail
    refine fP ?_
    exact hb
   have d2:decide ((32:Int)≤(c:Int))=true:=by simp;omega
   by_cases q2:127≤c
   ·have d3:decide ((c:Int)<127)=false:=by simp;omega
    by_cases q3:c≤159
    ·have d4:decide ((159:Int)<(c:Int))=false:=by simp;omega
     have hc:nB c=false:=by unfold nB;rw [decide_eq_true q2,decide_eq_true q3];simp
     have hb:=Bad2.out hc
     have hmF:=HmF.out
     clear q1 q2 q3 hc hmT
     repeat' first|apply fK|apply eg|apply dx|apply eh|apply fL|apply bU|apply fQ|apply bW|apply bJ|apply cE|apply bV|apply bI|apply bo|apply fO|(apply bp;(· rfl))|(apply cC;simp only [bg])|(apply dq;(· rfl);(· simp only [go_sem, *,Co];try rfl);(· rfl);simp only [putA])|(apply eo;simp only [putA])|apply cF|(apply cZ [];(· simp only [go_sem, *,Co];try rfl);(· rfl);(· simp only [go_sem, *,Co];try rfl);(· rfl);(iterate 2 (· simp only [go_sem, *,Co];try rfl));(first|apply hmF);simp only [aV,putA])|(apply dr;(· simp only [go_sem, *,Co];try rfl);(· rfl);(· simp only [go_sem, *,Co];try rfl))|(apply dF;(iterate 2 (· simp only [go_sem, *,Co];try rfl));(· rfl);simp only [putA])|(apply bH;(· simp only [go_sem, *,Co];try rfl);(· rfl);simp only [putA])|(apply dt;(· simp only [go_sem, *,Co];try rfl))|(apply dw;(· simp only [go_sem, *,Co];try rfl))|(apply cD;(· rfl);(fail_if_success (focus (show _=some true;(· simp only [go_sem, *,Co];try rfl))));(· simp only [go_sem, *,Co];try rfl);all_goals (intro hb;try simp only [aw,aE] at hb))|(apply du;(· simp only [go_sem, *,Co];try rfl);all_goals (intro hb;try simp only [aw,aE] at hb))|fail
     refine fP ?_
     exact hb
    ·have d4:decide ((159:Int)<(c:Int))=true:=by simp;omega
     have hc:nB c=true:=by unfold nB;rw [decide_eq_false q3,decide_eq_true (by omega)];simp
     clear q1 q2 q3
     repeat' first|apply fK|apply eg|apply dx|apply eh|apply fL|apply bU|apply fQ|apply bW|apply bJ|apply cE|apply bV|apply bI|apply bo|apply fO|(apply bp;(· rfl))|(apply cC;simp only [bg])|(apply dq;(· rfl);(· simp only [go_sem, *,Co];try rfl);(· rfl);simp only [putA])|(apply eo;simp only [putA])|apply cF|(apply cZ [];(· simp only [go_sem, *,Co];try rfl);(· rfl);(· simp only [go_sem, *,Co];try rfl);(· rfl);(iterate 2 (· simp only [go_sem, *,Co];try rfl));(first|apply hmT);simp only [aV,putA])|(apply dr;(· simp only [go_sem, *,Co];try rfl);(· rfl);(· simp only [go_sem, *,Co];try rfl))|(apply dF;(iterate 2 (· simp only [go_sem, *,Co];try rfl));(· rfl);simp only [putA])|(apply bH;(· simp only [go_sem, *,Co];try rfl);(· rfl);simp only [putA])|(apply dt;(· simp only [go_sem, *,Co];try rfl))|(apply dw;(· simp only [go_sem, *,Co];try rfl))|(apply cD;(· rfl);(fail_if_success (focus (show _=some true;(· simp only [go_sem, *,Co];try rfl))));(· simp only [go_sem, *,Co];try rfl);all_goals (intro hb;try simp only [aw,aE] at hb))|(apply du;(· simp only [go_sem, *,Co];try rfl);all_goals (intro hb;try simp only [aw,aE] at hb))|fail
     refine HI.out (k+1) _ _ (by have:=Hlt.out;omega) ⟨Hlt.out,Good2.out hc, ?_, ?_, ?_, ?_,rfl⟩
     all_goals (simp only [go_sem, *];try rfl)
   ·have d3:decide ((c:Int)<127)=true:=by simp;omega
    have hc:nB c=true:=by unfold nB;rw [decide_eq_false q2,decide_eq_true (by omega)];rfl
    clear q1 q2
    repeat' first|apply fK|apply eg|apply dx|apply eh|apply fL|apply bU|apply fQ|apply bW|apply bJ|apply cE|apply bV|apply bI|apply bo|apply fO|(apply bp;(· rfl))|(apply cC;simp only [bg])|(apply dq;(· rfl);(· simp only [go_sem, *,Co];try rfl);(· rfl);simp only [putA])|(apply eo;simp only [putA])|apply cF|(apply cZ [];(· simp only [go_sem, *,Co];try rfl);(· rfl);(· simp only [go_sem, *,Co];try rfl);(· rfl);(iterate 2 (· simp only [go_sem, *,Co];try rfl));(first|apply hmT);simp only [aV,putA])|(apply dr;(· simp only [go_sem, *,Co];try rfl);(· rfl);(· simp only [go_sem, *,Co];try rfl))|(apply dF;(iterate 2 (· simp only [go_sem, *,Co];try rfl));(· rfl);simp only [putA])|(apply bH;(· simp only [go_sem, *,Co];try rfl);(· rfl);simp only [putA])|(apply dt;(· simp only [go_sem, *,Co];try rfl))|(apply dw;(· simp only [go_sem, *,Co];try rfl))|(apply cD;(· rfl);(fail_if_success (focus (show _=some true;(· simp only [go_sem, *,Co];try rfl))));(· simp only [go_sem, *,Co];try rfl);all_goals (intro hb;try simp only [aw,aE] at hb))|(apply du;(· simp only [go_sem, *,Co];try rfl);all_goals (intro hb;try simp only [aw,aE] at hb))|fail
    refine HI.out (k+1) _ _ (by have:=Hlt.out;omega) ⟨Hlt.out,Good2.out hc, ?_, ?_, ?_, ?_,rfl⟩
    all_goals (simp only [go_sem, *];try rfl)
  ·have h1:decide ((k:Int)<(l.length:Int))=false:=by simpa using hlt
   have hh:=Good.out (by
    rw [aC]
    intro c hc
    obtain⟨j,hj⟩:=aQ hc
    exact Hall.out j c (by have:=(af.1 hj).1;omega) hj)
   clear hlt hk Hall HI hll
   repeat' first|refine st ?_|(refine br ?_ ?_<;>intro hb)|fail
   refine fE results113 ?_
   exact hh
theorem FW(R:Rt)(h:R (.ret (.agg [.int .i64 0,.int .i64 255,.int .i64 16777215])) S):aj prog w0 109 [] S R:=by
 refine eN func109 rfl ntmps109 fun hO=>?_
 repeat' first|refine st ?_|(refine br ?_ ?_<;>intro hb)|fail
 refine fR results109 ?_
 exact h
def wI(k:Int):Int:=if k=0 then 0 else if k=1 then 255 else 16777215
def jh(k n:Int):Bool:=(decide (0≤k)&&decide (k≤2))&&(decide (0≤n)&&decide (n≤wI k))
theorem hH(k n:Int)(R:Rt)(h:R (.ret (.int .i64 (if jh k n then 0 else 130))) S):aj prog w0 48 [.agg [.int .i64 k,.int .i64 n]] S R:=by
 have hl:=FW w0
 have H:=ab h
 clear h
 have hk3:k=0∨k=1∨k=2∨k<0∨(0≤k∧3≤k):=by omega
 rcases hk3 with rfl|rfl|rfl|hk|⟨hk,hk3⟩
 case inr.inr.inr.inl =>
  have d1:decide (k<0)=true:=decide_eq_true hk
  have hh:=H.out
  rw [if_neg (by unfold jh;simp;omega)] at hh
  clear hk H
  refine eN func48 rfl ntmps48 fun hO=>?_
  repeat' first|refine st ?_|(refine ca ?_;apply hl)|(refine br ?_ ?_<;>intro hb)|refine sd ?_|apply au|(apply aF;(· decide +kernel))|refine bd ?_ ?_|(refine cd ?_;apply hl)|fail
  refine fR results48 ?_
  exact hh
 case inr.inr.inr.inr =>
  have d1:decide (k<0)=false:=decide_eq_false (by omega)
  have d2:decide (3≤k)=true:=decide_eq_true hk3
  have hh:=H.out
  rw [if_neg (by unfold jh;simp;omega)] at hh
  clear hk hk3 H
  refine eN func48 rfl ntmps48 fun hO=>?_
  repeat' first|refine st ?_|(refine ca ?_;apply hl)|(refine br ?_ ?_<;>intro hb)|refine sd ?_|apply au|(apply aF;(· decide +kernel))|refine bd ?_ ?_|(refine cd ?_;apply hl)|fail
  refine fR results48 ?_
  exact hh
 all_goals
  rcases(show n<0∨0≤n by omega) with hn|hn
  all_goals
   first
   | have d1:decide (n<0)=true:=decide_eq_true hn
   | have d1:decide (n<0)=false:=decide_eq_false (by omega)
   have Hn:=ab hn
   clear hn
   refine eN func48 rfl ntmps48 fun hO=>?_
   repeat' first|refine st ?_|(refine ca ?_;apply hl)|(refine br ?_ ?_<;>intro hb)|refine sd ?_|apply au|(apply aF;(· decide +kernel))|refine bd ?_ ?_|(refine cd ?_;apply hl)|fail
   all_goals refine fR results48 ?_
   all_goals
    refine cast (congrArg (fun v=>R (.ret (.int .i64 v)) S) ?_) H.out
    have hn:=Hn.out
    simp only [decide_eq_true_eq,decide_eq_false_iff_not] at *
    first
    | (rw [if_pos (by simp [jh,wI];omega)])
    | (rw [if_neg (by simp [jh,wI];omega)])
theorem Hh(n:Nat)(hn:n≤100000)(R:Rt)(h:R (.ret (.int .i64 (((n+2) / 3 * 4:Nat):Int))) S):aj prog w0 194 [.int .i64 n] S R:=by
 have m1:(if (1099511627776:Int)<(n:Int) then (1099511627776:Int) else (n:Int))=(n:Int):=by rw [if_neg (by omega)]
 have m2:(if (n:Int)>0 then (n:Int) else 0)=(n:Int):=by split<;>omega
 have k1:ae.wrap ((n:Int)+2)=((n+2:Nat):Int):=by rw [ah _ (by omega)];omega
 have k2:ae.wrap (((n+2:Nat):Int).tdiv 3)=(((n+2) / 3:Nat):Int):=Am (n+2) 3 (by omega)
 have k3:ae.wrap ((((n+2) / 3:Nat):Int) * 4)=(((n+2) / 3 * 4:Nat):Int):=by rw [ah _ (by omega)];omega
 clear hn
 refine eN func194 rfl ntmps194 fun hO=>?_
 repeat' first|refine st ?_|(refine br ?_ ?_<;>intro hb)|fail
 refine fR results194 ?_
 exact h
theorem KU(n:Int)(hn:jh 2 n=true)(R:Rt)(h:R (.ret (.tup [.int .i64 n,.bool true])) S):aj prog w0 188 [.agg [.int .i64 2,.int .i64 n]] S R:=by
 have hc:=fun S'=>hH w0 S' 2 n
 rw [hn,if_pos rfl] at hc
 clear hn
 refine eN func188 rfl ntmps188 fun hO=>?_
 repeat' first|refine st ?_|(refine ca ?_;apply hc)|(refine br ?_ ?_<;>intro hb)|fail
 refine fR results188 ?_
 exact h
theorem K8(s:List UInt8):cX s 59=if s.dropWhile (fun b=>b != 59)=[] then -1 else ((s.takeWhile (fun b=>b != 59)).length:Int):=by
 induction s with
 | nil=>rfl
 | cons b l ih =>
  rw [cX,List.dropWhile_cons,List.takeWhile_cons]
  by_cases hb:b=59
  ·subst hb;simp
  ·have h1:(b==59)=false:=by simpa using hb
   have h2:(b != 59)=true:=by simpa using hb
   rw [h1,h2]
   simp only [cg,if_false,if_true]
   rw [ih]
   split
   ·simp
   ·rw [if_neg (by simp)]
    simp
theorem Mr(s:List UInt8)(R:Rt)(h:R (.ret (.int .i64 (cX s 59))) S):aj prog w0 307 [.str s,.int .u8 59] S R:=by
 refine aj.lib (vs:=[.string ⟨s.toArray⟩,.int .u8 59]) (v:=.int .i64 (cX s 59)) (c:=.int .i64 (cX s 59)) (Go.Proofs.enters_of func307 (by kernel_rfl) rfl) rfl rfl ?_ h
 intro w hb
 refine(Go.Proofs.Any.stringslite_IndexByte Go.Proofs.Tryz.lays217 ⟨s.toArray⟩ 59 w).mono ?_
 rintro e w' ⟨rfl,rfl⟩
 exact⟨rfl,pg _ _⟩
theorem Jl(s:List UInt8)(R:Rt)(h:R (.ret (.int .i64 (cX s 59))) S):aj prog w0 281 [.str s,.str [59]] S R:=by
 have hi:=fun S'=>Mr w0 S' s
 by_cases hs:s=[59]
 ·subst hs
  have h:R (.ret (.int .i64 0)) S:=h
  clear hi
  refine eN func281 rfl ntmps281 fun hO=>?_
  repeat' first|refine st ?_|(refine br ?_ ?_<;>intro hb)|fail
  refine fR results281 ?_
  exact h
 ·have hne:(([59]:List UInt8)==s)=false:=by
   rw [beq_eq_false_iff_ne]
   exact fun e=>hs e.symm
  generalize cX s 59=i at h hi
  clear hs
  refine eN func281 rfl ntmps281 fun hO=>?_
  repeat' first|refine st ?_|(refine ca ?_;apply hi)|(refine br ?_ ?_<;>intro hb)|fail
  refine fR results281 ?_
  exact h
def Bc(s:List UInt8):AV:=match hY s with|some q=>.tup [.str q.1,.str q.2,.bool true]|none=>.tup [.str s,.str [],.bool false]
theorem KW(s:List UInt8)(hs:s.length≤10000000)(R:Rt)(h:R (.ret (Bc s)) S):aj prog w0 238 [.str s,.str [59]] S R:=by
 have hi:=fun S'=>Jl w0 S' s
 have htd:=List.takeWhile_append_dropWhile (p:=fun b=>b != 59) (l:=s)
 rw [K8] at hi
 by_cases hd:s.dropWhile (fun b=>b != 59)=[]
 ·rw [if_pos hd] at hi
  unfold Bc hY at h
  rw [if_pos hd] at h
  have h:R (.ret (.tup [.str s,.str [],.bool false])) S:=h
  clear htd hd hs
  refine eN func238 rfl ntmps238 fun hO=>?_
  repeat' first|refine st ?_|(refine ca ?_;apply hi)|(refine br ?_ ?_<;>intro hb)|fail
  refine fR results238 ?_
  exact h
 ·rw [if_neg hd] at hi
  unfold Bc hY at h
  rw [if_neg hd] at h
  have h:R (.ret (.tup [.str (s.takeWhile (fun b=>b != 59)),.str ((s.dropWhile (fun b=>b != 59)).drop 1),.bool true])) S:=h
  obtain⟨W,hW⟩:∃ W,s.takeWhile (fun b=>b != 59)=W:=⟨_,rfl⟩
  obtain⟨D,hD⟩:∃ D,s.dropWhile (fun b=>b != 59)=D:=⟨_,rfl⟩
  rw [hW] at hi h htd
  rw [hD] at hd htd h
  have hdl:0<D.length:=nt.2 hd
  have hsl:s.length=W.length+D.length:=by rw [← htd];simp
  have d1:decide ((0:Int)≤(W.length:Int))=true:=by simp
  have hw:ae.wrap ((W.length:Int)+((1:Nat):Int))=((W.length+1:Nat):Int):=by rw [ah _ (by omega)];rfl
  have b1:(W.length:Int)≤(s.length:Int):=by omega
  have b2:((W.length+1:Nat):Int)≤(s.length:Int):=by omega
  have htk:pi W.length s=W:=by rw [← htd];simp
  have hdk:List.drop (W.length+1) s=D.drop 1:=by rw [← htd,← List.drop_drop];simp
  have hts:pi s.length s=s:=bt
  generalize hE:D.drop 1=E at h hdk
  clear hD hW hd htd hsl hdl hs hE
  refine eN func238 rfl ntmps238 fun hO=>?_
  repeat' first|refine st ?_|(refine ca ?_;apply hi)|(refine br ?_ ?_<;>intro hb)|refine sd ?_|apply au|(apply aF;(· decide +kernel))|refine bd ?_ ?_|(refine cd ?_;apply hi)|fail
  all_goals refine fR results238 ?_
  all_goals exact h
theorem Ms(s:List UInt8)(hs:s.length≤10000000)(R:Rt)(h:R (.ret (Bc s)) S):aj prog w0 202 [.str s,.str [59]] S R:=by
 have hi:=fun S'=>KW w0 S' s hs
 unfold Bc at h hi
 clear hs
 cases hq:hY s with
 | none =>
  rw [hq] at h hi
  clear hq
  refine eN func202 rfl ntmps202 fun hO=>?_
  repeat' first|refine st ?_|(refine ca ?_;apply hi)|(refine br ?_ ?_<;>intro hb)|fail
  refine fR results202 ?_
  exact h
 | some q =>
  rw [hq] at h hi
  obtain⟨u,v⟩:=q
  simp only at h hi
  clear hq
  refine eN func202 rfl ntmps202 fun hO=>?_
  repeat' first|refine st ?_|(refine ca ?_;apply hi)|(refine br ?_ ?_<;>intro hb)|fail
  refine fR results202 ?_
  exact h
def uk:Option (List UInt8 × List UInt8)→gC
 | some q=>.ret (.tup [.str q.1,.str q.2])
 | none=>.panic bA
theorem Jc(s:List UInt8)(hs:s.length≤10000000)(R:Rt)(h:R (uk (hY s)) S):aj prog w0 135 [.str s] S R:=by
 have hi:=fun S'=>Ms w0 S' s hs
 have hT:=li w0
 have hF:=lj w0
 unfold Bc at hi
 clear hs
 cases hq:hY s with
 | none =>
  rw [hq] at h hi
  unfold uk bA at h
  unfold bA at hF
  clear hq hT
  refine eN func135 rfl ntmps135 fun hO=>?_
  repeat' first|refine st ?_|(refine ca ?_;first|apply hi|apply hF)|(refine br ?_ ?_<;>intro hb)|fail
  refine fP ?_
  exact h
 | some q =>
  rw [hq] at h hi
  obtain⟨u,v⟩:=q
  unfold uk at h
  simp only at h hi
  clear hq hF
  refine eN func135 rfl ntmps135 fun hO=>?_
  repeat' first|refine st ?_|(refine ca ?_;first|apply hi|apply hT)|(refine br ?_ ?_<;>intro hb)|fail
  refine fR results135 ?_
  exact h
theorem Jk(s:List UInt8)(hs:s.length≤10000000)(R:Rt)(h:R (if gq s then .ret (Ac.av ⟨44,0,0,0,0,s⟩) else .panic bA) S):aj prog w0 203 [.str s] S R:=by
 have ht:=fun S'=>C8 w0 S' s hs
 unfold Ac.av at h
 clear hs
 cases hb:gq s with
 | true =>
  rw [hb,if_pos rfl] at h
  rw [hb,if_pos rfl] at ht
  simp only at h
  clear hb
  refine eN func203 rfl ntmps203 fun hO=>?_
  repeat' first|refine st ?_|(refine ca ?_;apply ht)|(refine br ?_ ?_<;>intro hb)|fail
  refine fR results203 ?_
  exact h
 | false =>
  rw [hb,if_neg (by decide)] at h
  rw [hb,if_neg (by decide)] at ht
  unfold bA at h ht
  clear hb
  refine eN func203 rfl ntmps203 fun hO=>?_
  repeat' first|refine st ?_|(refine ca ?_;apply ht)|(refine br ?_ ?_<;>intro hb)|fail
  refine fP ?_
  exact h
theorem FT(a:Ac)(hs:a.text.length≤10000000)(hk:a.kind=44)(R:Rt)(h:R (if a=⟨44,0,0,0,0,a.text⟩∧gq a.text=true then .ret (.str (50::59::a.text)) else .panic bA) S):aj prog w0 111 [a.av] S R:=by
 have ht:=fun S'=>C8 w0 S' a.text hs
 have hpT:=fun S'=>uR w0 S' a ⟨a.kind,0,0,0,0,a.text⟩
 have hpF:=fun S'=>uT w0 S' a ⟨a.kind,0,0,0,0,a.text⟩
 obtain⟨k,n,m,ck,cn,t⟩:=a
 simp only at hk hs ht hpT hpF h
 subst hk
 unfold Ac.av at hpT hpF ⊢
 simp only at hpT hpF ⊢
 have hl:2+t.length≤9223372036854775807:=by omega
 clear hs
 by_cases he:(⟨44,n,m,ck,cn,t⟩:Ac)=⟨44,0,0,0,0,t⟩
 ·have hp:=fun S'=>hpT S' he
  cases hb:gq t with
  | true =>
   rw [if_pos ⟨he,hb⟩] at h
   rw [hb,if_pos rfl] at ht
   clear hpT hpF he hb
   refine eN func111 rfl ntmps111 fun hO=>?_
   repeat' first|refine st ?_|(refine ca ?_;first|apply hp|apply ht)|(refine br ?_ ?_<;>intro hb)|fail
   refine fR results111 ?_
   exact h
  | false =>
   rw [if_neg (by rw [hb];simp)] at h
   rw [hb,if_neg (by decide)] at ht
   unfold bA at h ht
   clear hpT hpF he hb
   refine eN func111 rfl ntmps111 fun hO=>?_
   repeat' first|refine st ?_|(refine ca ?_;first|apply hp|apply ht)|(refine br ?_ ?_<;>intro hb)|fail
   refine fP ?_
   exact h
 ·have hp:=fun S'=>hpF S' he
  rw [if_neg (fun e=>he e.1)] at h
  unfold bA at h hp
  clear hpT hpF he ht
  refine eN func111 rfl ntmps111 fun hO=>?_
  repeat' first|refine st ?_|(refine ca ?_;apply hp)|(refine br ?_ ?_<;>intro hb)|fail
  refine fP ?_
  exact h
def lz(w0:World):Prop:=∀ (S:List aH) (s:List UInt8),s.length≤8192→∀ (R:Rt),R (.ret (sO (ea s))) S→aj prog w0 74 [.str s] S R
def m3(w0:World):Prop:=∀ (S:List aH) (a:Ac),a.text.length≤10000→∀ (R:Rt),R (.ret (rq (cK a))) S→aj prog w0 28 [a.av] S R
def Mf(o:Option (List UInt8)):List UInt8:=o.getD []
def Mi(o:Option (List UInt8)):Int:=if o.isSome then 0 else 2
theorem tt(o:Option (List UInt8)):rq o=.tup [.str (Mf o),.int .i64 (Mi o)]:=by cases o<;>rfl
theorem FF(l:List (List Int))(hl:l.length≤1000000)(hs:∀ s∈l,s.length≤1000000)(R:Rt)(h:∀ i:Int,decide (0≤i)=l.any iw→R (.ret (.int .i64 i)) S):aj prog w0 160 [.sval false (l.map cB),.fn (.func 76) [] []] S R:=by
 have hb:=KM w0
 have Hs:=ab hs
 clear hs
 refine eN func160 rfl ntmps160 fun hO=>?_
 repeat' first|refine st ?_|(refine br ?_ ?_<;>intro hb)|fail
 refine cW (fun (k:Nat) env S'=>k≤l.length∧(l.take k).any iw=false∧env 1000000=.dfr []∧env 0=.sval false (l.map cB)∧env 1=.fn (.func 76) [] []∧env 7=.int .i64 l.length∧env 8=.int .i64 (k:Int)∧S'=S) (fun k=>l.length - k) 0 ?_ ?_
 ·exact⟨bf _,by simp,ss,ss,ss,ss,ss,rfl⟩
 ·rintro k env S' ⟨hk,hp,e0,f0,f1,f7,f8,rfl⟩ IH
  have HI:=ab IH
  have H:=ab h
  clear IH h
  by_cases hlt:k<l.length
  ·obtain⟨x,hx⟩:∃ x,l[k]? = some x:=⟨_,al hlt⟩
   have h1:decide ((k:Int)<(l.length:Int))=true:=by simpa using hlt
   have hw:ae.wrap ((k:Int)+1)=((k+1:Nat):Int):=by rw [ah _ (by omega)];omega
   have hb':=fun S'=>hb S' x (Hs.out x (ax hx))
   unfold cB at hb'
   cases hbx:iw x with
   | true =>
    have hh:=H.out (k:Int) (by rw [pZ hx hbx];simp)
    rw [hbx] at hb'
    clear hk hp hlt HI hb hl
    repeat' first|refine st ?_|(refine ca ?_;apply hb')|(refine br ?_ ?_<;>intro hb)|fail
    refine fR results160 ?_
    exact hh
   | false =>
    rw [hbx] at hb'
    have Hn:=ab (l8 hx hp hbx)
    have Hlt:=ab hlt
    clear hk hp hlt hb hbx
    repeat' first|refine st ?_|(refine ca ?_;apply hb')|(refine br ?_ ?_<;>intro hb)|fail
    refine HI.out (k+1) _ _ (by have:=Hlt.out;omega) ⟨Hlt.out,Hn.out, ?_, ?_, ?_, ?_, ?_,rfl⟩
    all_goals (simp only [go_sem, *];try rfl)
  ·have h1:decide ((k:Int)<(l.length:Int))=false:=by simpa using hlt
   have hk':k=l.length:=by omega
   rw [hk',bt] at hp
   have hh:=H.out (-1) (by rw [hp];decide)
   clear hlt hk hk' HI hp
   repeat' first|refine st ?_|(refine br ?_ ?_<;>intro hb)|fail
   refine fR results160 ?_
   exact hh
theorem I_(l:List (List Int))(hl:l.length≤1000000)(hs:∀ s∈l,s.length≤1000000)(R:Rt)(h:R (.ret (.bool (l.any iw))) S):aj prog w0 80 [.sval false (l.map cB),.fn (.func 76) [] []] S R:=by
 have hi:=fun S'=>FF w0 S' l hl hs
 generalize l.any iw=b at h hi
 clear hs
 refine eN func80 rfl ntmps80 fun hO=>?_
 repeat' first|refine st ?_|(refine ca ?_;apply hi)|(refine br ?_ ?_<;>intro hb)|fail
 intro i hi2
 repeat' first|refine st ?_|(refine br ?_ ?_<;>intro hb)|fail
 refine fR results80 ?_
 exact h
theorem Fi{l:List (List Int)}(h:l.length=1):∃ s,l=[s]:=p8.1 h
theorem Gc{l:List Int}(h:l.length=1):∃ s,l=[s]:=p8.1 h
theorem tl(l:List (List Int)):(((l.length:Int)==1)=false∧(l==[[-1]])=false)∨∃ s,l=[s]∧(((s.length:Int)==1)=false∧(l==[[-1]])=false∨∃ n,s=[n]∧(l==[[-1]])=(n==-1)):=by
 by_cases h:l.length=1
 ·right
  obtain⟨s,rfl⟩:=Fi h
  refine⟨s,rfl, ?_⟩
  by_cases h2:s.length=1
  ·right
   obtain⟨n,rfl⟩:=Gc h2
   exact⟨n,rfl,by simp⟩
  ·left
   refine⟨by rw [beq_eq_false_iff_ne];omega, ?_⟩
   rw [beq_eq_false_iff_ne]
   intro e
   simp at e
   rw [e] at h2
   exact h2 rfl
 ·left
  refine⟨by rw [beq_eq_false_iff_ne];omega, ?_⟩
  rw [beq_eq_false_iff_ne]
  intro e
  rw [e] at h
  exact h rfl
theorem I9(l:List (List Int))(R:Rt)(h:R (.ret (.bool (l==[[-1]]))) S):aj prog w0 79 [.sval false (l.map cB)] S R:=by
 have e0:(((1:Nat):Int)==1)=true:=by decide
 rcases tl l with⟨e1,e2⟩|⟨s,rfl,⟨e1,e2⟩|⟨n,rfl,e2⟩⟩
 ·rw [e2] at h
  clear e2
  refine eN func79 rfl ntmps79 fun hO=>?_
  repeat' first|refine st ?_|(refine br ?_ ?_<;>intro hb)|fail
  refine fR results79 ?_
  exact h
 ·rw [e2] at h
  clear e2
  simp only [ap,aq,cB]
  refine eN func79 rfl ntmps79 fun hO=>?_
  repeat' first|refine st ?_|(refine br ?_ ?_<;>intro hb)|fail
  refine fR results79 ?_
  exact h
 ·rw [e2] at h
  clear e2
  simp only [ap,aq,cB,eE]
  refine eN func79 rfl ntmps79 fun hO=>?_
  repeat' first|refine st ?_|(refine br ?_ ?_<;>intro hb)|fail
  refine fR results79 ?_
  exact h
theorem zQ(a b:Nat):decide ((a:Int)<(b:Int))=decide (a<b):=by rw [eB];simp
def nQ(l:List (List Int)):Prop:=l.length≤1000000∧∀ s∈l,s.length≤1000000
theorem ry(l:List (List Int))(hl:nQ l)(R:Rt)(h:R (.ret (.int .i64 (oz l))) S):aj prog w0 36 [.sval false (l.map cB)] S R:=by
 have hc:=fun S'=>I_ w0 S' l hl.1 hl.2
 have he:=fun S'=>I9 w0 S' l
 unfold oz dQ at h
 have e2:decide ((16:Int)<(l.length:Int))=decide (16<l.length):=zQ 16 l.length
 have e3:decide (l.length≤16) = !decide (16<l.length):=by rw [eB];simp
 rw [e3] at h
 cases d1:decide (16<l.length)<;>cases d2:l==[[-1]]<;>cases d3:l.any iw<;>rw [d1,d2,d3] at h<;>rw [d1] at e2<;>rw [d2] at he<;>rw [d3] at hc<;>clear d1 d2 d3 e3 hl
 all_goals
  refine eN func36 rfl ntmps36 fun hO=>?_
  repeat' first|refine st ?_|(refine ca ?_;first|apply hc|apply he)|(refine br ?_ ?_<;>intro hb)|fail
  refine fR results36 ?_
  exact h
def dX(l:List (List Int))(i none:Int):Int :=
 if i<0 then none else match l[i.toNat]? with
  | some (n::_)=>if n<0 then none else n
  | _=>none
theorem kO(l:List (List Int))(i none:Int)(R:Rt)(h:R (.ret (.int .i64 (dX l i none))) S):aj prog w0 142 [.sval false (l.map cB),.int .i64 i,.int .i64 none] S R∧aj prog w0 126 [.sval false (l.map cB),.int .i64 i,.int .i64 none] S R:=by
 unfold dX at h
 by_cases h0:i<0
 ·rw [if_pos h0] at h
  have d0:decide (i<0)=true:=decide_eq_true h0
  clear h0
  constructor
  ·refine eN func142 rfl ntmps142 fun hO=>?_
   repeat' first|refine st ?_|(refine br ?_ ?_<;>intro hb)|fail
   refine fR results142 ?_
   exact h
  ·refine eN func126 rfl ntmps126 fun hO=>?_
   repeat' first|refine st ?_|(refine br ?_ ?_<;>intro hb)|fail
   refine fR results126 ?_
   exact h
 ·rw [if_neg h0] at h
  obtain⟨k,rfl⟩:∃ k:Nat,i=(k:Int):=⟨i.toNat,by omega⟩
  rw [Int.toNat_natCast] at h
  have d0:decide ((k:Int)<0)=false:=decide_eq_false h0
  cases hx:l[k]? with
  | none =>
   rw [hx] at h
   have d1:decide ((l.length:Int)≤(k:Int))=true:=by simp;simpa using hx
   clear h0 hx
   constructor
   ·refine eN func142 rfl ntmps142 fun hO=>?_
    repeat' first|refine st ?_|(refine br ?_ ?_<;>intro hb)|fail
    refine fR results142 ?_
    exact h
   ·refine eN func126 rfl ntmps126 fun hO=>?_
    repeat' first|refine st ?_|(refine br ?_ ?_<;>intro hb)|fail
    refine fR results126 ?_
    exact h
  | some s =>
   rw [hx] at h
   have hk:k<l.length:=(af.1 hx).1
   have d1:decide ((l.length:Int)≤(k:Int))=false:=by simp;omega
   clear h0 hk
   cases s with
   | nil =>
    have e0:(((0:Nat):Int)==0)=true:=by decide
    constructor
    ·refine eN func142 rfl ntmps142 fun hO=>?_
     repeat' first|refine st ?_|(refine br ?_ ?_<;>intro hb)|fail
     refine fR results142 ?_
     exact h
    ·refine eN func126 rfl ntmps126 fun hO=>?_
     repeat' first|refine st ?_|(refine br ?_ ?_<;>intro hb)|fail
     refine fR results126 ?_
     exact h
   | cons n s =>
    have e0:((((n::s).length:Nat):Int)==0)=false:=by rw [beq_eq_false_iff_ne];simp;omega
    simp only [aB] at e0
    simp only at h
    by_cases hn:n<0
    ·rw [if_pos hn] at h
     have d2:decide (n<0)=true:=decide_eq_true hn
     clear hn
     constructor
     ·refine eN func142 rfl ntmps142 fun hO=>?_
      repeat' first|refine st ?_|(refine br ?_ ?_<;>intro hb)|fail
      refine fR results142 ?_
      exact h
     ·refine eN func126 rfl ntmps126 fun hO=>?_
      repeat' first|refine st ?_|(refine br ?_ ?_<;>intro hb)|fail
      refine fR results126 ?_
      exact h
    ·rw [if_neg hn] at h
     have d2:decide (n<0)=false:=decide_eq_false hn
     clear hn
     constructor
     ·refine eN func142 rfl ntmps142 fun hO=>?_
      repeat' first|refine st ?_|(refine br ?_ ?_<;>intro hb)|fail
      refine fR results142 ?_
      exact h
     ·refine eN func126 rfl ntmps126 fun hO=>?_
      repeat' first|refine st ?_|(refine br ?_ ?_<;>intro hb)|fail
      refine fR results126 ?_
      exact h
theorem Fo(c:Int)(R:Rt)(h:R (.ret (.bool (decide (0≤c)&&sG c.toNat))) S):aj prog w0 181 [.int .i64 c] S R:=by
 by_cases c0:0≤c
 ·obtain⟨n,rfl⟩:∃ n:Nat,c=n:=⟨c.toNat,by omega⟩
  rw [decide_eq_true c0,bL,Int.toNat_natCast] at h
  exact CK w0 S n R h
 ·have d0:decide (0≤c)=false:=decide_eq_false c0
  rw [d0,bK] at h
  clear c0
  refine eN func181 rfl ntmps181 fun hO=>?_
  repeat' first|refine st ?_|(refine br ?_ ?_<;>intro hb)|fail
  refine fR results181 ?_
  exact h
theorem ow{l:List (List Int)}(h:dQ l=false):oz l=150:=by unfold oz;rw [h];rfl
theorem yK{s:List Int}(h0:1≤s.length)(h6:s.length≤6):iw s=s.any lP:=by
 unfold iw
 rw [show (s.length==0)=false by rw [beq_eq_false_iff_ne];omega,decide_eq_false (by omega)]
 simp
theorem pF{l:List (List Int)}{k:Nat}{s:List Int}(hx:l[k]? = some s)(h:iw s=true):dQ l=false:=by
 unfold dQ
 rw [pZ hx h];simp
theorem zw(l:List (List Int))(R:Rt)(h:R (.ret (.int .i64 (oz l))) S):aj prog w0 58 [.sval false (l.map cB)] S R:=by
 have e16:decide ((16:Int)<(l.length:Int))=decide (16<l.length):=zQ 16 l.length
 by_cases h16:16<l.length
 ·have hh:R (.ret (.int .i64 150)) S:=by rw [ow (by unfold dQ;rw [decide_eq_false (by omega)];rfl)] at h;exact h
  rw [decide_eq_true h16] at e16
  clear h h16
  refine eN func58 rfl ntmps58 fun hO=>?_
  repeat' first|refine st ?_|(refine br ?_ ?_<;>intro hb)|fail
  refine fR results58 ?_
  exact hh
 rw [decide_eq_false h16] at e16
 refine eN func58 rfl ntmps58 fun hO=>?_
 repeat' first|refine st ?_|(refine br ?_ ?_<;>intro hb)|fail
 refine cW (fun (k:Nat) env S'=>k≤l.length∧(l.take k).any iw=false∧env 1000000=.dfr []∧env 0=.sval false (l.map cB)∧env 3=.int .i64 (k:Int)∧S'=S) (fun k=>l.length - k) 0 ?_ ?_
 ·exact⟨bf _,by simp,ss,ss,ss,rfl⟩
 ·rintro k env S' ⟨hk,hp,e0,f0,f3,rfl⟩ IH
  have HI:=ab IH
  have H:=ab h
  clear IH h e16
  by_cases hlt:k<l.length
  ·obtain⟨s,hx⟩:∃ s,l[k]? = some s:=⟨_,al hlt⟩
   have h1:decide ((k:Int)<(l.length:Int))=true:=by simpa using hlt
   have hw:ae.wrap ((k:Int)+1)=((k+1:Nat):Int):=by rw [ah _ (by omega)];omega
   by_cases h0:s.length<1
   ·have d0:decide ((s.length:Int)<1)=true:=by simp;omega
    have hh:=H.out
    rw [ow (pF hx (by unfold iw;rw [show (s.length==0)=true by simp;exact bQ (by omega)];rfl))] at hh
    clear hk hp hlt h0 HI h16
    repeat' first|refine st ?_|(refine br ?_ ?_<;>intro hb)|fail
    refine fR results58 ?_
    exact hh
   have d0:decide ((s.length:Int)<1)=false:=by simp;omega
   by_cases h6:6<s.length
   ·have d6:decide ((6:Int)<(s.length:Int))=true:=by simp;omega
    have hh:=H.out
    rw [ow (pF hx (by unfold iw;rw [decide_eq_true h6];simp))] at hh
    clear hk hp hlt h0 h6 HI h16
    repeat' first|refine st ?_|(refine br ?_ ?_<;>intro hb)|fail
    refine fR results58 ?_
    exact hh
   have d6:decide ((6:Int)<(s.length:Int))=false:=by simp;omega
   have hbs:=yK (show 1≤s.length by omega) (show s.length≤6 by omega)
   have Hf:=ab (a6 hlt (a6 hp (a6 hbs h6)))
   clear hk hp hlt h0 h6 hbs h16
   repeat' first|refine st ?_|(refine br ?_ ?_<;>intro hb)|fail
   refine cW (fun (j:Nat) env S2=>j≤s.length∧(s.take j).any lP=false∧env 1000000=.dfr []∧env 0=.sval false (l.map cB)∧env 3=.int .i64 (k:Int)∧env 4=.int .i64 (j:Int)∧S2=S') (fun j=>s.length - j) 0 ?_ ?_
   ·exact⟨bf _,by simp,ss,ss,ss,ss,rfl⟩
   ·clear e0 f0 f3
    rintro j env S2 ⟨hj,hq,e0,f0,f3,f4,rfl⟩ IH
    have HJ:=ab IH
    clear IH
    by_cases hjt:j<s.length
    ·obtain⟨n,hn⟩:∃ n,s[j]? = some n:=⟨_,al hjt⟩
     have h2:decide ((j:Int)<(s.length:Int))=true:=by simpa using hjt
     have hw2:ae.wrap ((j:Int)+1)=((j+1:Nat):Int):=by have:=Hf.out.2.2.2;rw [ah _ (by omega)];omega
     cases hb:lP n with
     | true =>
      have hh:=H.out
      rw [ow (pF hx (by rw [Hf.out.2.2.1];exact pZ hn hb))] at hh
      unfold lP at hb
      cases b1:decide (n < -1)<;>rw [b1] at hb
      ·simp only [vH] at hb
       clear hj hq hjt HJ HI
       repeat' first|refine st ?_|(refine br ?_ ?_<;>intro hb)|fail
       refine fR results58 ?_
       exact hh
      ·clear hj hq hjt HJ hb HI
       repeat' first|refine st ?_|(refine br ?_ ?_<;>intro hb)|fail
       refine fR results58 ?_
       exact hh
     | false =>
      have Hg:=ab (a6 hjt (l8 hn hq hb))
      unfold lP at hb
      rw [ct] at hb
      obtain⟨b1,b2⟩:=hb
      clear hj hq hjt HI
      repeat' first|refine st ?_|(refine br ?_ ?_<;>intro hb)|fail
      refine HJ.out (j+1) _ _ (by have:=Hg.out.1;omega) ⟨Hg.out.1,Hg.out.2, ?_, ?_, ?_, ?_,rfl⟩
      all_goals (simp only [go_sem, *];try rfl)
    ·have h2:decide ((j:Int)<(s.length:Int))=false:=by simpa using hjt
     have hj':j=s.length:=by omega
     rw [hj',bt] at hq
     have Hg:=ab (l8 hx Hf.out.2.1 (Hf.out.2.2.1.trans hq))
     clear hj hq hjt hj' HJ
     repeat' first|refine st ?_|(refine br ?_ ?_<;>intro hb)|fail
     refine HI.out (k+1) _ _ (by have:=Hf.out.1;omega) ⟨Hf.out.1,Hg.out, ?_, ?_, ?_,rfl⟩
     all_goals (simp only [go_sem, *];try rfl)
  ·have h1:decide ((k:Int)<(l.length:Int))=false:=by simpa using hlt
   have hk':k=l.length:=by omega
   rw [hk',bt] at hp
   have hh:=H.out
   have hpe:oz l=if (l==[[-1]])=true then 150 else 0:=by
    unfold oz dQ
    rw [hp,decide_eq_true (show l.length≤16 by omega)]
    cases l==[[-1]]<;>rfl
   rw [hpe] at hh
   clear hlt hk hk' HI hp hpe h16
   repeat' ((fail_if_success (apply dp 60 rfl));first|refine st ?_|(refine br ?_ ?_<;>intro hb)|fail)
   clear h1
   have e1:(((1:Nat):Int)==1)=true:=by decide
   rcases tl l with⟨c1,c2⟩|⟨s,rfl,⟨c1,c2⟩|⟨n,rfl,c2⟩⟩
   ·rw [c2] at hh
    clear c2 e1
    repeat' first|refine st ?_|(refine br ?_ ?_<;>intro hb)|fail
    refine fR results58 ?_
    exact hh
   ·rw [c2] at hh
    clear c2
    simp only [ap,aq] at f0
    repeat' first|refine st ?_|(refine br ?_ ?_<;>intro hb)|fail
    refine fR results58 ?_
    exact hh
   ·rw [c2] at hh
    clear c2
    simp only [ap,aq] at f0
    cases hn:n==-1<;>rw [hn] at hh
    all_goals
     repeat' first|refine st ?_|(refine br ?_ ?_<;>intro hb)|fail
     refine fR results58 ?_
     exact hh
def MI(w0:World):Prop:=∀ (S:List aH) (b1 b2:UInt8) (R:Rt),(∀ v,iu b1 b2=some v→R (.ret (.tup [.int .u64 v,.inil])) S)→(iu b1 b2=none→∀ t x,R (.ret (.tup [.int .u64 0,.ifc t x])) S) →
 aj prog w0 250 [.str [b1,b2],.int .i64 16,.int .i64 8] S R
theorem Mp(c:UInt8):aX.wrap (↑(ar aX.bits (c.toNat:Int) ||| ar aX.bits 32).toNat)=(((c ||| 32).toNat:Nat):Int):=by
 have:∀ n:Nat,n<256→aX.wrap (↑(ar aX.bits (n:Int) ||| ar aX.bits 32).toNat)=(((ay n ||| 32).toNat:Nat):Int):=by decide +kernel
 have h:=this c.toNat c.toNat_lt
 rwa [cj] at h
theorem KY(c:UInt8)(R:Rt)(h:R (.ret (.int .u8 ((c ||| 32).toNat:Nat))) S):aj prog w0 319 [.int .u8 c.toNat] S R:=by
 have g:=Mp c
 simp only [bh] at g
 refine eN func319 rfl ntmps319 fun hO=>?_
 repeat' first|refine st ?_|(refine br ?_ ?_<;>intro hb)|fail
 refine fR results319 ?_
 exact h
def gF(b:UInt8):Nat:=(b ||| 32).toNat
def dv(b:UInt8):Option Nat:=if 48≤b.toNat∧b.toNat≤57 then some (b.toNat - 48) else if 97≤gF b∧gF b≤122 then some (gF b - 87) else none
theorem JN(b:UInt8):dW b=(dv b).bind fun d=>if d<16 then some d else none:=by
 have:∀ n:Nat,n<256→dW (ay n)=(dv (ay n)).bind fun d=>if d<16 then some d else none:=by decide +kernel
 have h:=this b.toNat b.toNat_lt
 rwa [cj] at h
theorem Dj(c:UInt8)(R:Rt)(h:R (.ret (.int .u8 (gF c:Nat))) S):aj prog w0 319 [.int .u8 c.toNat] S R:=KY w0 S c R h
def qu:AV:=.ifc 299 (.int .i64 2)
def OE(b1 b2:UInt8)(i acc:Nat):Prop:=(i=0∧acc=0)∨(i=1∧dW b1=some acc)∨(i=2∧iu b1 b2=some acc)
theorem Fu{b1 b2:UInt8}{i acc:Nat}(hp:(i=0∧acc=0)∨(i=1∧dW b1=some acc)):∃ b:UInt8,[AV.int .u8 b1.toNat,AV.int .u8 b2.toNat][i]? = some (.int .u8 b.toNat)∧i<2∧acc<16∧(dW b=none→iu b1 b2=none)∧(∀ d,dW b=some d→OE b1 b2 (i+1) (acc * 16+d)):=by
 rcases hp with⟨rfl,rfl⟩|⟨rfl,ha⟩
 ·exact⟨b1,rfl,by omega,by omega,fun h=>by simp [iu,h],fun d h=>.inr (.inl ⟨rfl,by simpa using h⟩)⟩
 ·refine⟨b2,rfl,by omega,oK ha,fun h=>by simp [iu,ha,h],fun d h=>.inr (.inr ⟨rfl, ?_⟩)⟩
  simp [iu,ha,h];try omega
theorem KG(b1 b2:UInt8)(R:Rt)(h:R (.ret (match iu b1 b2 with|some v=>.tup [.int .u64 v,.inil]|none=>.tup [.int .u64 0,qu])) S) :
  aj prog w0 293 [.str [b1,b2],.int .i64 16,.int .i64 8] S R:=by
 refine eN func293 rfl ntmps293 fun hO=>?_
 repeat' first|refine st ?_|(refine br ?_ ?_<;>intro hb)|fail
 apply n9
 ·(simp only [go_sem, *];try rfl)
 ·rfl
 ·(simp only [go_sem, *];try rfl)
 ·(simp only [go_sem, *];try rfl)
 ·(simp only [go_sem, *];try rfl)
 ·(simp only [go_sem, *];try rfl)
 ·rfl
 simp only [putA,ap,aq,iR]
 repeat' first|refine st ?_|(refine br ?_ ?_<;>intro hb)|fail
 have hffw:aR.wrap (aR.wrap (1 * 2 ^ min (aR.wrap 8).toNat 64) - 1)=255:=by decide +kernel
 refine cW (fun (p:Nat × Nat) env S'=>OE b1 b2 p.1 p.2∧env 1000000=.dfr []∧env 1=.int .i64 16∧env 8=.bool false∧env 9=.str [b1,b2]∧env 10=.int .u64 1152921504606846976∧env 11=.int .u64 255∧env 12=.bool false∧env 13=.int .u64 p.2 ∧
  env 99=.sval false [.int .u8 b1.toNat,.int .u8 b2.toNat]∧env 100=.int .i64 2∧env 101=.int .i64 p.1∧S'=S) (fun p=>2 - p.1) (0,0) ?_ ?_
 ·exact⟨.inl ⟨rfl,rfl⟩,ss,ss,ss,ss,ss,ss,ss,ss,ss,ss,ss,rfl⟩
 ·rintro⟨i,acc⟩ env S' ⟨hp,e0,f1,f8,f9,f10,f11,f12,f13,f99,f100,f101,rfl⟩ IH
  have HI:=ab IH
  have hw16:aX.wrap 16=16:=by decide
  have hw16':aR.wrap 16=16:=by decide
  have hlw:=Dj w0
  clear IH hffw
  simp only at f13 f101
  rcases or_assoc.2 hp with hp|⟨rfl,ha⟩
  ·have hps:=Fu (b2:=b2) hp
   clear hp
   obtain⟨b,hb,hlt,hacc,hnone,hsome⟩:=hps
   have h1:decide ((i:Int)<2)=true:=by simp;omega
   have hwi:ae.wrap ((i:Int)+1)=((i+1:Nat):Int):=by rw [ah _ (by omega)];rfl
   have Hlt:=ab hlt
   have d5:decide ((1152921504606846976:Int)≤(acc:Int))=false:=by simp;omega
   have w5:aR.wrap ((acc:Int) * 16)=((acc * 16:Nat):Int):=by rw [im _ (by omega)];omega
   have key:∀ d:Nat,d<16→aR.wrap (d:Int)=(d:Int)∧aR.wrap (((acc * 16:Nat):Int)+(d:Int))=((acc * 16+d:Nat):Int)∧decide (((acc * 16+d:Nat):Int)<((acc * 16:Nat):Int))=false∧decide ((255:Int)<((acc * 16+d:Nat):Int))=false:=by
    intro d hd
    refine⟨im _ (by omega),by rw [im _ (by omega)];omega,by simp;omega,by simp;omega⟩
   clear hlt hacc
   have Hnone:=ab hnone
   have Hsome:=ab hsome
   clear hnone hsome
   have Key:=ab key
   clear key
   have hdv:=JN b
   by_cases c1:48≤b.toNat∧b.toNat≤57
   ·have d1:decide ((48:Int)≤(b.toNat:Int))=true:=by simp;omega
    have d2:decide ((b.toNat:Int)≤57)=true:=by simp;omega
    have d3:((b.toNat:Int)==95)=false:=by simp;omega
    have w1:aX.wrap ((b.toNat:Int) - 48)=((b.toNat - 48:Nat):Int):=by rw [di _ (by omega)];omega
    have hd:dW b=some (b.toNat - 48):=by rw [hdv];simp [dv,c1];omega
    have hd16:b.toNat - 48<16:=by omega
    have d4:decide ((16:Int)≤((b.toNat - 48:Nat):Int))=false:=by simp;omega
    clear hdv c1
    generalize hdd:b.toNat - 48=d at *
    obtain⟨k1,k2,k3,k4⟩:=Key.out d hd16
    have Hd:=ab hd
    clear hdd hd hd16
    repeat' first|refine st ?_|(refine ca ?_;apply hlw)|(refine br ?_ ?_<;>intro hb)|fail
    refine HI.out (i+1,acc * 16+d) _ _ (by have:=Hlt.out;simp only;omega) ⟨Hsome.out d Hd.out, ?_, ?_, ?_, ?_, ?_, ?_, ?_, ?_, ?_, ?_, ?_,rfl⟩
    all_goals (simp only [go_sem, *];try rfl)
   ·have hnd:(decide ((48:Int)≤(b.toNat:Int))&&decide ((b.toNat:Int)≤57))=false:=by
     rw [gp];simp;omega
    by_cases c2:97≤gF b∧gF b≤122
    ·have e1:decide ((97:Int)≤(gF b:Int))=true:=by simp;omega
     have e2:decide ((gF b:Int)≤122)=true:=by simp;omega
     have w1:aX.wrap ((gF b:Int) - 97)=((gF b - 97:Nat):Int):=by rw [di _ (by omega)];omega
     have w2:aX.wrap (((gF b - 97:Nat):Int)+10)=((gF b - 87:Nat):Int):=by rw [di _ (by omega)];omega
     have hd:dW b=if gF b - 87<16 then some (gF b - 87) else none:=by rw [hdv];simp only [dv,c1,c2,and_self,if_false,if_true,HQ]
     clear hdv c1 c2
     generalize gF b - 87=d at *
     generalize gF b - 97=e at *
     by_cases hd16:d<16
     ·rw [if_pos hd16] at hd
      have d4:decide ((16:Int)≤(d:Int))=false:=by simp;omega
      obtain⟨k1,k2,k3,k4⟩:=Key.out d hd16
      have Hd:=ab hd
      clear hd hd16
      cases q1:decide ((48:Int)≤(b.toNat:Int))<;>cases q2:decide ((b.toNat:Int)≤57)<;>cases q3:((b.toNat:Int)==95)<;>simp only [q1,q2] at hnd<;>try (exfalso;cases hnd;done)
      all_goals clear hnd
      all_goals
       repeat' first|refine st ?_|(refine ca ?_;apply hlw)|(refine br ?_ ?_<;>intro hb)|fail
       refine HI.out (i+1,acc * 16+d) _ _ (by have:=Hlt.out;simp only;omega) ⟨Hsome.out d Hd.out, ?_, ?_, ?_, ?_, ?_, ?_, ?_, ?_, ?_, ?_, ?_,rfl⟩
       all_goals (simp only [go_sem, *];try rfl)
     ·rw [if_neg hd16] at hd
      have d4:decide ((16:Int)≤(d:Int))=true:=by simp;omega
      rw [Hnone.out hd] at h
      clear hd hd16
      cases q1:decide ((48:Int)≤(b.toNat:Int))<;>cases q2:decide ((b.toNat:Int)≤57)<;>cases q3:((b.toNat:Int)==95)<;>simp only [q1,q2] at hnd<;>try (exfalso;cases hnd;done)
      all_goals clear hnd
      all_goals
       repeat' first|refine st ?_|(refine ca ?_;apply hlw)|(refine br ?_ ?_<;>intro hb)|fail
       refine fR results293 ?_
       exact h
    ·have hd:dW b=none:=by
      rw [hdv];unfold dv;rw [if_neg c1,if_neg c2];rfl
     rw [Hnone.out hd] at h
     have hle:(decide ((97:Int)≤(gF b:Int))&&decide ((gF b:Int)≤122))=false:=by
      rw [gp];simp;omega
     clear hd hdv c1 c2
     cases q1:decide ((48:Int)≤(b.toNat:Int))<;>cases q2:decide ((b.toNat:Int)≤57)<;>cases q3:((b.toNat:Int)==95)<;>simp only [q1,q2] at hnd<;>try (exfalso;cases hnd;done)
     all_goals clear hnd
     all_goals
      cases q4:decide ((97:Int)≤(gF b:Int))<;>cases q5:decide ((gF b:Int)≤122)<;>simp only [q4,q5] at hle<;>try (exfalso;cases hle;done)
     all_goals clear hle
     all_goals
      repeat' first|refine st ?_|(refine ca ?_;apply hlw)|(refine br ?_ ?_<;>intro hb)|fail
      refine fR results293 ?_
      exact h
  ·simp only at ha
   rw [ha] at h
   clear ha
   repeat' first|refine st ?_|(refine br ?_ ?_<;>intro hb)|fail
   refine fR results293 ?_
   exact h
def D_(w0:World):Prop:=∃ ev,w0.cell? ⟨6,0,none⟩=some ev∧(ev=.nilIface∨∃ te pe,ev=.iface te pe)
theorem Kj(w0:World)(hS:D_ w0)(S:List aH)(s:List UInt8)(hs:s.length≤1000)(R:Rt)(h:∀ v:Value,R (.ret (.ifc 302 (.val v))) S) :
  aj prog w0 247 [.str [80,97,114,115,101,85,105,110,116],.str s,.int .i64 16,.int .i64 8,qu] S R:=by
 refine aj.libR (vs:=[.string ⟨#[80,97,114,115,101,85,105,110,116]⟩,.string ⟨s.toArray⟩,.int .i64 16,.int .i64 8,.iface 299 (.int .i64 2)]) (Go.Proofs.enters_of func247 (by kernel_rfl) rfl) rfl ?_
 intro w hb
 obtain⟨ev,hv,hev⟩:=hS
 refine(Go.Proofs.Any.strconv_toError_syntax Go.Proofs.Tryz.laysC245 ⟨#[80,97,114,115,101,85,105,110,116]⟩ ⟨s.toArray⟩ 16 8 ev w ?_ ?_ hev).mono ?_
 ·show s.toArray.size≤_
  simp;omega
 ·exact(hb.cell (jb _ _ hv)).trans hv
 ·rintro e w' ⟨N,rfl,hN,hc,hbw⟩
  exact⟨_,rfl,hbw,.ifc 302 (.val (.pointer (some ⟨N,0,none⟩))),fun ι ψ=>.ifc _ _ _ (.val _ rfl),h _⟩
theorem tu(w0:World)(hS:D_ w0):MI w0:=by
 intro S b1 b2 R h1 h2
 have hte:=fun S'=>Kj w0 hS S' [b1,b2] (by simp)
 cases hh:iu b1 b2 with
 | some v =>
  have hpu:=fun S' (R:Rt) (h:R (.ret (.tup [.int .u64 v,.inil])) S')=>KG w0 S' b1 b2 R (by rw [hh];exact h)
  have h:=h1 v hh
  clear hte h1 h2 hh
  refine eN func250 rfl ntmps250 fun hO=>?_
  repeat' first|refine st ?_|(refine ca ?_;apply hpu)|(refine br ?_ ?_<;>intro hb)|fail
  refine fR results250 ?_
  exact h
 | none =>
  have hpu:=fun S' (R:Rt) (h:R (.ret (.tup [.int .u64 0,qu])) S')=>KG w0 S' b1 b2 R (by rw [hh];exact h)
  have h:=h2 hh
  clear h1 h2 hh
  unfold qu at hpu hte
  refine eN func250 rfl ntmps250 fun hO=>?_
  repeat' first|refine st ?_|(refine ca ?_;first|apply hpu|apply hte)|(refine br ?_ ?_<;>intro hb)|fail
  intro v
  repeat' first|refine st ?_|(refine br ?_ ?_<;>intro hb)|fail
  refine fR results250 ?_
  exact h _ _
end Go.Proofs.YthdbijpefkapnaaGreatDoor
