/- A part of the proof. -/
import Derived.Test.YthdbijpefkapnaaGreatDoorOfWalk5
import Derived.Shelf.Strings.Search1
import Derived.Shelf.Strconv.ToError
set_option linter.all false
set_option maxHeartbeats 40000000
open And renaming intro → a7
open BitVec renaming ofInt → ar
open Bool renaming and_eq_false_iff → gF, and_false → cr, and_true → cG, eq_iff_iff → eU, false_and → bO, false_eq_true → aZ, false_or → wG, not_eq_false' → aE, not_eq_true' → ay, or_eq_false_iff → cF, true_and → bP
open Go.IntKind renaming bits → bk, i64 → ae, u64 → aW, u8 → a6
open Go.IntWalk renaming i64_in → ai, u64_in → iQ, u8_in → cR
open Go.Lib renaming hid → ab, indexByte → dd
open Go.RowKit.Below renaming refl → pR
open Go.World renaming block_lt_of_cell? → jy
open List renaming all_eq_true → aD, eq_nil_of_length_eq_zero → bW, getElem?_eq_getElem → ap, getElem?_eq_some_iff → af, getElem?_of_mem → aV, length_cons → aB, length_eq_one_iff → qJ, length_pos_iff → pV, map_cons → al, map_nil → aj, mem_of_getElem? → ax, take → rg, take_length → bC, toList_toArray → bj
open Nat renaming zero_le → bf
open Option renaming bind_some → Jl
open UInt8 renaming ofNat → az, ofNat_toNat → cw
namespace Go.Proofs.YthdbijpefkapnaaGreatDoor
open Go Go.Fen Go.Proofs.Tryz
attribute [local irreducible] aX WP ao dS i7 cJ aU cC
set_option maxRecDepth 8000
variable (w0:World) (S:List aH)
theorem D8(s:List UInt8)(hs:s.length≤10000000)(R:Rt)(h:R (if gG s then .ret (.tup []) else .panic bE) S):ao prog w0 113 [.str s] S R:=by
 have hco:=fun S'=>JG w0 S' s ω
 have hcl:=qy s
 have hte:=fun S'=>LL w0 S' (dY s) (fun c hc=>by have:=hcl.1 c hc;omega) ω
 have hll:(dY s).length≤100000000:=ω
 unfold gG ut at h
 generalize dY s=l at h hco hte hll
 have hmT:=lM w0
 have hmF:=lN w0
 unfold bE at hmF h
 have bad:(decide (s.length≤510)&&(l.all oc&&decide (fA l=s)))=false→R (.panic (.ifc 170 (.agg []))) S:=fun e=>by rw [e] at h;exact h
 have good:(decide (s.length≤510)&&(l.all oc&&decide (fA l=s)))=true→R (.ret (.tup [])) S:=fun e=>by rw [e] at h;exact h
 clear h hcl
 by_cases h40:s.length≤510
 case neg =>
  have d0:decide ((s.length:Int)≤510)=false:=κ
  have hh:=bad (by rw [decide_eq_false h40,bO])
  clear h40 hs hte bad good hmT hll
  refine eN func113 rfl ntmps113 fun hO=>?_
  refine ε2 hco hmF ?_
  refine fP ?_
  exact hh
 have d0:decide ((s.length:Int)≤510)=true:=κ
 rw [decide_eq_true h40,bP] at bad good
 by_cases htx:fA l=s
 case neg =>
  have d1:(fA l==s)=false:=by rw [beq_eq_false_iff_ne];exact htx
  have hh:=bad (by rw [decide_eq_false htx,cr])
  clear h40 hs bad good hmT hll htx
  refine eN func113 rfl ntmps113 fun hO=>?_
  refine ε3 hco hte hmF ?_
  refine fP ?_
  exact hh
 have d1:(fA l==s)=true:=by rw [beq_iff_eq];exact htx
 rw [decide_eq_true htx,cG] at bad good
 have Bad:=ab bad
 have Good:=ab good
 have HmF:=ab hmF
 clear h40 hs htx bad good hmF
 refine eN func113 rfl ntmps113 fun hO=>?_
 refine ε3 hco hte hmT ?_
 refine cD (fun (k:Nat) env S'=>k≤l.length∧(∀ j c,j<k→l[j]? = some c→oc c=true)∧env 1000000=.dfr []∧env 17=.sval false (l.map Co)∧env 18=.int .i64 l.length∧env 19=.int .i64 (k:Int)∧S'=S) (fun k=>l.length - k) 0 ?_ ?_
 ·exact⟨bf _,fun j c hj=>absurd hj ω,ss,ss,ss,ss,rfl⟩
 ·rintro k env S' ⟨hk,hall,e0,e17,e18,e19,rfl⟩ IH
  have HI:=ab IH
  have Hall:=ab hall
  clear IH hall hco hte
  by_cases hlt:k<l.length
  ·obtain⟨c,hx⟩:∃ c,l[k]? = some c:=⟨_,ap hlt⟩
   have h1:decide ((k:Int)<(l.length:Int))=true:=by simpa using hlt
   have hw:ae.wrap ((k:Int)+1)=(k:Int)+1:=ai _ ω
   have bad:oc c=false→R (.panic (.ifc 170 (.agg []))) S':=fun hc=>Bad.out (by
    rw [List.all_eq_false]
    exact⟨c,ax hx,by simp [hc]⟩)
   have good:oc c=true→∀ j d,j<k+1→l[j]? = some d→oc d=true:=fun hc j d hj hd=>by
    by_cases e:j=k
    ·rw [e,hx] at hd;cases hd;exact hc
    ·exact Hall.out j d ω hd
   have Bad2:=ab bad
   have Good2:=ab good
   have Hlt:=ab hlt
   clear bad good hlt hk hll
   by_cases q1:c<32
   ·have d2:decide ((32:Int)≤(c:Int))=false:=κ
    have hc:oc c=false:=by unfold oc;rw [decide_eq_false ω];rfl
    have hb:=Bad2.out hc
    have hmF:=HmF.out
    clear q1 hc hmT
    repeat' first|apply fX|apply eA|apply dC|apply eB|apply fY|apply b8|apply gh|apply b_|apply bN|apply cM|apply b9|apply bM|apply bv|apply gg|(apply bw;(· rfl))|(apply cK;simp only [bj])|(apply dx;(· rfl);(· simp only [go_sem, *,Co];try rfl);(· rfl);simp only [putA])|(apply eE;simp only [putA])|apply cN|(apply df [];(· simp only [go_sem, *,Co];try rfl);(· rfl);(· simp only [go_sem, *,Co];try rfl);(· rfl);(iterate 2 (· simp only [go_sem, *,Co];try rfl));(first|apply hmF);simp only [aU,putA])|(apply dy;(· simp only [go_sem, *,Co];try rfl);(· rfl);(· simp only [go_sem, *,Co];try rfl))|(apply dM;(iterate 2 (· simp only [go_sem, *,Co];try rfl));(· rfl);simp only [putA])|(apply bL;(· simp only [go_sem, *,Co];try rfl);(· rfl);simp only [putA])|(apply dz;(· simp only [go_sem, *,Co];try rfl))|(apply dB;(· simp only [go_sem, *,Co];try rfl))|(apply cL;(· rfl);(fail_if_success (focus (show _=some true;(· simp only [go_sem, *,Co];try rfl))));(· simp only [go_sem, *,Co];try rfl);all_goals (intro hb;try simp only [ay,aE] at hb))|(apply dA;(· simp only [go_sem, *,Co];try rfl);all_goals (intro hb;try simp only [ay,aE] at hb))|fail
    refine fP ?_
    exact hb
   have d2:decide ((32:Int)≤(c:Int))=true:=κ
   by_cases q2:127≤c
   ·have d3:decide ((c:Int)<127)=false:=κ
    by_cases q3:c≤159
    ·have d4:decide ((159:Int)<(c:Int))=false:=κ
     have hc:oc c=false:=by unfold oc;rw [decide_eq_true q2,decide_eq_true q3];simp
     have hb:=Bad2.out hc
     have hmF:=HmF.out
     clear q1 q2 q3 hc hmT
     repeat' first|apply fX|apply eA|apply dC|apply eB|apply fY|apply b8|apply gh|apply b_|apply bN|apply cM|apply b9|apply bM|apply bv|apply gg|(apply bw;(· rfl))|(apply cK;simp only [bj])|(apply dx;(· rfl);(· simp only [go_sem, *,Co];try rfl);(· rfl);simp only [putA])|(apply eE;simp only [putA])|apply cN|(apply df [];(· simp only [go_sem, *,Co];try rfl);(· rfl);(· simp only [go_sem, *,Co];try rfl);(· rfl);(iterate 2 (· simp only [go_sem, *,Co];try rfl));(first|apply hmF);simp only [aU,putA])|(apply dy;(· simp only [go_sem, *,Co];try rfl);(· rfl);(· simp only [go_sem, *,Co];try rfl))|(apply dM;(iterate 2 (· simp only [go_sem, *,Co];try rfl));(· rfl);simp only [putA])|(apply bL;(· simp only [go_sem, *,Co];try rfl);(· rfl);simp only [putA])|(apply dz;(· simp only [go_sem, *,Co];try rfl))|(apply dB;(· simp only [go_sem, *,Co];try rfl))|(apply cL;(· rfl);(fail_if_success (focus (show _=some true;(· simp only [go_sem, *,Co];try rfl))));(· simp only [go_sem, *,Co];try rfl);all_goals (intro hb;try simp only [ay,aE] at hb))|(apply dA;(· simp only [go_sem, *,Co];try rfl);all_goals (intro hb;try simp only [ay,aE] at hb))|fail
     refine fP ?_
     exact hb
    ·have d4:decide ((159:Int)<(c:Int))=true:=κ
     have hc:oc c=true:=by unfold oc;rw [decide_eq_false q3,decide_eq_true ω];simp
     clear q1 q2 q3
     repeat' first|apply fX|apply eA|apply dC|apply eB|apply fY|apply b8|apply gh|apply b_|apply bN|apply cM|apply b9|apply bM|apply bv|apply gg|(apply bw;(· rfl))|(apply cK;simp only [bj])|(apply dx;(· rfl);(· simp only [go_sem, *,Co];try rfl);(· rfl);simp only [putA])|(apply eE;simp only [putA])|apply cN|(apply df [];(· simp only [go_sem, *,Co];try rfl);(· rfl);(· simp only [go_sem, *,Co];try rfl);(· rfl);(iterate 2 (· simp only [go_sem, *,Co];try rfl));(first|apply hmT);simp only [aU,putA])|(apply dy;(· simp only [go_sem, *,Co];try rfl);(· rfl);(· simp only [go_sem, *,Co];try rfl))|(apply dM;(iterate 2 (· simp only [go_sem, *,Co];try rfl));(· rfl);simp only [putA])|(apply bL;(· simp only [go_sem, *,Co];try rfl);(· rfl);simp only [putA])|(apply dz;(· simp only [go_sem, *,Co];try rfl))|(apply dB;(· simp only [go_sem, *,Co];try rfl))|(apply cL;(· rfl);(fail_if_success (focus (show _=some true;(· simp only [go_sem, *,Co];try rfl))));(· simp only [go_sem, *,Co];try rfl);all_goals (intro hb;try simp only [ay,aE] at hb))|(apply dA;(· simp only [go_sem, *,Co];try rfl);all_goals (intro hb;try simp only [ay,aE] at hb))|fail
     refine HI.out (k+1) _ _ (by have:=Hlt.out;omega) ⟨Hlt.out,Good2.out hc, ?_, ?_, ?_, ?_,rfl⟩
     all_goals (simp only [go_sem, *];try rfl)
   ·have d3:decide ((c:Int)<127)=true:=κ
    have hc:oc c=true:=by unfold oc;rw [decide_eq_false q2,decide_eq_true ω];rfl
    clear q1 q2
    repeat' first|apply fX|apply eA|apply dC|apply eB|apply fY|apply b8|apply gh|apply b_|apply bN|apply cM|apply b9|apply bM|apply bv|apply gg|(apply bw;(· rfl))|(apply cK;simp only [bj])|(apply dx;(· rfl);(· simp only [go_sem, *,Co];try rfl);(· rfl);simp only [putA])|(apply eE;simp only [putA])|apply cN|(apply df [];(· simp only [go_sem, *,Co];try rfl);(· rfl);(· simp only [go_sem, *,Co];try rfl);(· rfl);(iterate 2 (· simp only [go_sem, *,Co];try rfl));(first|apply hmT);simp only [aU,putA])|(apply dy;(· simp only [go_sem, *,Co];try rfl);(· rfl);(· simp only [go_sem, *,Co];try rfl))|(apply dM;(iterate 2 (· simp only [go_sem, *,Co];try rfl));(· rfl);simp only [putA])|(apply bL;(· simp only [go_sem, *,Co];try rfl);(· rfl);simp only [putA])|(apply dz;(· simp only [go_sem, *,Co];try rfl))|(apply dB;(· simp only [go_sem, *,Co];try rfl))|(apply cL;(· rfl);(fail_if_success (focus (show _=some true;(· simp only [go_sem, *,Co];try rfl))));(· simp only [go_sem, *,Co];try rfl);all_goals (intro hb;try simp only [ay,aE] at hb))|(apply dA;(· simp only [go_sem, *,Co];try rfl);all_goals (intro hb;try simp only [ay,aE] at hb))|fail
    refine HI.out (k+1) _ _ (by have:=Hlt.out;omega) ⟨Hlt.out,Good2.out hc, ?_, ?_, ?_, ?_,rfl⟩
    all_goals (simp only [go_sem, *];try rfl)
  ·have h1:decide ((k:Int)<(l.length:Int))=false:=by simpa using hlt
   have hh:=Good.out (by
    rw [aD]
    intro c hc
    obtain⟨j,hj⟩:=aV hc
    exact Hall.out j c (by have:=(af.1 hj).1;omega) hj)
   clear hlt hk Hall HI hll
   refine ε0 ?_
   refine fE results113 ?_
   exact hh
theorem G_(R:Rt)(h:R (.ret (.agg [.int .i64 0,.int .i64 255,.int .i64 16777215])) S):ao prog w0 109 [] S R:=by
 exact γR0 func109 ntmps109 results109 h
def xH(k:Int):Int:=if k=0 then 0 else if k=1 then 255 else 16777215
def jE(k n:Int):Bool:=(decide (0≤k)&&decide (k≤2))&&(decide (0≤n)&&decide (n≤xH k))
theorem ir(k n:Int)(R:Rt)(h:R (.ret (.int .i64 (if jE k n then 0 else 130))) S):ao prog w0 48 [.agg [.int .i64 k,.int .i64 n]] S R:=by
 have hl:=G_ w0
 have H:=ab h
 clear h
 have hk3:k=0∨k=1∨k=2∨k<0∨(0≤k∧3≤k):=ω
 rcases hk3 with rfl|rfl|rfl|hk|⟨hk,hk3⟩
 case inr.inr.inr.inl =>
  have d1:decide (k<0)=true:=decide_eq_true hk
  have hh:=H.out
  rw [if_neg (by unfold jE;simp;omega)] at hh
  clear hk H
  refine eN func48 rfl ntmps48 fun hO=>?_
  repeat' first|refine st ?_|(refine ca ?_;apply hl)|(refine br ?_ ?_<;>intro hb)|refine sd ?_|apply aw|(apply aF;(· decide +kernel))|refine bd ?_ ?_|(refine cd ?_;apply hl)|fail
  refine fR results48 ?_
  exact hh
 case inr.inr.inr.inr =>
  have d1:decide (k<0)=false:=decide_eq_false ω
  have d2:decide (3≤k)=true:=decide_eq_true hk3
  have hh:=H.out
  rw [if_neg (by unfold jE;simp;omega)] at hh
  clear hk hk3 H
  refine eN func48 rfl ntmps48 fun hO=>?_
  repeat' first|refine st ?_|(refine ca ?_;apply hl)|(refine br ?_ ?_<;>intro hb)|refine sd ?_|apply aw|(apply aF;(· decide +kernel))|refine bd ?_ ?_|(refine cd ?_;apply hl)|fail
  refine fR results48 ?_
  exact hh
 all_goals
  rcases(show n<0∨0≤n by omega) with hn|hn
  all_goals
   first
   | have d1:decide (n<0)=true:=decide_eq_true hn
   | have d1:decide (n<0)=false:=decide_eq_false ω
   have Hn:=ab hn
   clear hn
   refine eN func48 rfl ntmps48 fun hO=>?_
   repeat' first|refine st ?_|(refine ca ?_;apply hl)|(refine br ?_ ?_<;>intro hb)|refine sd ?_|apply aw|(apply aF;(· decide +kernel))|refine bd ?_ ?_|(refine cd ?_;apply hl)|fail
   all_goals refine fR results48 ?_
   all_goals
    refine cast (congrArg (fun v=>R (.ret (.int .i64 v)) S) ?_) H.out
    have hn:=Hn.out
    simp only [decide_eq_true_eq,decide_eq_false_iff_not] at *
    first
    | (rw [if_pos (by simp [jE,xH];omega)])
    | (rw [if_neg (by simp [jE,xH];omega)])
theorem Jd(n:Nat)(hn:n≤100000)(R:Rt)(h:R (.ret (.int .i64 (((n+2) / 3 * 4:Nat):Int))) S):ao prog w0 194 [.int .i64 n] S R:=by
 have m1:(if (1099511627776:Int)<(n:Int) then (1099511627776:Int) else (n:Int))=(n:Int):=by rw [if_neg ω]
 have m2:(if (n:Int)>0 then (n:Int) else 0)=(n:Int):=by split<;>omega
 have k1:ae.wrap ((n:Int)+2)=((n+2:Nat):Int):=by rw [ai _ ω];omega
 have k2:ae.wrap (((n+2:Nat):Int).tdiv 3)=(((n+2) / 3:Nat):Int):=Bm (n+2) 3 ω
 have k3:ae.wrap ((((n+2) / 3:Nat):Int) * 4)=(((n+2) / 3 * 4:Nat):Int):=by rw [ai _ ω];omega
 clear hn
 exact γR0 func194 ntmps194 results194 h
theorem Mu(n:Int)(hn:jE 2 n=true)(R:Rt)(h:R (.ret (.tup [.int .i64 n,.bool true])) S):ao prog w0 188 [.agg [.int .i64 2,.int .i64 n]] S R:=by
 have hc:=fun S'=>ir w0 S' 2 n
 rw [hn,if_pos rfl] at hc
 clear hn
 exact γR1 hc func188 ntmps188 results188 h
theorem MB(s:List UInt8):dd s 59=if s.dropWhile (fun b=>b != 59)=[] then -1 else ((s.takeWhile (fun b=>b != 59)).length:Int):=by
 induction s with
 | nil=>rfl
 | cons b l ih =>
  rw [dd,List.dropWhile_cons,List.takeWhile_cons]
  by_cases hb:b=59
  ·subst hb;simp
  ·have h1:(b==59)=false:=by simpa using hb
   have h2:(b != 59)=true:=by simpa using hb
   rw [h1,h2]
   simp only [aZ,if_false,if_true]
   rw [ih]
   split
   ·simp
   ·rw [if_neg χ]
    simp
theorem NT(s:List UInt8)(R:Rt)(h:R (.ret (.int .i64 (dd s 59))) S):ao prog w0 307 [.str s,.int .u8 59] S R:=by
 refine ao.lib (vs:=[.string ⟨s.toArray⟩,.int .u8 59]) (v:=.int .i64 (dd s 59)) (c:=.int .i64 (dd s 59)) (Go.Proofs.enters_of func307 (by kernel_rfl) rfl) rfl rfl ?_ h
 intro w hb
 refine(Go.Proofs.Any.stringslite_IndexByte Go.Proofs.Tryz.lays217 ⟨s.toArray⟩ 59 w).mono ?_
 rintro e w' ⟨rfl,rfl⟩
 exact⟨rfl,pR _ _⟩
theorem KE(s:List UInt8)(R:Rt)(h:R (.ret (.int .i64 (dd s 59))) S):ao prog w0 281 [.str s,.str [59]] S R:=by
 have hi:=fun S'=>NT w0 S' s
 by_cases hs:s=[59]
 ·subst hs
  have h:R (.ret (.int .i64 0)) S:=h
  clear hi
  exact γR0 func281 ntmps281 results281 h
 ·have hne:(([59]:List UInt8)==s)=false:=by
   rw [beq_eq_false_iff_ne]
   exact fun e=>hs e.symm
  generalize dd s 59=i at h hi
  clear hs
  exact γR1 hi func281 ntmps281 results281 h
def B9(s:List UInt8):AV:=match iy s with|some q=>.tup [.str q.1,.str q.2,.bool true]|none=>.tup [.str s,.str [],.bool false]
theorem Mw(s:List UInt8)(hs:s.length≤10000000)(R:Rt)(h:R (.ret (B9 s)) S):ao prog w0 238 [.str s,.str [59]] S R:=by
 have hi:=fun S'=>KE w0 S' s
 have htd:=List.takeWhile_append_dropWhile (p:=fun b=>b != 59) (l:=s)
 rw [MB] at hi
 by_cases hd:s.dropWhile (fun b=>b != 59)=[]
 ·rw [if_pos hd] at hi
  unfold B9 iy at h
  rw [if_pos hd] at h
  have h:R (.ret (.tup [.str s,.str [],.bool false])) S:=h
  clear htd hd hs
  exact γR1 hi func238 ntmps238 results238 h
 ·rw [if_neg hd] at hi
  unfold B9 iy at h
  rw [if_neg hd] at h
  have h:R (.ret (.tup [.str (s.takeWhile (fun b=>b != 59)),.str ((s.dropWhile (fun b=>b != 59)).drop 1),.bool true])) S:=h
  obtain⟨W,hW⟩:∃ W,s.takeWhile (fun b=>b != 59)=W:=⟨_,rfl⟩
  obtain⟨D,hD⟩:∃ D,s.dropWhile (fun b=>b != 59)=D:=⟨_,rfl⟩
  rw [hW] at hi h htd
  rw [hD] at hd htd h
  have hdl:0<D.length:=pV.2 hd
  have hsl:s.length=W.length+D.length:=by rw [← htd];simp
  have d1:decide ((0:Int)≤(W.length:Int))=true:=χ
  have hw:ae.wrap ((W.length:Int)+((1:Nat):Int))=((W.length+1:Nat):Int):=by rw [ai _ ω];rfl
  have b1:(W.length:Int)≤(s.length:Int):=ω
  have b2:((W.length+1:Nat):Int)≤(s.length:Int):=ω
  have htk:rg W.length s=W:=by rw [← htd];simp
  have hdk:List.drop (W.length+1) s=D.drop 1:=by rw [← htd,← List.drop_drop];simp
  have hts:rg s.length s=s:=bC
  generalize hE:D.drop 1=E at h hdk
  clear hD hW hd htd hsl hdl hs hE
  refine eN func238 rfl ntmps238 fun hO=>?_
  refine Δ1 hi ?_
  all_goals refine fR results238 ?_
  all_goals exact h
theorem NU(s:List UInt8)(hs:s.length≤10000000)(R:Rt)(h:R (.ret (B9 s)) S):ao prog w0 202 [.str s,.str [59]] S R:=by
 have hi:=fun S'=>Mw w0 S' s hs
 unfold B9 at h hi
 clear hs
 cases hq:iy s with
 | none =>
  rw [hq] at h hi
  clear hq
  exact γR1 hi func202 ntmps202 results202 h
 | some q =>
  rw [hq] at h hi
  obtain⟨u,v⟩:=q
  simp only at h hi
  clear hq
  exact γR1 hi func202 ntmps202 results202 h
def vb:Option (List UInt8 × List UInt8)→gL
 | some q=>.ret (.tup [.str q.1,.str q.2])
 | none=>.panic bE
theorem Kv(s:List UInt8)(hs:s.length≤10000000)(R:Rt)(h:R (vb (iy s)) S):ao prog w0 135 [.str s] S R:=by
 have hi:=fun S'=>NU w0 S' s hs
 have hT:=lM w0
 have hF:=lN w0
 unfold B9 at hi
 clear hs
 cases hq:iy s with
 | none =>
  rw [hq] at h hi
  unfold vb bE at h
  unfold bE at hF
  clear hq hT
  refine eN func135 rfl ntmps135 fun hO=>?_
  refine ε2 hi hF ?_
  refine fP ?_
  exact h
 | some q =>
  rw [hq] at h hi
  obtain⟨u,v⟩:=q
  unfold vb at h
  simp only at h hi
  clear hq hF
  exact γR2 hi hT func135 ntmps135 results135 h
theorem KD(s:List UInt8)(hs:s.length≤10000000)(R:Rt)(h:R (if gG s then .ret (Ac.av ⟨44,0,0,0,0,s⟩) else .panic bE) S):ao prog w0 203 [.str s] S R:=by
 have ht:=fun S'=>D8 w0 S' s hs
 unfold Ac.av at h
 clear hs
 cases hb:gG s with
 | true =>
  rw [hb,if_pos rfl] at h
  rw [hb,if_pos rfl] at ht
  simp only at h
  clear hb
  exact γR1 ht func203 ntmps203 results203 h
 | false =>
  rw [hb,if_neg δ] at h
  rw [hb,if_neg δ] at ht
  unfold bE at h ht
  clear hb
  refine eN func203 rfl ntmps203 fun hO=>?_
  refine ε1 ht ?_
  refine fP ?_
  exact h
theorem G7(a:Ac)(hs:a.text.length≤10000000)(hk:a.kind=44)(R:Rt)(h:R (if a=⟨44,0,0,0,0,a.text⟩∧gG a.text=true then .ret (.str (50::59::a.text)) else .panic bE) S):ao prog w0 111 [a.av] S R:=by
 have ht:=fun S'=>D8 w0 S' a.text hs
 have hpT:=fun S'=>vP w0 S' a ⟨a.kind,0,0,0,0,a.text⟩
 have hpF:=fun S'=>vQ w0 S' a ⟨a.kind,0,0,0,0,a.text⟩
 obtain⟨k,n,m,ck,cn,t⟩:=a
 simp only at hk hs ht hpT hpF h
 subst hk
 unfold Ac.av at hpT hpF ⊢
 simp only at hpT hpF ⊢
 have hl:2+t.length≤9223372036854775807:=ω
 clear hs
 by_cases he:(⟨44,n,m,ck,cn,t⟩:Ac)=⟨44,0,0,0,0,t⟩
 ·have hp:=fun S'=>hpT S' he
  cases hb:gG t with
  | true =>
   rw [if_pos ⟨he,hb⟩] at h
   rw [hb,if_pos rfl] at ht
   clear hpT hpF he hb
   exact γR2 hp ht func111 ntmps111 results111 h
  | false =>
   rw [if_neg (by rw [hb];simp)] at h
   rw [hb,if_neg δ] at ht
   unfold bE at h ht
   clear hpT hpF he hb
   refine eN func111 rfl ntmps111 fun hO=>?_
   refine ε2 hp ht ?_
   refine fP ?_
   exact h
 ·have hp:=fun S'=>hpF S' he
  rw [if_neg (fun e=>he e.1)] at h
  unfold bE at h hp
  clear hpT hpF he ht
  refine eN func111 rfl ntmps111 fun hO=>?_
  refine ε1 hp ?_
  refine fP ?_
  exact h
def lZ(w0:World):Prop:=∀ (S:List aH) (s:List UInt8),s.length≤8192→∀ (R:Rt),R (.ret (tS (er s))) S→ao prog w0 74 [.str s] S R
def nL(w0:World):Prop:=∀ (S:List aH) (a:Ac),a.text.length≤10000→∀ (R:Rt),R (.ret (sm (cU a))) S→ao prog w0 28 [a.av] S R
def NG(o:Option (List UInt8)):List UInt8:=o.getD []
def NJ(o:Option (List UInt8)):Int:=if o.isSome then 0 else 2
theorem uq(o:Option (List UInt8)):sm o=.tup [.str (NG o),.int .i64 (NJ o)]:=by cases o<;>rfl
theorem GV(l:List (List Int))(hl:l.length≤1000000)(hs:∀ s∈l,s.length≤1000000)(R:Rt)(h:∀ i:Int,decide (0≤i)=l.any iz→R (.ret (.int .i64 i)) S):ao prog w0 160 [.sval false (l.map ct),.fn (.func 76) [] []] S R:=by
 have hb:=Ml w0
 have Hs:=ab hs
 clear hs
 refine eN func160 rfl ntmps160 fun hO=>?_
 refine ε0 ?_
 refine cD (fun (k:Nat) env S'=>k≤l.length∧(l.take k).any iz=false∧env 1000000=.dfr []∧env 0=.sval false (l.map ct)∧env 1=.fn (.func 76) [] []∧env 7=.int .i64 l.length∧env 8=.int .i64 (k:Int)∧S'=S) (fun k=>l.length - k) 0 ?_ ?_
 ·exact⟨bf _,χ,ss,ss,ss,ss,ss,rfl⟩
 ·rintro k env S' ⟨hk,hp,e0,f0,f1,f7,f8,rfl⟩ IH
  have HI:=ab IH
  have H:=ab h
  clear IH h
  by_cases hlt:k<l.length
  ·obtain⟨x,hx⟩:∃ x,l[k]? = some x:=⟨_,ap hlt⟩
   have h1:decide ((k:Int)<(l.length:Int))=true:=by simpa using hlt
   have hw:ae.wrap ((k:Int)+1)=((k+1:Nat):Int):=by rw [ai _ ω];omega
   have hb':=fun S'=>hb S' x (Hs.out x (ax hx))
   unfold ct at hb'
   cases hbx:iz x with
   | true =>
    have hh:=H.out (k:Int) (by rw [qE hx hbx];simp)
    rw [hbx] at hb'
    clear hk hp hlt HI hb hl
    refine ε1 hb' ?_
    refine fR results160 ?_
    exact hh
   | false =>
    rw [hbx] at hb'
    have Hn:=ab (mH hx hp hbx)
    have Hlt:=ab hlt
    clear hk hp hlt hb hbx
    refine ε1 hb' ?_
    refine HI.out (k+1) _ _ (by have:=Hlt.out;omega) ⟨Hlt.out,Hn.out, ?_, ?_, ?_, ?_, ?_,rfl⟩
    all_goals (simp only [go_sem, *];try rfl)
  ·have h1:decide ((k:Int)<(l.length:Int))=false:=by simpa using hlt
   have hk':k=l.length:=ω
   rw [hk',bC] at hp
   have hh:=H.out (-1) (by rw [hp];decide)
   clear hlt hk hk' HI hp
   refine ε0 ?_
   refine fR results160 ?_
   exact hh
theorem Ks(l:List (List Int))(hl:l.length≤1000000)(hs:∀ s∈l,s.length≤1000000)(R:Rt)(h:R (.ret (.bool (l.any iz))) S):ao prog w0 80 [.sval false (l.map ct),.fn (.func 76) [] []] S R:=by
 have hi:=fun S'=>GV w0 S' l hl hs
 generalize l.any iz=b at h hi
 clear hs
 refine eN func80 rfl ntmps80 fun hO=>?_
 refine ε1 hi ?_
 intro i hi2
 refine ε0 ?_
 refine fR results80 ?_
 exact h
theorem Gk{l:List (List Int)}(h:l.length=1):∃ s,l=[s]:=qJ.1 h
theorem H0{l:List Int}(h:l.length=1):∃ s,l=[s]:=qJ.1 h
theorem ul(l:List (List Int)):(((l.length:Int)==1)=false∧(l==[[-1]])=false)∨∃ s,l=[s]∧(((s.length:Int)==1)=false∧(l==[[-1]])=false∨∃ n,s=[n]∧(l==[[-1]])=(n==-1)):=by
 by_cases h:l.length=1
 ·right
  obtain⟨s,rfl⟩:=Gk h
  refine⟨s,rfl, ?_⟩
  by_cases h2:s.length=1
  ·right
   obtain⟨n,rfl⟩:=H0 h2
   exact⟨n,rfl,χ⟩
  ·left
   refine⟨by rw [beq_eq_false_iff_ne];omega, ?_⟩
   rw [beq_eq_false_iff_ne]
   intro e
   simp at e
   rw [e] at h2
   exact h2 rfl
 ·left
  refine⟨by rw [beq_eq_false_iff_ne];omega, ?_⟩
  rw [beq_eq_false_iff_ne]
  intro e
  rw [e] at h
  exact h rfl
theorem Kr(l:List (List Int))(R:Rt)(h:R (.ret (.bool (l==[[-1]]))) S):ao prog w0 79 [.sval false (l.map ct)] S R:=by
 have e0:(((1:Nat):Int)==1)=true:=δ
 rcases ul l with⟨e1,e2⟩|⟨s,rfl,⟨e1,e2⟩|⟨n,rfl,e2⟩⟩
 ·rw [e2] at h
  clear e2
  exact γR0 func79 ntmps79 results79 h
 ·rw [e2] at h
  clear e2
  simp only [al,aj,ct]
  exact γR0 func79 ntmps79 results79 h
 ·rw [e2] at h
  clear e2
  simp only [al,aj,ct,ea]
  exact γR0 func79 ntmps79 results79 h
theorem AZ(a b:Nat):decide ((a:Int)<(b:Int))=decide (a<b):=by rw [eU];simp
def oE(l:List (List Int)):Prop:=l.length≤1000000∧∀ s∈l,s.length≤1000000
theorem su(l:List (List Int))(hl:oE l)(R:Rt)(h:R (.ret (.int .i64 (mQ l))) S):ao prog w0 36 [.sval false (l.map ct)] S R:=by
 have hc:=fun S'=>Ks w0 S' l hl.1 hl.2
 have he:=fun S'=>Kr w0 S' l
 unfold mQ db at h
 have e2:decide ((16:Int)<(l.length:Int))=decide (16<l.length):=AZ 16 l.length
 have e3:decide (l.length≤16) = !decide (16<l.length):=by rw [eU];simp
 rw [e3] at h
 cases d1:decide (16<l.length)<;>cases d2:l==[[-1]]<;>cases d3:l.any iz<;>rw [d1,d2,d3] at h<;>rw [d1] at e2<;>rw [d2] at he<;>rw [d3] at hc<;>clear d1 d2 d3 e3 hl
 all_goals
  exact γR2 hc he func36 ntmps36 results36 h
def eg(l:List (List Int))(i none:Int):Int :=
 if i<0 then none else match l[i.toNat]? with
  | some (n::_)=>if n<0 then none else n
  | _=>none
theorem li(l:List (List Int))(i none:Int)(R:Rt)(h:R (.ret (.int .i64 (eg l i none))) S):ao prog w0 142 [.sval false (l.map ct),.int .i64 i,.int .i64 none] S R∧ao prog w0 126 [.sval false (l.map ct),.int .i64 i,.int .i64 none] S R:=by
 unfold eg at h
 by_cases h0:i<0
 ·rw [if_pos h0] at h
  have d0:decide (i<0)=true:=decide_eq_true h0
  clear h0
  constructor
  ·exact γR0 func142 ntmps142 results142 h
  ·exact γR0 func126 ntmps126 results126 h
 ·rw [if_neg h0] at h
  obtain⟨k,rfl⟩:∃ k:Nat,i=(k:Int):=⟨i.toNat,ω⟩
  rw [Int.toNat_natCast] at h
  have d0:decide ((k:Int)<0)=false:=decide_eq_false h0
  cases hx:l[k]? with
  | none =>
   rw [hx] at h
   have d1:decide ((l.length:Int)≤(k:Int))=true:=by simp;simpa using hx
   clear h0 hx
   constructor
   ·exact γR0 func142 ntmps142 results142 h
   ·exact γR0 func126 ntmps126 results126 h
  | some s =>
   rw [hx] at h
   have hk:k<l.length:=(af.1 hx).1
   have d1:decide ((l.length:Int)≤(k:Int))=false:=κ
   clear h0 hk
   cases s with
   | nil =>
    have e0:(((0:Nat):Int)==0)=true:=δ
    constructor
    ·exact γR0 func142 ntmps142 results142 h
    ·exact γR0 func126 ntmps126 results126 h
   | cons n s =>
    have e0:((((n::s).length:Nat):Int)==0)=false:=by rw [beq_eq_false_iff_ne];simp;omega
    simp only [aB] at e0
    simp only at h
    by_cases hn:n<0
    ·rw [if_pos hn] at h
     have d2:decide (n<0)=true:=decide_eq_true hn
     clear hn
     constructor
     ·exact γR0 func142 ntmps142 results142 h
     ·exact γR0 func126 ntmps126 results126 h
    ·rw [if_neg hn] at h
     have d2:decide (n<0)=false:=decide_eq_false hn
     clear hn
     constructor
     ·exact γR0 func142 ntmps142 results142 h
     ·exact γR0 func126 ntmps126 results126 h
theorem Gq(c:Int)(R:Rt)(h:R (.ret (.bool (decide (0≤c)&&tI c.toNat))) S):ao prog w0 181 [.int .i64 c] S R:=by
 by_cases c0:0≤c
 ·obtain⟨n,rfl⟩:∃ n:Nat,c=n:=⟨c.toNat,ω⟩
  rw [decide_eq_true c0,bP,Int.toNat_natCast] at h
  exact DE w0 S n R h
 ·have d0:decide (0≤c)=false:=decide_eq_false c0
  rw [d0,bO] at h
  clear c0
  exact γR0 func181 ntmps181 results181 h
theorem o9{l:List (List Int)}(h:db l=false):mQ l=150:=by unfold mQ;rw [h];rfl
theorem zR{s:List Int}(h0:1≤s.length)(h6:s.length≤6):iz s=s.any mr:=by
 unfold iz
 rw [show (s.length==0)=false by rw [beq_eq_false_iff_ne];omega,decide_eq_false ω]
 simp
theorem qf{l:List (List Int)}{k:Nat}{s:List Int}(hx:l[k]? = some s)(h:iz s=true):db l=false:=by
 unfold db
 rw [qE hx h];simp
theorem o5(l:List (List Int))(R:Rt)(h:R (.ret (.int .i64 (mQ l))) S):ao prog w0 58 [.sval false (l.map ct)] S R:=by
 have e16:decide ((16:Int)<(l.length:Int))=decide (16<l.length):=AZ 16 l.length
 by_cases h16:16<l.length
 ·have hh:R (.ret (.int .i64 150)) S:=by rw [o9 (by unfold db;rw [decide_eq_false ω];rfl)] at h;exact h
  rw [decide_eq_true h16] at e16
  clear h h16
  exact γR0 func58 ntmps58 results58 hh
 rw [decide_eq_false h16] at e16
 refine eN func58 rfl ntmps58 fun hO=>?_
 refine ε0 ?_
 refine cD (fun (k:Nat) env S'=>k≤l.length∧(l.take k).any iz=false∧env 1000000=.dfr []∧env 0=.sval false (l.map ct)∧env 3=.int .i64 (k:Int)∧S'=S) (fun k=>l.length - k) 0 ?_ ?_
 ·exact⟨bf _,χ,ss,ss,ss,rfl⟩
 ·rintro k env S' ⟨hk,hp,e0,f0,f3,rfl⟩ IH
  have HI:=ab IH
  have H:=ab h
  clear IH h e16
  by_cases hlt:k<l.length
  ·obtain⟨s,hx⟩:∃ s,l[k]? = some s:=⟨_,ap hlt⟩
   have h1:decide ((k:Int)<(l.length:Int))=true:=by simpa using hlt
   have hw:ae.wrap ((k:Int)+1)=((k+1:Nat):Int):=by rw [ai _ ω];omega
   by_cases h0:s.length<1
   ·have d0:decide ((s.length:Int)<1)=true:=κ
    have hh:=H.out
    rw [o9 (qf hx (by unfold iz;rw [show (s.length==0)=true by simp;exact bW ω];rfl))] at hh
    clear hk hp hlt h0 HI h16
    refine ε0 ?_
    refine fR results58 ?_
    exact hh
   have d0:decide ((s.length:Int)<1)=false:=κ
   by_cases h6:6<s.length
   ·have d6:decide ((6:Int)<(s.length:Int))=true:=κ
    have hh:=H.out
    rw [o9 (qf hx (by unfold iz;rw [decide_eq_true h6];simp))] at hh
    clear hk hp hlt h0 h6 HI h16
    refine ε0 ?_
    refine fR results58 ?_
    exact hh
   have d6:decide ((6:Int)<(s.length:Int))=false:=κ
   have hbs:=zR (show 1≤s.length by omega) (show s.length≤6 by omega)
   have Hf:=ab (a7 hlt (a7 hp (a7 hbs h6)))
   clear hk hp hlt h0 h6 hbs h16
   refine ε0 ?_
   refine cD (fun (j:Nat) env S2=>j≤s.length∧(s.take j).any mr=false∧env 1000000=.dfr []∧env 0=.sval false (l.map ct)∧env 3=.int .i64 (k:Int)∧env 4=.int .i64 (j:Int)∧S2=S') (fun j=>s.length - j) 0 ?_ ?_
   ·exact⟨bf _,χ,ss,ss,ss,ss,rfl⟩
   ·clear e0 f0 f3
    rintro j env S2 ⟨hj,hq,e0,f0,f3,f4,rfl⟩ IH
    have HJ:=ab IH
    clear IH
    by_cases hjt:j<s.length
    ·obtain⟨n,hn⟩:∃ n,s[j]? = some n:=⟨_,ap hjt⟩
     have h2:decide ((j:Int)<(s.length:Int))=true:=by simpa using hjt
     have hw2:ae.wrap ((j:Int)+1)=((j+1:Nat):Int):=by have:=Hf.out.2.2.2;rw [ai _ ω];omega
     cases hb:mr n with
     | true =>
      have hh:=H.out
      rw [o9 (qf hx (by rw [Hf.out.2.2.1];exact qE hn hb))] at hh
      unfold mr at hb
      cases b1:decide (n < -1)<;>rw [b1] at hb
      ·simp only [wG] at hb
       clear hj hq hjt HJ HI
       refine ε0 ?_
       refine fR results58 ?_
       exact hh
      ·clear hj hq hjt HJ hb HI
       refine ε0 ?_
       refine fR results58 ?_
       exact hh
     | false =>
      have Hg:=ab (a7 hjt (mH hn hq hb))
      unfold mr at hb
      rw [cF] at hb
      obtain⟨b1,b2⟩:=hb
      clear hj hq hjt HI
      refine ε0 ?_
      refine HJ.out (j+1) _ _ (by have:=Hg.out.1;omega) ⟨Hg.out.1,Hg.out.2, ?_, ?_, ?_, ?_,rfl⟩
      all_goals (simp only [go_sem, *];try rfl)
    ·have h2:decide ((j:Int)<(s.length:Int))=false:=by simpa using hjt
     have hj':j=s.length:=ω
     rw [hj',bC] at hq
     have Hg:=ab (mH hx Hf.out.2.1 (Hf.out.2.2.1.trans hq))
     clear hj hq hjt hj' HJ
     refine ε0 ?_
     refine HI.out (k+1) _ _ (by have:=Hf.out.1;omega) ⟨Hf.out.1,Hg.out, ?_, ?_, ?_,rfl⟩
     all_goals (simp only [go_sem, *];try rfl)
  ·have h1:decide ((k:Int)<(l.length:Int))=false:=by simpa using hlt
   have hk':k=l.length:=ω
   rw [hk',bC] at hp
   have hh:=H.out
   have hpe:mQ l=if (l==[[-1]])=true then 150 else 0:=by
    unfold mQ db
    rw [hp,decide_eq_true (show l.length≤16 by omega)]
    cases l==[[-1]]<;>rfl
   rw [hpe] at hh
   clear hlt hk hk' HI hp hpe h16
   repeat' ((fail_if_success (apply dk 60 rfl));first|refine st ?_|(refine br ?_ ?_<;>intro hb)|fail)
   clear h1
   have e1:(((1:Nat):Int)==1)=true:=δ
   rcases ul l with⟨c1,c2⟩|⟨s,rfl,⟨c1,c2⟩|⟨n,rfl,c2⟩⟩
   ·rw [c2] at hh
    clear c2 e1
    refine ε0 ?_
    refine fR results58 ?_
    exact hh
   ·rw [c2] at hh
    clear c2
    simp only [al,aj] at f0
    refine ε0 ?_
    refine fR results58 ?_
    exact hh
   ·rw [c2] at hh
    clear c2
    simp only [al,aj] at f0
    cases hn:n==-1<;>rw [hn] at hh
    all_goals
     refine ε0 ?_
     refine fR results58 ?_
     exact hh
def N9(w0:World):Prop:=∀ (S:List aH) (b1 b2:UInt8) (R:Rt),(∀ v,iV b1 b2=some v→R (.ret (.tup [.int .u64 v,.inil])) S)→(iV b1 b2=none→∀ t x,R (.ret (.tup [.int .u64 0,.ifc t x])) S) →
 ao prog w0 250 [.str [b1,b2],.int .i64 16,.int .i64 8] S R
theorem NR(c:UInt8):a6.wrap (↑(ar a6.bits (c.toNat:Int) ||| ar a6.bits 32).toNat)=(((c ||| 32).toNat:Nat):Int):=by
 have:∀ n:Nat,n<256→a6.wrap (↑(ar a6.bits (n:Int) ||| ar a6.bits 32).toNat)=(((az n ||| 32).toNat:Nat):Int):=by decide +kernel
 have h:=this c.toNat c.toNat_lt
 rwa [cw] at h
theorem My(c:UInt8)(R:Rt)(h:R (.ret (.int .u8 ((c ||| 32).toNat:Nat))) S):ao prog w0 319 [.int .u8 c.toNat] S R:=by
 have g:=NR c
 simp only [bk] at g
 exact γR0 func319 ntmps319 results319 h
def gX(b:UInt8):Nat:=(b ||| 32).toNat
def dv(b:UInt8):Option Nat:=if 48≤b.toNat∧b.toNat≤57 then some (b.toNat - 48) else if 97≤gX b∧gX b≤122 then some (gX b - 87) else none
theorem Ld(b:UInt8):ec b=(dv b).bind fun d=>if d<16 then some d else none:=by
 have:∀ n:Nat,n<256→ec (az n)=(dv (az n)).bind fun d=>if d<16 then some d else none:=by decide +kernel
 have h:=this b.toNat b.toNat_lt
 rwa [cw] at h
theorem Ej(c:UInt8)(R:Rt)(h:R (.ret (.int .u8 (gX c:Nat))) S):ao prog w0 319 [.int .u8 c.toNat] S R:=My w0 S c R h
def ri:AV:=.ifc 299 (.int .i64 2)
def P7(b1 b2:UInt8)(i acc:Nat):Prop:=(i=0∧acc=0)∨(i=1∧ec b1=some acc)∨(i=2∧iV b1 b2=some acc)
theorem GJ{b1 b2:UInt8}{i acc:Nat}(hp:(i=0∧acc=0)∨(i=1∧ec b1=some acc)):∃ b:UInt8,[AV.int .u8 b1.toNat,AV.int .u8 b2.toNat][i]? = some (.int .u8 b.toNat)∧i<2∧acc<16∧(ec b=none→iV b1 b2=none)∧(∀ d,ec b=some d→P7 b1 b2 (i+1) (acc * 16+d)):=by
 rcases hp with⟨rfl,rfl⟩|⟨rfl,ha⟩
 ·exact⟨b1,rfl,ω,ω,fun h=>by simp [iV,h],fun d h=>.inr (.inl ⟨rfl,by simpa using h⟩)⟩
 ·refine⟨b2,rfl,ω,pp ha,fun h=>by simp [iV,ha,h],fun d h=>.inr (.inr ⟨rfl, ?_⟩)⟩
  simp [iV,ha,h];try omega
theorem Mg(b1 b2:UInt8)(R:Rt)(h:R (.ret (match iV b1 b2 with|some v=>.tup [.int .u64 v,.inil]|none=>.tup [.int .u64 0,ri])) S) :
  ao prog w0 293 [.str [b1,b2],.int .i64 16,.int .i64 8] S R:=by
 refine eN func293 rfl ntmps293 fun hO=>?_
 refine ε0 ?_
 apply oU
 ·exact ss
 ·rfl
 ·exact ss
 ·exact ss
 ·exact ss
 ·exact ss
 ·rfl
 simp only [putA,al,aj,jm]
 refine ε0 ?_
 have hffw:aW.wrap (aW.wrap (1 * 2 ^ min (aW.wrap 8).toNat 64) - 1)=255:=by decide +kernel
 refine cD (fun (p:Nat × Nat) env S'=>P7 b1 b2 p.1 p.2∧env 1000000=.dfr []∧env 1=.int .i64 16∧env 8=.bool false∧env 9=.str [b1,b2]∧env 10=.int .u64 1152921504606846976∧env 11=.int .u64 255∧env 12=.bool false∧env 13=.int .u64 p.2 ∧
  env 99=.sval false [.int .u8 b1.toNat,.int .u8 b2.toNat]∧env 100=.int .i64 2∧env 101=.int .i64 p.1∧S'=S) (fun p=>2 - p.1) (0,0) ?_ ?_
 ·exact⟨.inl ⟨rfl,rfl⟩,ss,ss,ss,ss,ss,ss,ss,ss,ss,ss,ss,rfl⟩
 ·rintro⟨i,acc⟩ env S' ⟨hp,e0,f1,f8,f9,f10,f11,f12,f13,f99,f100,f101,rfl⟩ IH
  have HI:=ab IH
  have hw16:a6.wrap 16=16:=δ
  have hw16':aW.wrap 16=16:=δ
  have hlw:=Ej w0
  clear IH hffw
  simp only at f13 f101
  rcases or_assoc.2 hp with hp|⟨rfl,ha⟩
  ·have hps:=GJ (b2:=b2) hp
   clear hp
   obtain⟨b,hb,hlt,hacc,hnone,hsome⟩:=hps
   have h1:decide ((i:Int)<2)=true:=κ
   have hwi:ae.wrap ((i:Int)+1)=((i+1:Nat):Int):=by rw [ai _ ω];rfl
   have Hlt:=ab hlt
   have d5:decide ((1152921504606846976:Int)≤(acc:Int))=false:=κ
   have w5:aW.wrap ((acc:Int) * 16)=((acc * 16:Nat):Int):=by rw [iQ _ ω];omega
   have key:∀ d:Nat,d<16→aW.wrap (d:Int)=(d:Int)∧aW.wrap (((acc * 16:Nat):Int)+(d:Int))=((acc * 16+d:Nat):Int)∧decide (((acc * 16+d:Nat):Int)<((acc * 16:Nat):Int))=false∧decide ((255:Int)<((acc * 16+d:Nat):Int))=false:=by
    intro d hd
    refine⟨iQ _ ω,by rw [iQ _ ω];omega,κ,κ⟩
   clear hlt hacc
   have Hnone:=ab hnone
   have Hsome:=ab hsome
   clear hnone hsome
   have Key:=ab key
   clear key
   have hdv:=Ld b
   by_cases c1:48≤b.toNat∧b.toNat≤57
   ·have d1:decide ((48:Int)≤(b.toNat:Int))=true:=κ
    have d2:decide ((b.toNat:Int)≤57)=true:=κ
    have d3:((b.toNat:Int)==95)=false:=κ
    have w1:a6.wrap ((b.toNat:Int) - 48)=((b.toNat - 48:Nat):Int):=by rw [cR _ ω];omega
    have hd:ec b=some (b.toNat - 48):=by rw [hdv];simp [dv,c1];omega
    have hd16:b.toNat - 48<16:=ω
    have d4:decide ((16:Int)≤((b.toNat - 48:Nat):Int))=false:=κ
    clear hdv c1
    generalize hdd:b.toNat - 48=d at *
    obtain⟨k1,k2,k3,k4⟩:=Key.out d hd16
    have Hd:=ab hd
    clear hdd hd hd16
    refine ε1 hlw ?_
    refine HI.out (i+1,acc * 16+d) _ _ (by have:=Hlt.out;simp only;omega) ⟨Hsome.out d Hd.out, ?_, ?_, ?_, ?_, ?_, ?_, ?_, ?_, ?_, ?_, ?_,rfl⟩
    all_goals (simp only [go_sem, *];try rfl)
   ·have hnd:(decide ((48:Int)≤(b.toNat:Int))&&decide ((b.toNat:Int)≤57))=false:=by
     rw [gF];simp;omega
    by_cases c2:97≤gX b∧gX b≤122
    ·have e1:decide ((97:Int)≤(gX b:Int))=true:=κ
     have e2:decide ((gX b:Int)≤122)=true:=κ
     have w1:a6.wrap ((gX b:Int) - 97)=((gX b - 97:Nat):Int):=by rw [cR _ ω];omega
     have w2:a6.wrap (((gX b - 97:Nat):Int)+10)=((gX b - 87:Nat):Int):=by rw [cR _ ω];omega
     have hd:ec b=if gX b - 87<16 then some (gX b - 87) else none:=by rw [hdv];simp only [dv,c1,c2,and_self,if_false,if_true,Jl]
     clear hdv c1 c2
     generalize gX b - 87=d at *
     generalize gX b - 97=e at *
     by_cases hd16:d<16
     ·rw [if_pos hd16] at hd
      have d4:decide ((16:Int)≤(d:Int))=false:=κ
      obtain⟨k1,k2,k3,k4⟩:=Key.out d hd16
      have Hd:=ab hd
      clear hd hd16
      cases q1:decide ((48:Int)≤(b.toNat:Int))<;>cases q2:decide ((b.toNat:Int)≤57)<;>cases q3:((b.toNat:Int)==95)<;>simp only [q1,q2] at hnd<;>try (exfalso;cases hnd;done)
      all_goals clear hnd
      all_goals
       refine ε1 hlw ?_
       refine HI.out (i+1,acc * 16+d) _ _ (by have:=Hlt.out;simp only;omega) ⟨Hsome.out d Hd.out, ?_, ?_, ?_, ?_, ?_, ?_, ?_, ?_, ?_, ?_, ?_,rfl⟩
       all_goals (simp only [go_sem, *];try rfl)
     ·rw [if_neg hd16] at hd
      have d4:decide ((16:Int)≤(d:Int))=true:=κ
      rw [Hnone.out hd] at h
      clear hd hd16
      cases q1:decide ((48:Int)≤(b.toNat:Int))<;>cases q2:decide ((b.toNat:Int)≤57)<;>cases q3:((b.toNat:Int)==95)<;>simp only [q1,q2] at hnd<;>try (exfalso;cases hnd;done)
      all_goals clear hnd
      all_goals
       refine ε1 hlw ?_
       refine fR results293 ?_
       exact h
    ·have hd:ec b=none:=by
      rw [hdv];unfold dv;rw [if_neg c1,if_neg c2];rfl
     rw [Hnone.out hd] at h
     have hle:(decide ((97:Int)≤(gX b:Int))&&decide ((gX b:Int)≤122))=false:=by
      rw [gF];simp;omega
     clear hd hdv c1 c2
     cases q1:decide ((48:Int)≤(b.toNat:Int))<;>cases q2:decide ((b.toNat:Int)≤57)<;>cases q3:((b.toNat:Int)==95)<;>simp only [q1,q2] at hnd<;>try (exfalso;cases hnd;done)
     all_goals clear hnd
     all_goals
      cases q4:decide ((97:Int)≤(gX b:Int))<;>cases q5:decide ((gX b:Int)≤122)<;>simp only [q4,q5] at hle<;>try (exfalso;cases hle;done)
     all_goals clear hle
     all_goals
      refine ε1 hlw ?_
      refine fR results293 ?_
      exact h
  ·simp only at ha
   rw [ha] at h
   clear ha
   refine ε0 ?_
   refine fR results293 ?_
   exact h
def Fe(w0:World):Prop:=∃ ev,w0.cell? ⟨6,0,none⟩=some ev∧(ev=.nilIface∨∃ te pe,ev=.iface te pe)
theorem LO(w0:World)(hS:Fe w0)(S:List aH)(s:List UInt8)(hs:s.length≤1000)(R:Rt)(h:∀ v:Value,R (.ret (.ifc 302 (.val v))) S) :
  ao prog w0 247 [.str [80,97,114,115,101,85,105,110,116],.str s,.int .i64 16,.int .i64 8,ri] S R:=by
 refine ao.libR (vs:=[.string ⟨#[80,97,114,115,101,85,105,110,116]⟩,.string ⟨s.toArray⟩,.int .i64 16,.int .i64 8,.iface 299 (.int .i64 2)]) (Go.Proofs.enters_of func247 (by kernel_rfl) rfl) rfl ?_
 intro w hb
 obtain⟨ev,hv,hev⟩:=hS
 refine(Go.Proofs.Any.strconv_toError_syntax Go.Proofs.Tryz.laysC245 ⟨#[80,97,114,115,101,85,105,110,116]⟩ ⟨s.toArray⟩ 16 8 ev w ?_ ?_ hev).mono ?_
 ·show s.toArray.size≤_
  simp;omega
 ·exact(hb.cell (jy _ _ hv)).trans hv
 ·rintro e w' ⟨N,rfl,hN,hc,hbw⟩
  exact⟨_,rfl,hbw,.ifc 302 (.val (.pointer (some ⟨N,0,none⟩))),fun ι ψ=>.ifc _ _ _ (.val _ rfl),h _⟩
theorem ur(w0:World)(hS:Fe w0):N9 w0:=by
 intro S b1 b2 R h1 h2
 have hte:=fun S'=>LO w0 hS S' [b1,b2] χ
 cases hh:iV b1 b2 with
 | some v =>
  have hpu:=fun S' (R:Rt) (h:R (.ret (.tup [.int .u64 v,.inil])) S')=>Mg w0 S' b1 b2 R (by rw [hh];exact h)
  have h:=h1 v hh
  clear hte h1 h2 hh
  exact γR1 hpu func250 ntmps250 results250 h
 | none =>
  have hpu:=fun S' (R:Rt) (h:R (.ret (.tup [.int .u64 0,ri])) S')=>Mg w0 S' b1 b2 R (by rw [hh];exact h)
  have h:=h2 hh
  clear h1 h2 hh
  unfold ri at hpu hte
  refine eN func250 rfl ntmps250 fun hO=>?_
  refine ε2 hpu hte ?_
  intro v
  refine ε0 ?_
  refine fR results250 ?_
  exact h _ _
end Go.Proofs.YthdbijpefkapnaaGreatDoor
