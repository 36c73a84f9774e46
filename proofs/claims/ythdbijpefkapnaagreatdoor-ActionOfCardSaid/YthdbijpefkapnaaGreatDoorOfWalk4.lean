/- A part of the proof. -/
import Derived.Test.YthdbijpefkapnaaGreatDoorOfWalk3
set_option linter.all false
set_option maxHeartbeats 40000000
open And renaming intro → a7
open Bool renaming and_eq_true → aq, eq_iff_iff → eU, false_and → bO, not_eq_false' → aE, not_eq_true' → ay, true_and → bP
open Go.IntKind renaming i64 → ae, u8 → a6
open Go.IntWalk renaming i64_in → ai, u8_in → cR
open Go.Lib renaming hid → ab
open Int renaming tdiv_eq_ediv_of_nonneg → wF, tmod_eq_emod_of_nonneg → wE
open Int.ofNat renaming inj → tG
open List renaming all_eq_true → aD, drop_eq_getElem_cons → qK, drop_eq_nil_of_le → Fw, getElem?_eq_getElem → ap, getElem?_eq_some_iff → af, getElem?_map → aJ, getElem?_of_mem → aV, getElem?_take → bc, length_take_le → nl, mem_cons_of_mem → iv, mem_of_getElem? → ax, take → rg, take_add_one → jW, take_length → bC, take_succ_cons → aR, take_zero → aO, toList_toArray → bj
open Nat renaming div_div_eq_div_mul → nk, mod_lt → eh, pow_le_pow_right → gM, pow_succ → mw, reduceMul → Ct, zero_le → bf
open UInt8 renaming ofNat → az, toNat → aK, toNat_inj → mA
namespace Go.Proofs.YthdbijpefkapnaaGreatDoor
open Go Go.Fen Go.Proofs.Tryz
attribute [local irreducible] aX WP ao dS i7 cJ aU cC
set_option maxRecDepth 8000
variable (w0:World) (S:List aH)
def nV(cp:Nat):Nat:=if cp<128 then 1 else if cp<2048 then 2 else if cp<65536 then 3 else 4
theorem DE(cp:Nat)(R:Rt)(h:R (.ret (.bool (tI cp))) S):ao prog w0 181 [.int .i64 cp] S R:=by
 have d0:decide ((0:Int)≤(cp:Int))=true:=χ
 by_cases c1:cp≤1114111
 ·have d1:decide ((cp:Int)≤1114111)=true:=κ
  by_cases c2:cp<55296
  ·have d2:decide ((cp:Int)<55296)=true:=κ
   have e:tI cp=true:=by unfold tI;simp;omega
   rw [e] at h
   clear e c1 c2
   exact γR0 func181 ntmps181 results181 h
  ·have d2:decide ((cp:Int)<55296)=false:=κ
   by_cases c3:57343<cp
   ·have d3:decide ((57343:Int)<(cp:Int))=true:=κ
    have e:tI cp=true:=by unfold tI;simp;omega
    rw [e] at h
    clear e c1 c2 c3
    exact γR0 func181 ntmps181 results181 h
   ·have d3:decide ((57343:Int)<(cp:Int))=false:=κ
    have e:tI cp=false:=by unfold tI;simp;omega
    rw [e] at h
    clear e c1 c2 c3
    exact γR0 func181 ntmps181 results181 h
 ·have d1:decide ((cp:Int)≤1114111)=false:=κ
  have e:tI cp=false:=by unfold tI;simp;omega
  rw [e] at h
  clear e c1
  exact γR0 func181 ntmps181 results181 h
theorem I8(cp:Nat)(R:Rt)(h:R (.ret (.int .i64 (nV cp:Nat))) S):ao prog w0 267 [.int .i64 cp] S R:=by
 by_cases c1:cp<128
 ·have d1:decide ((cp:Int)<128)=true:=κ
  have e:nV cp=1:=by unfold nV;rw [if_pos c1]
  rw [e] at h
  have h:R (.ret (.int .i64 1)) S:=h
  clear e c1
  exact γR0 func267 ntmps267 results267 h
 have d1:decide ((cp:Int)<128)=false:=κ
 by_cases c2:cp<2048
 ·have d2:decide ((cp:Int)<2048)=true:=κ
  have e:nV cp=2:=by unfold nV;rw [if_neg c1,if_pos c2]
  rw [e] at h
  have h:R (.ret (.int .i64 2)) S:=h
  clear e c1 c2
  exact γR0 func267 ntmps267 results267 h
 have d2:decide ((cp:Int)<2048)=false:=κ
 by_cases c3:cp<65536
 ·have d3:decide ((cp:Int)<65536)=true:=κ
  have e:nV cp=3:=by unfold nV;rw [if_neg c1,if_neg c2,if_pos c3]
  rw [e] at h
  have h:R (.ret (.int .i64 3)) S:=h
  clear e c1 c2 c3
  exact γR0 func267 ntmps267 results267 h
 have d3:decide ((cp:Int)<65536)=false:=κ
 have e:nV cp=4:=by unfold nV;rw [if_neg c1,if_neg c2,if_neg c3]
 rw [e] at h
 have h:R (.ret (.int .i64 4)) S:=h
 clear e c1 c2 c3
 exact γR0 func267 ntmps267 results267 h
theorem JK(c:Nat):(c:Int).tmod 64=((c % 64:Nat):Int):=by rw [wE ω];omega
theorem JL(c:Nat)(h:c<4294967296):ae.wrap ((c:Int).tdiv 64)=((c / 64:Nat):Int):=by
 rw [wF ω,ai _ ω];omega
theorem Jv(c:Nat):ae.wrap (128+((c % 64:Nat):Int))=((128+c % 64:Nat):Int):=by rw [ai _ ω];omega
theorem Js(c:Nat):a6.wrap ((128+c % 64:Nat):Int)=((128+c % 64:Nat):Int):=cR _ ω
theorem NC(cp:Nat)(hb:cp<4294967296)(R:Rt)(h:R (.ret (.str (qc cp))) S):ao prog w0 224 [.int .i64 cp] S R:=by
 have hck:=fun S'=>DE w0 S' cp
 unfold qc tP at h
 cases hok:tI cp with
 | false =>
  rw [hok,if_neg δ] at h
  rw [hok] at hck
  have h:R (.ret (.str [239,191,189])) S:=h
  have hsz:∀ S' (R:Rt),R (.ret (.int .i64 3)) S'→ao prog w0 267 [.int .i64 65533] S' R:=fun S' R hr=>I8 w0 S' 65533 R hr
  have z1:(65533:Int).tmod 64=61:=δ
  have z2:ae.wrap ((65533:Int).tdiv 64)=1023:=δ
  have z3:(1023:Int).tmod 64=63:=δ
  have z4:ae.wrap ((1023:Int).tdiv 64)=15:=δ
  clear hb hok
  refine eN func224 rfl ntmps224 fun hO=>?_
  repeat' first|refine st ?_|(refine ca ?_;first|apply hck|apply hsz)|(refine br ?_ ?_<;>intro hb)|apply cS|apply gn|fail
  refine fR results224 ?_
  exact h
 | true =>
  rw [hok,if_pos rfl] at h
  rw [hok] at hck
  have hle:cp≤1114111:=by
   simp only [tI,aq,decide_eq_true_eq] at hok
   exact hok.1
  have hsz:=fun S'=>I8 w0 S' cp
  have t0:=JK cp
  have t1:=JK (cp / 64)
  have t2:=JK (cp / 64 / 64)
  have q0:=JL cp hb
  have q1:=JL (cp / 64) ω
  have q2:=JL (cp / 64 / 64) ω
  have b0:=Jv cp
  have b1:=Jv (cp / 64)
  have b2:=Jv (cp / 64 / 64)
  have u0:=Js cp
  have u1:=Js (cp / 64)
  have u2:=Js (cp / 64 / 64)
  clear hok hb
  unfold nV at hsz
  by_cases h1:cp<128
  ·have e:kI cp=[cp]:=by unfold kI;rw [if_pos h1]
   rw [e] at h
   rw [if_pos h1] at hsz
   have hsz:∀ S' (R:Rt),R (.ret (.int .i64 1)) S'→ao prog w0 267 [.int .i64 cp] S' R:=hsz
   have wc:a6.wrap (cp:Int)=(cp:Int):=cR _ ω
   have h:R (.ret (.str [az cp])) S:=h
   clear e h1 hle t0 t1 t2 q0 q1 q2 b0 b1 b2 u0 u1 u2
   exact γR2 hck hsz func224 ntmps224 results224 h
  by_cases h2:cp<2048
  ·have e:kI cp=[192+cp / 64,128+cp % 64]:=by unfold kI;rw [if_neg h1,if_pos h2];try simp only [nk,Ct]
   rw [e] at h
   rw [if_neg h1,if_pos h2] at hsz
   have hsz:∀ S' (R:Rt),R (.ret (.int .i64 2)) S'→ao prog w0 267 [.int .i64 cp] S' R:=hsz
   obtain⟨tp,htp⟩:∃ tp,cp / 64=tp:=⟨_,rfl⟩
   have wt:ae.wrap (192+(tp:Int))=((192+tp:Nat):Int):=by rw [ai _ ω];omega
   have wu:a6.wrap ((192+tp:Nat):Int)=((192+tp:Nat):Int):=cR _ ω
   rw [htp] at q0 h
   have h:R (.ret (.str [az (192+tp),az (128+cp % 64)])) S:=h
   clear e hle htp h1 h2 t1 t2 q1 q2 b1 b2 u1 u2
   refine eN func224 rfl ntmps224 fun hO=>?_
   repeat' first|refine st ?_|(refine ca ?_;first|apply hck|apply hsz)|(refine br ?_ ?_<;>intro hb)|apply cS|apply gn|fail
   refine fR results224 ?_
   exact h
  by_cases h3:cp<65536
  ·have e:kI cp=[224+cp / 64 / 64,128+cp / 64 % 64,128+cp % 64]:=by unfold kI;rw [if_neg h1,if_neg h2,if_pos h3];try simp only [nk,Ct]
   rw [e] at h
   rw [if_neg h1,if_neg h2,if_pos h3] at hsz
   have hsz:∀ S' (R:Rt),R (.ret (.int .i64 3)) S'→ao prog w0 267 [.int .i64 cp] S' R:=hsz
   obtain⟨tp,htp⟩:∃ tp,cp / 64 / 64=tp:=⟨_,rfl⟩
   have wt:ae.wrap (224+(tp:Int))=((224+tp:Nat):Int):=by rw [ai _ ω];omega
   have wu:a6.wrap ((224+tp:Nat):Int)=((224+tp:Nat):Int):=cR _ ω
   rw [htp] at q1 h
   have h:R (.ret (.str [az (224+tp),az (128+cp / 64 % 64),az (128+cp % 64)])) S:=h
   clear e hle htp h1 h2 h3 t2 q2 b2 u2
   refine eN func224 rfl ntmps224 fun hO=>?_
   repeat' first|refine st ?_|(refine ca ?_;first|apply hck|apply hsz)|(refine br ?_ ?_<;>intro hb)|apply cS|apply gn|fail
   refine fR results224 ?_
   exact h
  have e:kI cp=[240+cp / 64 / 64 / 64,128+cp / 64 / 64 % 64,128+cp / 64 % 64,128+cp % 64]:=by unfold kI;rw [if_neg h1,if_neg h2,if_neg h3];try simp only [nk,Ct]
  rw [e] at h
  rw [if_neg h1,if_neg h2,if_neg h3] at hsz
  have hsz:∀ S' (R:Rt),R (.ret (.int .i64 4)) S'→ao prog w0 267 [.int .i64 cp] S' R:=hsz
  obtain⟨tp,htp⟩:∃ tp,cp / 64 / 64 / 64=tp:=⟨_,rfl⟩
  have wt:ae.wrap (240+(tp:Int))=((240+tp:Nat):Int):=by rw [ai _ ω];omega
  have wu:a6.wrap ((240+tp:Nat):Int)=((240+tp:Nat):Int):=cR _ ω
  rw [htp] at q2 h
  have h:R (.ret (.str [az (240+tp),az (128+cp / 64 / 64 % 64),az (128+cp / 64 % 64),az (128+cp % 64)])) S:=h
  clear e hle htp h1 h2 h3
  refine eN func224 rfl ntmps224 fun hO=>?_
  repeat' first|refine st ?_|(refine ca ?_;first|apply hck|apply hsz)|(refine br ?_ ?_<;>intro hb)|apply cS|apply gn|fail
  refine fR results224 ?_
  exact h
theorem L6(l:List Nat)(hb:∀ c∈l,c<4294967296)(hl:l.length≤100000000)(R:Rt)(h:R (.ret (.str (fA l))) S):ao prog w0 178 [.sval false (l.map Co)] S R:=by
 refine eN func178 rfl ntmps178 fun hO=>?_
 refine ε0 ?_
 refine cD (fun (i:Nat) env S'=>i≤l.length∧env 1000000=.dfr []∧env 0=.sval false (l.map Co)∧env 3=.str (fA (l.take i))∧env 4=.int .i64 (i:Int)∧S'=S) (fun i=>l.length - i) 0 ?_ ?_
 ·exact⟨bf _,ss,ss,ss,ss,ss⟩
 ·rintro i env S' ⟨hi,e0,f0,f3,f4,rfl⟩ IH
  have HI:=ab IH
  have H:=ab h
  clear IH h
  by_cases hlt:i<l.length
  ·obtain⟨c,hx⟩:∃ c,l[i]? = some c:=⟨_,ap hlt⟩
   have hp:=fun S'=>NC w0 S' c (hb c (ax hx))
   have hsucc:=rU hx
   have hp1:=sk c
   have h1:decide ((i:Int)<(l.length:Int))=true:=by simpa using hlt
   have hw1:ae.wrap ((i:Int)+1)=(i:Int)+1:=ai _ ω
   have hlm:=p6 (l.take i)
   have hlt2:(l.take i).length≤i:=nl _ _
   generalize fA (l.take i)=tx at f3 hsucc hlm
   generalize qc c=pc at hp hsucc hp1
   have hbl:tx.length+pc.length≤9223372036854775807:=ω
   have Hlt:=ab hlt
   have Hsucc:=ab hsucc
   clear hb hlt hi hl hlm hlt2 hp1 hsucc
   repeat' first|apply fX|apply eA|apply dC|apply eB|apply fY|apply b8|apply gh|apply b_|apply bN|apply cM|apply b9|apply bM|apply bv|apply gg|(apply bw;(· rfl))|(apply cK;simp only [bj])|(apply dx;(· rfl);(· simp only [go_sem, *,Co];try rfl);(· rfl);simp only [putA])|(apply eE;simp only [putA])|apply cN|(apply df [];(· simp only [go_sem, *,Co];try rfl);(· rfl);(· simp only [go_sem, *,Co];try rfl);(· rfl);(iterate 2 (· simp only [go_sem, *,Co];try rfl));(first|apply hp);simp only [aU,putA])|(apply dy;(· simp only [go_sem, *,Co];try rfl);(· rfl);(· simp only [go_sem, *,Co];try rfl))|(apply dM;(iterate 2 (· simp only [go_sem, *,Co];try rfl));(· rfl);simp only [putA])|(apply bL;(· simp only [go_sem, *,Co];try rfl);(· rfl);simp only [putA])|(apply dz;(· simp only [go_sem, *,Co];try rfl))|(apply dB;(· simp only [go_sem, *,Co];try rfl))|(apply cL;(· rfl);(fail_if_success (focus (show _=some true;(· simp only [go_sem, *,Co];try rfl))));(· simp only [go_sem, *,Co];try rfl);all_goals (intro hb;try simp only [ay,aE] at hb))|(apply dA;(· simp only [go_sem, *,Co];try rfl);all_goals (intro hb;try simp only [ay,aE] at hb))|fail
   refine HI.out (i+1) _ _ (by have:=Hlt.out;omega) ⟨Hlt.out, ?_, ?_, ?_, ?_, ?_⟩
   ·exact ss
   ·exact ss
   ·rw [Hsucc.out];(simp only [go_sem, *];try rfl)
   ·exact ss
   ·exact ss
  ·have hie:i=l.length:=ω
   subst hie
   rw [bC] at f3
   have h1:decide ((l.length:Int)<(l.length:Int))=false:=χ
   clear hb hlt hi hl
   have h:=H.out
   refine ε0 ?_
   refine fR results178 ?_
   exact h
theorem Dy(s:List UInt8)(hs:s.length≤10000000)(R:Rt)(h:R (.ret (.bool (gG s))) S):ao prog w0 90 [.str s] S R:=by
 unfold gG ut at h
 by_cases h40:s.length≤510
 case neg =>
  rw [decide_eq_false h40,bO] at h
  have d0:decide ((510:Int)<(s.length:Int))=true:=κ
  clear h40 hs
  exact γR0 func90 ntmps90 results90 h
 rw [decide_eq_true h40,bP] at h
 have d0:decide ((510:Int)<(s.length:Int))=false:=κ
 have hco:=fun S'=>J_ w0 S' s ω
 have hcl:=qy s
 have hte:=fun S'=>L6 w0 S' (dY s) (fun c hc=>by have:=hcl.1 c hc;omega) ω
 have hll:(dY s).length≤100000000:=ω
 generalize dY s=l at h hco hte hll
 have Hte:=ab hte
 clear hcl hte h40 hs
 refine eN func90 rfl ntmps90 fun hO=>?_
 refine ε1 hco ?_
 refine cD (fun (k:Nat) env S'=>k≤l.length∧(∀ j c,j<k→l[j]? = some c→oc c=true)∧env 1000000=.dfr []∧env 0=.str s∧env 3=.sval false (l.map Co)∧env 4=.int .i64 (k:Int)∧S'=S) (fun k=>l.length - k) 0 ?_ ?_
 ·exact⟨bf _,fun j c hj=>absurd hj ω,ss,ss,ss,ss,rfl⟩
 ·rintro k env S' ⟨hk,hall,e0,f0,e3,e4,rfl⟩ IH
  have HI:=ab IH
  have Hall:=ab hall
  have H:=ab h
  clear IH hall h hco
  by_cases hlt:k<l.length
  ·obtain⟨c,hx⟩:∃ c,l[k]? = some c:=⟨_,ap hlt⟩
   have h1:decide ((k:Int)<(l.length:Int))=true:=by simpa using hlt
   have hw:ae.wrap ((k:Int)+1)=(k:Int)+1:=ai _ ω
   have bad:oc c=false→R (.ret (.bool false)) S':=fun hc=>by
    have e:l.all oc=false:=by
     rw [List.all_eq_false]
     exact⟨c,ax hx,by simp [hc]⟩
    have:=H.out
    rw [e,bO] at this
    exact this
   have good:oc c=true→∀ j d,j<k+1→l[j]? = some d→oc d=true:=fun hc j d hj hd=>by
    by_cases e:j=k
    ·rw [e,hx] at hd;cases hd;exact hc
    ·exact Hall.out j d ω hd
   have Bad:=ab bad
   have Good:=ab good
   have Hlt:=ab hlt
   clear bad good hlt hk hll
   by_cases q1:c<32
   ·have d1:decide ((c:Int)<32)=true:=κ
    have hc:oc c=false:=by unfold oc;rw [decide_eq_false ω];rfl
    have hb:=Bad.out hc
    clear q1 hc
    repeat' first|apply fX|apply eA|apply dC|apply eB|apply fY|apply b8|apply gh|apply b_|apply bN|apply cM|apply b9|apply bM|apply bv|apply gg|(apply bw;(· rfl))|(apply cK;simp only [bj])|(apply dx;(· rfl);(· simp only [go_sem, *,Co];try rfl);(· rfl);simp only [putA])|(apply eE;simp only [putA])|apply cN|(apply dy;(· simp only [go_sem, *,Co];try rfl);(· rfl);(· simp only [go_sem, *,Co];try rfl))|(apply dM;(iterate 2 (· simp only [go_sem, *,Co];try rfl));(· rfl);simp only [putA])|(apply bL;(· simp only [go_sem, *,Co];try rfl);(· rfl);simp only [putA])|(apply dz;(· simp only [go_sem, *,Co];try rfl))|(apply dB;(· simp only [go_sem, *,Co];try rfl))|(apply cL;(· rfl);(fail_if_success (focus (show _=some true;(· simp only [go_sem, *,Co];try rfl))));(· simp only [go_sem, *,Co];try rfl);all_goals (intro hb;try simp only [ay,aE] at hb))|(apply dA;(· simp only [go_sem, *,Co];try rfl);all_goals (intro hb;try simp only [ay,aE] at hb))|fail
    refine fR results90 ?_
    exact hb
   have d1:decide ((c:Int)<32)=false:=κ
   by_cases q2:127≤c
   ·have d2:decide ((127:Int)≤(c:Int))=true:=κ
    by_cases q3:c≤159
    ·have d3:decide ((c:Int)≤159)=true:=κ
     have hc:oc c=false:=by unfold oc;rw [decide_eq_true q2,decide_eq_true q3];simp
     have hb:=Bad.out hc
     clear q1 q2 q3 hc
     repeat' first|apply fX|apply eA|apply dC|apply eB|apply fY|apply b8|apply gh|apply b_|apply bN|apply cM|apply b9|apply bM|apply bv|apply gg|(apply bw;(· rfl))|(apply cK;simp only [bj])|(apply dx;(· rfl);(· simp only [go_sem, *,Co];try rfl);(· rfl);simp only [putA])|(apply eE;simp only [putA])|apply cN|(apply dy;(· simp only [go_sem, *,Co];try rfl);(· rfl);(· simp only [go_sem, *,Co];try rfl))|(apply dM;(iterate 2 (· simp only [go_sem, *,Co];try rfl));(· rfl);simp only [putA])|(apply bL;(· simp only [go_sem, *,Co];try rfl);(· rfl);simp only [putA])|(apply dz;(· simp only [go_sem, *,Co];try rfl))|(apply dB;(· simp only [go_sem, *,Co];try rfl))|(apply cL;(· rfl);(fail_if_success (focus (show _=some true;(· simp only [go_sem, *,Co];try rfl))));(· simp only [go_sem, *,Co];try rfl);all_goals (intro hb;try simp only [ay,aE] at hb))|(apply dA;(· simp only [go_sem, *,Co];try rfl);all_goals (intro hb;try simp only [ay,aE] at hb))|fail
     refine fR results90 ?_
     exact hb
    ·have d3:decide ((c:Int)≤159)=false:=κ
     have hc:oc c=true:=by unfold oc;rw [decide_eq_false q3,decide_eq_true ω];simp
     clear q1 q2 q3
     repeat' first|apply fX|apply eA|apply dC|apply eB|apply fY|apply b8|apply gh|apply b_|apply bN|apply cM|apply b9|apply bM|apply bv|apply gg|(apply bw;(· rfl))|(apply cK;simp only [bj])|(apply dx;(· rfl);(· simp only [go_sem, *,Co];try rfl);(· rfl);simp only [putA])|(apply eE;simp only [putA])|apply cN|(apply dy;(· simp only [go_sem, *,Co];try rfl);(· rfl);(· simp only [go_sem, *,Co];try rfl))|(apply dM;(iterate 2 (· simp only [go_sem, *,Co];try rfl));(· rfl);simp only [putA])|(apply bL;(· simp only [go_sem, *,Co];try rfl);(· rfl);simp only [putA])|(apply dz;(· simp only [go_sem, *,Co];try rfl))|(apply dB;(· simp only [go_sem, *,Co];try rfl))|(apply cL;(· rfl);(fail_if_success (focus (show _=some true;(· simp only [go_sem, *,Co];try rfl))));(· simp only [go_sem, *,Co];try rfl);all_goals (intro hb;try simp only [ay,aE] at hb))|(apply dA;(· simp only [go_sem, *,Co];try rfl);all_goals (intro hb;try simp only [ay,aE] at hb))|fail
     refine HI.out (k+1) _ _ (by have:=Hlt.out;omega) ⟨Hlt.out,Good.out hc, ?_, ?_, ?_, ?_,rfl⟩
     all_goals (simp only [go_sem, *];try rfl)
   ·have d2:decide ((127:Int)≤(c:Int))=false:=κ
    have hc:oc c=true:=by unfold oc;rw [decide_eq_false q2,decide_eq_true ω];rfl
    clear q1 q2
    repeat' first|apply fX|apply eA|apply dC|apply eB|apply fY|apply b8|apply gh|apply b_|apply bN|apply cM|apply b9|apply bM|apply bv|apply gg|(apply bw;(· rfl))|(apply cK;simp only [bj])|(apply dx;(· rfl);(· simp only [go_sem, *,Co];try rfl);(· rfl);simp only [putA])|(apply eE;simp only [putA])|apply cN|(apply dy;(· simp only [go_sem, *,Co];try rfl);(· rfl);(· simp only [go_sem, *,Co];try rfl))|(apply dM;(iterate 2 (· simp only [go_sem, *,Co];try rfl));(· rfl);simp only [putA])|(apply bL;(· simp only [go_sem, *,Co];try rfl);(· rfl);simp only [putA])|(apply dz;(· simp only [go_sem, *,Co];try rfl))|(apply dB;(· simp only [go_sem, *,Co];try rfl))|(apply cL;(· rfl);(fail_if_success (focus (show _=some true;(· simp only [go_sem, *,Co];try rfl))));(· simp only [go_sem, *,Co];try rfl);all_goals (intro hb;try simp only [ay,aE] at hb))|(apply dA;(· simp only [go_sem, *,Co];try rfl);all_goals (intro hb;try simp only [ay,aE] at hb))|fail
    refine HI.out (k+1) _ _ (by have:=Hlt.out;omega) ⟨Hlt.out,Good.out hc, ?_, ?_, ?_, ?_,rfl⟩
    all_goals (simp only [go_sem, *];try rfl)
  ·have h1:decide ((k:Int)<(l.length:Int))=false:=by simpa using hlt
   have e:l.all oc=true:=by
    rw [aD]
    intro c hc
    obtain⟨j,hj⟩:=aV hc
    exact Hall.out j c (by have:=(af.1 hj).1;omega) hj
   have hh:=H.out
   rw [e,bP] at hh
   have ht:=Hte.out
   clear hlt hk e Hall HI hll
   refine ε1 ht ?_
   refine fR results90 ?_
   rw [show (fA l==s)=decide (fA l=s) by rw [eU];simp]
   exact hh
theorem wH(a b:Nat):(a:Int).tmod (b:Int)=((a % b:Nat):Int):=by rw [wE ω];omega
theorem Bm(a b:Nat)(h:a<4294967296):ae.wrap ((a:Int).tdiv (b:Int))=((a / b:Nat):Int):=by
 have:=Nat.div_le_self a b
 rw [wF ω,← Int.natCast_ediv]
 generalize a / b=q at *
 exact ai _ ω
theorem Lm{s:List UInt8}{i:Nat}(h:∀ j c,j<i→s[j]? = some c→c≠59)(hi:s[i]? = some 59):iy s=some (s.take i,s.drop (i+1)):=by
 have hl:=(af.1 hi).1
 have e:s=s.take i++59::s.drop (i+1):=by
  conv=>lhs;rw [← List.take_append_drop i s]
  rw [qK hl,(af.1 hi).2]
 conv=>lhs;rw [e]
 refine nH _ fun b hb=>?_
 obtain⟨j,hj⟩:=aV hb
 rw [bc] at hj
 split at hj
 ·next hji=>exact h j b hji hj
 ·cases hj
theorem Ll{s:List UInt8}(h:∀ j c,j<s.length→s[j]? = some c→c≠59):iy s=none:=by
 have hall:∀ b∈s,b≠59:=fun b hb=>by
  obtain⟨j,hj⟩:=aV hb
  exact h j b (af.1 hj).1 hj
 have e:s.dropWhile (fun b=>b != 59)=[]:=by
  clear h
  induction s with
  | nil=>rfl
  | cons c s ih =>
   have hc:(c != 59)=true:=by simpa using hall c χ
   rw [List.dropWhile_cons,if_pos hc]
   exact ih fun b hb=>hall b (iv _ hb)
 unfold iy
 rw [if_pos e]
def zK:Option (List UInt8 × List UInt8)→AV
 | some q=>.tup [.str q.1,.str q.2,.bool true]
 | none=>.tup [.str [],.str [],.bool false]
theorem L8(s:List UInt8)(hs:s.length≤100000000)(R:Rt)(h:R (.ret (zK (iy s))) S):ao prog w0 129 [.str s] S R:=by
 refine eN func129 rfl ntmps129 fun hO=>?_
 refine ε0 ?_
 refine cD (fun (i:Nat) env S'=>i≤s.length∧(∀ j c,j<i→s[j]? = some c→c≠59)∧env 1000000=.dfr []∧env 0=.str s∧env 5=.int .i64 (i:Int)∧S'=S) (fun i=>s.length - i) 0 ?_ ?_
 ·exact⟨bf _,fun j c hj=>absurd hj ω,ss,ss,ss,ss⟩
 ·rintro i env S' ⟨hi,hall,e0,f0,f5,rfl⟩ IH
  have HI:=ab IH
  have H:=ab h
  clear IH h
  by_cases hlt:i<s.length
  ·obtain⟨c,hx⟩:∃ c,s[i]? = some c:=⟨_,ap hlt⟩
   have d0:decide ((i:Int)<(s.length:Int))=true:=by simpa using hlt
   have hw1:ae.wrap ((i:Int)+1)=((i+1:Nat):Int):=by rw [ai _ ω];omega
   by_cases hc:c.toNat=59
   ·have d1:((c.toNat:Int)==59)=true:=κ
    have h59:c=59:=mA.1 hc
    have he:=Lm hall (by rw [hx,h59])
    have hh:=H.out
    rw [he] at hh
    have hh:R (.ret (.tup [.str (s.take i),.str (s.drop (i+1)),.bool true])) S':=hh
    have b1:(i:Int)≤(s.length:Int):=ω
    have b2:((i+1:Nat):Int)≤(s.length:Int):=ω
    have hts:rg s.length s=s:=bC
    clear hc h59 he hall hi hs hlt HI H
    refine Δ0 ?_
    refine fR results129 ?_
    exact hh
   ·have d1:((c.toNat:Int)==59)=false:=κ
    have hall2:∀ j d,j<i+1→s[j]? = some d→d≠59:=fun j d hj hd=>by
     by_cases e:j=i
     ·subst e;rw [hx] at hd;cases hd;intro e2;subst e2;exact hc rfl
     ·exact hall j d ω hd
    have Hlt:=ab (a7 hlt hall2)
    clear hc hall hi hs hlt hall2
    refine ε0 ?_
    refine HI.out (i+1) _ _ (by have:=Hlt.out.1;omega) ⟨Hlt.out.1,Hlt.out.2, ?_, ?_, ?_,rfl⟩
    all_goals (simp only [go_sem, *];try rfl)
  ·have hie:i=s.length:=ω
   subst hie
   have d0:decide ((s.length:Int)<(s.length:Int))=false:=χ
   have hh:=H.out
   rw [Ll hall] at hh
   have hh:R (.ret (.tup [.str [],.str [],.bool false])) S':=hh
   clear hall hi hs hlt HI H
   refine ε0 ?_
   refine fR results129 ?_
   exact hh
def Ea(s:List UInt8):Int:=match mR s with|some n=>n|none=>-1
theorem ud{s:List UInt8}{i:Nat}{c:UInt8}(h:s[i]? = some c):kn (s.take (i+1))=kn (s.take i) * 10+(c.toNat - 48):=by
 unfold kn
 rw [jW,h,List.foldl_append];rfl
theorem Hj{s:List UInt8}{i:Nat}{c:UInt8}(h:s[i]? = some c)(hc:sY c=false):mR s=none:=by
 unfold mR
 rw [if_pos]
 refine .inr (.inr (.inl ?_))
 rw [List.all_eq_false]
 exact⟨c,ax h,by rw [hc];decide⟩
theorem Ag:∀ (i:Nat) (s:List UInt8),(∀ j c,j<i→s[j]? = some c→sY c=true)→i≤s.length→kn (s.take i)<10 ^ i
 | 0,s,_,_=>by simp [kn]
 | i+1,s,h,hl=>by
  have ih:=Ag i s (fun j c hj hc=>h j c ω hc) ω
  have hc:=h i _ ω (ap (show i<s.length by omega))
  rw [ud (ap (show i<s.length by omega))]
  unfold sY at hc
  simp at hc
  rw [mw]
  omega
theorem Gn(s:List UInt8)(R:Rt)(h:R (.ret (.int .i64 (Ea s))) S):ao prog w0 131 [.str s] S R:=by
 by_cases h0:s=[]
 ·subst h0
  have h:R (.ret (.int .i64 (-1))) S:=h
  exact γR0 func131 ntmps131 results131 h
 have d0:(s==[])=false:=by rw [beq_eq_false_iff_ne];exact h0
 by_cases h3:3<s.length
 ·have d1:decide ((3:Int)<(s.length:Int))=true:=κ
  have e:mR s=none:=by unfold mR;rw [if_pos (.inr (.inl h3))]
  unfold Ea at h
  rw [e] at h
  have h:R (.ret (.int .i64 (-1))) S:=h
  clear h0 h3 e
  exact γR0 func131 ntmps131 results131 h
 have d1:decide ((3:Int)<(s.length:Int))=false:=κ
 refine eN func131 rfl ntmps131 fun hO=>?_
 refine ε0 ?_
 refine cD (fun (i:Nat) env S'=>i≤s.length∧(∀ j c,j<i→s[j]? = some c→sY c=true)∧env 1000000=.dfr []∧env 0=.str s∧env 3=.int .i64 (kn (s.take i):Nat)∧env 4=.int .i64 (i:Int)∧S'=S) (fun i=>s.length - i) 0 ?_ ?_
 ·exact⟨bf _,fun j c hj=>absurd hj ω,ss,ss,ss,ss,ss⟩
 ·rintro i env S' ⟨hi,hall,e0,f0,f3,f4,rfl⟩ IH
  have HI:=ab IH
  have H:=ab h
  clear IH h
  have hv:=Ag i s hall hi
  have hp:10 ^ i≤1000:=gM (by decide:10>0) (show i≤3 by omega)
  by_cases hlt:i<s.length
  ·obtain⟨c,hx⟩:∃ c,s[i]? = some c:=⟨_,ap hlt⟩
   have hct:c.toNat<256:=c.toNat_lt
   have d2:decide ((i:Int)<(s.length:Int))=true:=by simpa using hlt
   have hw1:ae.wrap ((i:Int)+1)=(i:Int)+1:=ai _ ω
   cases hc:sY c with
   | false =>
    have hh:=H.out
    unfold Ea at hh
    rw [Hj hx hc] at hh
    have hh:R (.ret (.int .i64 (-1))) S':=hh
    have hq:decide ((c.toNat:Int)<48)=true∨(decide ((c.toNat:Int)<48)=false∧decide ((57:Int)<(c.toNat:Int))=true):=by
     unfold sY at hc
     simp at hc
     simp
     omega
    clear hc hall hi hlt hv hp hct h0 h3 HI H
    rcases hq with d3|⟨d3,d4⟩
    all_goals
     refine ε0 ?_
     refine fR results131 ?_
     exact hh
   | true =>
    have hall2:∀ j d,j<i+1→s[j]? = some d→sY d=true:=fun j d hj hd=>by
     by_cases e:j=i
     ·subst e;rw [hx] at hd;cases hd;exact hc
     ·exact hall j d ω hd
    have hd:48≤c.toNat∧c.toNat≤57:=by unfold sY at hc;simpa using hc
    have d3:decide ((c.toNat:Int)<48)=false:=κ
    have d4:decide ((57:Int)<(c.toNat:Int))=false:=κ
    have hsu:=ud hx
    generalize kn (s.take i)=n at f3 hsu hv
    have k1:ae.wrap (10 * (n:Int))=((10 * n:Nat):Int):=by rw [ai _ ω];omega
    have k2:a6.wrap ((c.toNat:Int) - 48)=((c.toNat - 48:Nat):Int):=by rw [cR _ ω];omega
    have k3:ae.wrap ((c.toNat - 48:Nat):Int)=((c.toNat - 48:Nat):Int):=ai _ ω
    have k4:ae.wrap (((10 * n:Nat):Int)+((c.toNat - 48:Nat):Int))=((n * 10+(c.toNat - 48):Nat):Int):=by rw [ai _ ω];omega
    have Hlt:=ab (a7 hlt (a7 hall2 hsu))
    clear hc hall hall2 hi hlt hv hp hct hd hsu h0 h3
    refine ε0 ?_
    refine HI.out (i+1) _ _ (by have:=Hlt.out.1;omega) ⟨Hlt.out.1,Hlt.out.2.1, ?_, ?_, ?_, ?_,rfl⟩
    ·exact ss
    ·exact ss
    ·rw [Hlt.out.2.2];(simp only [go_sem, *];try rfl)
    ·exact ss
  ·have hie:i=s.length:=ω
   subst hie
   rw [bC] at f3 hv
   have hal:s.all sY=true:=by
    rw [aD]
    intro c hc
    obtain⟨j,hj⟩:=aV hc
    exact hall j c (af.1 hj).1 hj
   have d2:decide ((s.length:Int)<(s.length:Int))=false:=χ
   have hh:=H.out
   unfold Ea mR at hh
   by_cases hg:255<kn s
   ·rw [if_pos (.inr (.inr (.inr hg)))] at hh
    have hh:R (.ret (.int .i64 (-1))) S':=hh
    have d3:decide ((255:Int)<((kn s:Nat):Int))=true:=κ
    clear hall hi hlt hv hp hal h0 h3 HI H hg
    refine ε0 ?_
    refine fR results131 ?_
    exact hh
   ·rw [if_neg (fun e=>by rcases e with e|e|e|e;exact h0 e;exact h3 e;(rw [hal] at e;cases e);exact hg e)] at hh
    have hh:R (.ret (.int .i64 (kn s:Nat))) S':=hh
    have d3:decide ((255:Int)<((kn s:Nat):Int))=false:=κ
    clear hall hi hlt hv hp hal h0 h3 HI H hg
    refine ε0 ?_
    refine fR results131 ?_
    exact hh
theorem vA(n:Int)(R:Rt)(h:R (.ret (.int .i64 (if 0≤n∧n≤16777215 then 0 else 130))) S):ao prog w0 89 [.agg [.int .i64 2,.int .i64 n]] S R:=by
 by_cases c1:0≤n
 ·have d1:decide (0≤n)=true:=decide_eq_true c1
  by_cases c2:n≤16777215
  ·have d2:decide (n≤16777215)=true:=decide_eq_true c2
   rw [if_pos ⟨c1,c2⟩] at h
   clear c1 c2
   exact γR0 func89 ntmps89 results89 h
  ·have d2:decide (n≤16777215)=false:=decide_eq_false c2
   rw [if_neg (fun e=>c2 e.2)] at h
   clear c1 c2
   exact γR0 func89 ntmps89 results89 h
 ·have d1:decide (0≤n)=false:=decide_eq_false c1
  rw [if_neg (fun e=>c1 e.1)] at h
  clear c1
  exact γR0 func89 ntmps89 results89 h
theorem L7(n:Int)(hn:0≤n∧n≤16777215)(R:Rt)(h:R (.ret (.tup [.int .i64 n,.bool true])) S):ao prog w0 179 [.agg [.int .i64 2,.int .i64 n]] S R:=by
 have hc:=fun S'=>vA w0 S' n
 rw [if_pos hn] at hc
 clear hn
 exact γR1 hc func179 ntmps179 results179 h
theorem Dz(n:Int)(hn:¬ (0≤n∧n≤16777215))(R:Rt)(h:R (.ret (.tup [.str [],.int .i64 130])) S):ao prog w0 91 [.agg [.int .i64 2,.int .i64 n]] S R:=by
 have hc:=fun S'=>vA w0 S' n
 rw [if_neg hn] at hc
 clear hn
 exact γR1 hc func91 ntmps91 results91 h
theorem uB:∀ a:Nat,a<16→List.drop a ((48:UInt8)::rg a [49,50,51,52,53,54,55,56,57,97,98,99,100,101,102])=[eb a]:=by decide +kernel
theorem Gl(n:Nat)(hn:n≤16777215)(R:Rt)(h:R (.ret (.tup [.str (kH n),.int .i64 0])) S):ao prog w0 91 [.agg [.int .i64 2,.int .i64 n]] S R:=by
 have hc:=fun S'=>vA w0 S' n
 rw [if_pos ω] at hc
 have hr:=fun S'=>L7 w0 S' n ω
 unfold kH at h
 have q0:ae.wrap ((n:Int).tdiv 1048576)=((n / 1048576:Nat):Int):=Bm n 1048576 ω
 have r0:((n / 1048576:Nat):Int).tmod 16=((n / 1048576 % 16:Nat):Int):=wH _ 16
 have l0:n / 1048576 % 16<16:=eh _ δ
 have q1:ae.wrap ((n:Int).tdiv 65536)=((n / 65536:Nat):Int):=Bm n 65536 ω
 have r1:((n / 65536:Nat):Int).tmod 16=((n / 65536 % 16:Nat):Int):=wH _ 16
 have l1:n / 65536 % 16<16:=eh _ δ
 have q2:ae.wrap ((n:Int).tdiv 4096)=((n / 4096:Nat):Int):=Bm n 4096 ω
 have r2:((n / 4096:Nat):Int).tmod 16=((n / 4096 % 16:Nat):Int):=wH _ 16
 have l2:n / 4096 % 16<16:=eh _ δ
 have q3:ae.wrap ((n:Int).tdiv 256)=((n / 256:Nat):Int):=Bm n 256 ω
 have r3:((n / 256:Nat):Int).tmod 16=((n / 256 % 16:Nat):Int):=wH _ 16
 have l3:n / 256 % 16<16:=eh _ δ
 have q4:ae.wrap ((n:Int).tdiv 16)=((n / 16:Nat):Int):=Bm n 16 ω
 have r4:((n / 16:Nat):Int).tmod 16=((n / 16 % 16:Nat):Int):=wH _ 16
 have l4:n / 16 % 16<16:=eh _ δ
 have q5:ae.wrap ((n:Int).tdiv 1)=((n / 1:Nat):Int):=Bm n 1 ω
 have r5:((n / 1:Nat):Int).tmod 16=((n / 1 % 16:Nat):Int):=wH _ 16
 have l5:n / 1 % 16<16:=eh _ δ
 have e0:n / 1048576=n / 1048576 % 16:=ω
 have e5:n % 16=n / 1 % 16:=by rw [Nat.div_one]
 rw [e0,e5] at h
 obtain⟨a0,h0⟩:∃ a,n / 1048576 % 16=a:=⟨_,rfl⟩
 rw [h0] at r0 l0 h
 have s0:=uB a0 l0
 have kk0:ae.wrap ((a0:Int)+1)=((a0+1:Nat):Int):=by rw [ai _ ω];omega
 have x0:((a0+1:Nat):Int)≤((16:Nat):Int):=ω
 have y0:(a0:Int)≤((a0+1:Nat):Int):=ω
 obtain⟨a1,h1⟩:∃ a,n / 65536 % 16=a:=⟨_,rfl⟩
 rw [h1] at r1 l1 h
 have s1:=uB a1 l1
 have kk1:ae.wrap ((a1:Int)+1)=((a1+1:Nat):Int):=by rw [ai _ ω];omega
 have x1:((a1+1:Nat):Int)≤((16:Nat):Int):=ω
 have y1:(a1:Int)≤((a1+1:Nat):Int):=ω
 obtain⟨a2,h2⟩:∃ a,n / 4096 % 16=a:=⟨_,rfl⟩
 rw [h2] at r2 l2 h
 have s2:=uB a2 l2
 have kk2:ae.wrap ((a2:Int)+1)=((a2+1:Nat):Int):=by rw [ai _ ω];omega
 have x2:((a2+1:Nat):Int)≤((16:Nat):Int):=ω
 have y2:(a2:Int)≤((a2+1:Nat):Int):=ω
 obtain⟨a3,h3⟩:∃ a,n / 256 % 16=a:=⟨_,rfl⟩
 rw [h3] at r3 l3 h
 have s3:=uB a3 l3
 have kk3:ae.wrap ((a3:Int)+1)=((a3+1:Nat):Int):=by rw [ai _ ω];omega
 have x3:((a3+1:Nat):Int)≤((16:Nat):Int):=ω
 have y3:(a3:Int)≤((a3+1:Nat):Int):=ω
 obtain⟨a4,h4⟩:∃ a,n / 16 % 16=a:=⟨_,rfl⟩
 rw [h4] at r4 l4 h
 have s4:=uB a4 l4
 have kk4:ae.wrap ((a4:Int)+1)=((a4+1:Nat):Int):=by rw [ai _ ω];omega
 have x4:((a4+1:Nat):Int)≤((16:Nat):Int):=ω
 have y4:(a4:Int)≤((a4+1:Nat):Int):=ω
 obtain⟨a5,h5⟩:∃ a,n / 1 % 16=a:=⟨_,rfl⟩
 rw [h5] at r5 l5 h
 have s5:=uB a5 l5
 have kk5:ae.wrap ((a5:Int)+1)=((a5+1:Nat):Int):=by rw [ai _ ω];omega
 have x5:((a5+1:Nat):Int)≤((16:Nat):Int):=ω
 have y5:(a5:Int)≤((a5+1:Nat):Int):=ω
 clear hn e0 e5 h0 l0 h1 l1 h2 l2 h3 l3 h4 l4 h5 l5
 refine eN func91 rfl ntmps91 fun hO=>?_
 repeat' first|refine st ?_|(refine ca ?_;first|apply hc|apply hr)|(refine br ?_ ?_<;>intro hb)|apply cS|apply gn|refine sd ?_|apply aw|(apply aF;(· decide +kernel))|refine bd ?_ ?_|(refine cd ?_;first|apply hc|apply hr)|fail
 refine fR results91 ?_
 exact h
def Lg(c:UInt8):Int:=match ec c with|some d=>d|none=>-1
theorem J9(c:UInt8)(R:Rt)(h:R (.ret (.int .i64 (Lg c))) S):ao prog w0 199 [.int .u8 c.toNat] S R:=by
 have hct:c.toNat<256:=c.toNat_lt
 unfold Lg at h
 by_cases c1:48≤c.toNat∧c.toNat≤57
 ·have e:ec c=some (c.toNat - 48):=by unfold ec;rw [if_pos c1]
  rw [e] at h
  have h:R (.ret (.int .i64 ((c.toNat - 48:Nat):Int))) S:=h
  have d1:decide ((48:Int)≤(c.toNat:Int))=true:=κ
  have d2:decide ((c.toNat:Int)≤57)=true:=κ
  have k1:a6.wrap ((c.toNat:Int) - 48)=((c.toNat - 48:Nat):Int):=by rw [cR _ ω];omega
  have k2:ae.wrap ((c.toNat - 48:Nat):Int)=((c.toNat - 48:Nat):Int):=ai _ ω
  clear e c1 hct
  exact γR0 func199 ntmps199 results199 h
 have q1:decide ((48:Int)≤(c.toNat:Int))=false∨(decide ((48:Int)≤(c.toNat:Int))=true∧decide ((c.toNat:Int)≤57)=false):=κ
 by_cases c2:97≤c.toNat∧c.toNat≤102
 ·have e:ec c=some (c.toNat - 87):=by unfold ec;rw [if_neg c1,if_pos c2]
  rw [e] at h
  have h:R (.ret (.int .i64 ((c.toNat - 87:Nat):Int))) S:=h
  have d3:decide ((97:Int)≤(c.toNat:Int))=true:=κ
  have d4:decide ((c.toNat:Int)≤102)=true:=κ
  have k1:a6.wrap ((c.toNat:Int) - 97)=((c.toNat - 97:Nat):Int):=by rw [cR _ ω];omega
  have k2:ae.wrap ((c.toNat - 97:Nat):Int)=((c.toNat - 97:Nat):Int):=ai _ ω
  have k3:ae.wrap (((c.toNat - 97:Nat):Int)+10)=((c.toNat - 87:Nat):Int):=by rw [ai _ ω];omega
  clear e c1 c2 hct
  rcases q1 with d1|⟨d1,d2⟩
  all_goals
   exact γR0 func199 ntmps199 results199 h
 have q2:decide ((97:Int)≤(c.toNat:Int))=false∨(decide ((97:Int)≤(c.toNat:Int))=true∧decide ((c.toNat:Int)≤102)=false):=κ
 by_cases c3:65≤c.toNat∧c.toNat≤70
 ·have e:ec c=some (c.toNat - 55):=by unfold ec;rw [if_neg c1,if_neg c2,if_pos c3]
  rw [e] at h
  have h:R (.ret (.int .i64 ((c.toNat - 55:Nat):Int))) S:=h
  have d5:decide ((65:Int)≤(c.toNat:Int))=true:=κ
  have d6:decide ((c.toNat:Int)≤70)=true:=κ
  have k1:a6.wrap ((c.toNat:Int) - 65)=((c.toNat - 65:Nat):Int):=by rw [cR _ ω];omega
  have k2:ae.wrap ((c.toNat - 65:Nat):Int)=((c.toNat - 65:Nat):Int):=ai _ ω
  have k3:ae.wrap (((c.toNat - 65:Nat):Int)+10)=((c.toNat - 55:Nat):Int):=by rw [ai _ ω];omega
  clear e c1 c2 c3 hct
  rcases q1 with d1|⟨d1,d2⟩
  all_goals
   rcases q2 with d3|⟨d3,d4⟩
   all_goals
    exact γR0 func199 ntmps199 results199 h
 have q3:decide ((65:Int)≤(c.toNat:Int))=false∨(decide ((65:Int)≤(c.toNat:Int))=true∧decide ((c.toNat:Int)≤70)=false):=κ
 have e:ec c=none:=by unfold ec;rw [if_neg c1,if_neg c2,if_neg c3]
 rw [e] at h
 have h:R (.ret (.int .i64 (-1))) S:=h
 clear e c1 c2 c3 hct
 rcases q1 with d1|⟨d1,d2⟩
 all_goals
  rcases q2 with d3|⟨d3,d4⟩
  all_goals
   rcases q3 with d5|⟨d5,d6⟩
   all_goals
    exact γR0 func199 ntmps199 results199 h
def kZ:List UInt8:=[114,103,98,58,48,48,47,48,48,47,48,48]
def lJ:List UInt8→List UInt8→Nat→Option Nat
 | h::hs,c::cs,n=>if h=48 then (match ec c with|some d=>lJ hs cs (16 * n+d)|none=>none) else if c=h then lJ hs cs n else none
 | [],[],n=>some n
 | _,_,_=>none
theorem Cd{s:List UInt8}(h:s.length=12):iW s=lJ kZ s 0:=by
 match s,h with
 | [p0,p1,p2,p3,a,b,q,c,d,r,e,f],_ =>
  have eL:iW [p0,p1,p2,p3,a,b,q,c,d,r,e,f]=if p0=114∧p1=103∧p2=98∧p3=58∧q=47∧r=47 then
   (match iV a b,iV c d,iV e f with
   | some x,some y,some z=>some (x * 65536+y * 256+z)
   | _,_,_=>none) else none:=rfl
  have eR:lJ kZ [p0,p1,p2,p3,a,b,q,c,d,r,e,f] 0=if p0=114 then if p1=103 then if p2=98 then if p3=58 then
    (match ec a with
    | some x0=>(match ec b with
     | some x1=>if q=47 then (match ec c with
      | some x2=>(match ec d with
       | some x3=>if r=47 then (match ec e with
        | some x4=>(match ec f with
         | some x5=>some (16 * (16 * (16 * (16 * (16 * (16 * 0+x0)+x1)+x2)+x3)+x4)+x5)
         | none=>none)
        | none=>none) else none
       | none=>none)
      | none=>none) else none
     | none=>none)
    | none=>none) else none else none else none else none:=rfl
  rw [eL,eR]
  unfold iV
  by_cases hh:p0=114∧p1=103∧p2=98∧p3=58∧q=47∧r=47
  ·rw [if_pos hh]
   obtain⟨h0,h1,h2,h3,h4,h5⟩:=hh
   subst h0 h1 h2 h3 h4 h5
   generalize ec a=a
   generalize ec b=b
   generalize ec c=c
   generalize ec d=d
   generalize ec e=e
   generalize ec f=f
   cases a with
   | none=>rfl
   | some a=>cases b with
    | none=>rfl
    | some b=>cases c with
     | none=>rfl
     | some c=>cases d with
      | none=>rfl
      | some d=>cases e with
       | none=>rfl
       | some e=>cases f with
        | none=>rfl
        | some f =>
         show some ((a * 16+b) * 65536+(c * 16+d) * 256+(e * 16+f))=some (16 * (16 * (16 * (16 * (16 * (16 * 0+a)+b)+c)+d)+e)+f)
         congr 1;omega
  ·rw [if_neg hh]
   repeat' split
   all_goals first
    | rfl
    | exact absurd ⟨by assumption,by assumption,by assumption,by assumption,by assumption,by assumption⟩ hh
theorem Iv{s:List UInt8}(h:s.length≠12):iW s=none:=by
 unfold iW
 split
 ·exact absurd rfl h
 ·rfl
def ER:Option Nat→AV
 | some n=>.tup [.agg [.int .i64 2,.int .i64 n],.int .i64 0]
 | none=>.tup [.agg [.int .i64 0,.int .i64 0],.int .i64 6]
theorem AB(s:List UInt8)(R:Rt)(h:R (.ret (ER (iW s))) S):ao prog w0 130 [.str s] S R:=by
 by_cases hl:s.length=12
 case neg =>
  have d0:((s.length:Int) != 12)=true:=κ
  rw [Iv hl] at h
  have h:R (.ret (.tup [.agg [.int .i64 0,.int .i64 0],.int .i64 6])) S:=h
  clear hl
  exact γR0 func130 ntmps130 results130 h
 have d0:((s.length:Int) != 12)=false:=κ
 rw [Cd hl] at h
 refine eN func130 rfl ntmps130 fun hO=>?_
 refine ε0 ?_
 refine cD (fun (q:Nat × Nat) env S'=>q.1≤12∧q.2<16 ^ q.1∧lJ (kZ.drop q.1) (s.drop q.1) q.2=lJ kZ s 0∧env 1000000=.dfr []∧env 0=.str s∧env 2=.own S.length 0∧env 4=.int .i64 (q.2:Nat)∧env 5=.int .i64 (q.1:Nat)∧S'=S++[aH.cells [.int .i64 0,.int .i64 0]]) (fun q=>12 - q.1) (0,0) ?_ ?_
 ·exact⟨bf _,δ,rfl,ss,ss,ss,ss,ss,rfl⟩
 ·rintro⟨i,n⟩ env S' ⟨hi,hn,hsh,e0,f0,f2,f4,f5,rfl⟩ IH
  simp only at hi hn hsh f4 f5
  have HI:=ab IH
  have H:=ab h
  clear IH h
  have hp:16 ^ i≤281474976710656:=gM (by decide:16>0) (show i≤12 from hi)
  by_cases hlt:i<12
  ·obtain⟨c,hx⟩:∃ c,s[i]? = some c:=⟨_,ap ω⟩
   obtain⟨k,hk⟩:∃ k,([114,103,98,58,48,48,47,48,48,47,48,48]:List UInt8)[i]? = some k:=⟨_,ap (by simpa using hlt)⟩
   have d1:decide ((i:Int)<(s.length:Int))=true:=by rw [hl];simp;omega
   have hw1:ae.wrap ((i:Int)+1)=((i+1:Nat):Int):=by rw [ai _ ω];omega
   have ed:s.drop i=c::s.drop (i+1):=by rw [qK ω,(af.1 hx).2]
   have ek:kZ.drop i=k::kZ.drop (i+1):=by rw [qK (by simpa [kZ] using hlt)];congr 1;exact(af.1 hk).2
   rw [ed,ek,lJ] at hsh
   have bad:lJ kZ s 0=none→R (.ret (.tup [.agg [.int .i64 0,.int .i64 0],.int .i64 6])) S:=fun e=>by
    have:=H.out
    rw [e] at this
    exact this
   have Bad:=ab bad
   by_cases h48:k=48
   ·have d2:((k.toNat:Int) != 48)=false:=by rw [h48];rfl
    rw [if_pos h48] at hsh
    have hdg:=fun S'=>J9 w0 S' c
    unfold Lg at hdg
    cases hd:ec c with
    | none =>
     rw [hd] at hdg hsh
     have hh:=Bad.out hsh.symm
     clear hd hsh h48 bad ed ek hp hn hi hlt HI H hl
     refine ε1 hdg ?_
     refine fR results130 ?_
     exact hh
    | some g =>
     rw [hd] at hdg hsh
     have hg:=pp hd
     have d3:decide ((g:Int)<0)=false:=decide_eq_false ω
     have k1:ae.wrap (16 * (n:Int))=((16 * n:Nat):Int):=by rw [ai _ ω];omega
     have k2:ae.wrap (((16 * n:Nat):Int)+(g:Int))=((16 * n+g:Nat):Int):=by rw [ai _ ω];omega
     have hn2:16 * n+g<16 ^ (i+1):=by rw [mw];omega
     have Hf:=ab (a7 hlt (a7 hn2 hsh))
     clear hd hsh h48 bad ed ek hp hn hn2 hi hlt hg hl
     refine ε1 hdg ?_
     obtain⟨hlt,hn2,hsh⟩:=Hf.out
     refine bX hO 1 [0,2,4,5] rfl ss ss ss ?_
     simp only [aR,aO]
     refine HI.out (i+1,16 * n+g) _ _ (by simp only;omega) ⟨hlt,hn2,hsh, ?_, ?_, ?_, ?_, ?_,rfl⟩
     all_goals (simp only [go_sem, *];try rfl)
   ·have d2:((k.toNat:Int) != 48)=true:=by
     rw [bne_iff_ne]
     intro e
     exact h48 (mA.1 (by simpa using tG e))
    rw [if_neg h48] at hsh
    by_cases hck:c=k
    ·have d3:((c.toNat:Int) != (k.toNat:Int))=false:=by rw [hck];simp
     rw [if_pos hck] at hsh
     have hn2:n<16 ^ (i+1):=by rw [mw];omega
     have Hf:=ab (a7 hlt (a7 hn2 hsh))
     clear hck hsh h48 bad ed ek hp hn hn2 hi hlt hl
     refine Δ0 ?_
     obtain⟨hlt,hn2,hsh⟩:=Hf.out
     refine bX hO 1 [0,2,4,5] rfl ss ss ss ?_
     simp only [aR,aO]
     refine HI.out (i+1,n) _ _ (by simp only;omega) ⟨hlt,hn2,hsh, ?_, ?_, ?_, ?_, ?_,rfl⟩
     all_goals (simp only [go_sem, *];try rfl)
    ·have d3:((c.toNat:Int) != (k.toNat:Int))=true:=by
      rw [bne_iff_ne]
      intro e
      exact hck (mA.1 (tG e))
     rw [if_neg hck] at hsh
     have hh:=Bad.out hsh.symm
     clear hck hsh h48 bad ed ek hp hn hi hlt HI H hl
     refine Δ0 ?_
     refine fR results130 ?_
     exact hh
  ·have hie:i=12:=ω
   subst hie
   have e1:kZ.drop 12=[]:=rfl
   have e2:s.drop 12=[]:=Fw ω
   rw [e1,e2] at hsh
   have hsh:some n=lJ kZ s 0:=hsh
   have hh:=H.out
   rw [← hsh] at hh
   have hh:R (.ret (.tup [.agg [.int .i64 2,.int .i64 n],.int .i64 0])) S:=hh
   have d1:decide (((12:Nat):Int)<(s.length:Int))=false:=by rw [hl];first|done|rfl
   clear hi hn hsh hp hlt HI H hl e1 e2
   refine ε0 ?_
   refine fR results130 ?_
   exact hh
def CS(c:UInt8):Int:=match ja c with|some v=>v|none=>-1
theorem Jx{c:UInt8}{i:Nat}(h:∀ j x,j<i→jM[j]? = some x→x≠c)(hi:jM[i]? = some c):ja c=some i:=by
 unfold ja
 rw [List.findIdx?_eq_some_iff_getElem]
 obtain⟨h1,h2⟩:=af.1 hi
 refine⟨h1,by simp [h2],fun j hj=>?_⟩
 have:=h j _ hj (ap ω)
 simpa using this
theorem Jw{c:UInt8}(h:∀ j x,j<64→jM[j]? = some x→x≠c):ja c=none:=by
 unfold ja
 rw [List.findIdx?_eq_none_iff]
 intro x hx
 obtain⟨j,hj⟩:=aV hx
 have:=h j x (af.1 hj).1 hj
 simpa using this
theorem Dx(c:UInt8)(R:Rt)(h:R (.ret (.int .i64 (CS c))) S):ao prog w0 200 [.int .u8 c.toNat] S R:=by
 refine eN func200 rfl ntmps200 fun hO=>?_
 refine ε0 ?_
 refine cD (fun (i:Nat) env S'=>i≤64∧(∀ j x,j<i→jM[j]? = some x→x≠c)∧env 1000000=.dfr []∧env 0=.int .u8 c.toNat∧env 3=.int .i64 (i:Int)∧S'=S) (fun i=>64 - i) 0 ?_ ?_
 ·exact⟨bf _,fun j c hj=>absurd hj ω,ss,ss,ss,ss⟩
 ·rintro i env S' ⟨hi,hall,e0,f0,f3,rfl⟩ IH
  have HI:=ab IH
  have H:=ab h
  clear IH h
  by_cases hlt:i<64
  ·obtain⟨k,hk⟩:∃ k,([65,66,67,68,69,70,71,72,73,74,75,76,77,78,79,80,81,82,83,84,85,86,87,88,89,90,97,98,99,100,101,102,103,104,105,106,107,108,109,110,111,112,113,114,115,116,117,118,119,120,121,122,48,49,50,51,52,53,54,55,56,57,43,47]:List UInt8)[i]? = some k:=⟨_,ap (by simpa using hlt)⟩
   have d0:decide ((i:Int)<64)=true:=κ
   have hw1:ae.wrap ((i:Int)+1)=((i+1:Nat):Int):=by rw [ai _ ω];omega
   by_cases hkc:k=c
   ·have d1:((k.toNat:Int)==(c.toNat:Int))=true:=by rw [hkc];simp
    have e:=Jx hall (by rw [← hkc];exact hk)
    have hh:=H.out
    unfold CS at hh
    rw [e] at hh
    have hh:R (.ret (.int .i64 (i:Int))) S':=hh
    clear hkc e hall hi hlt HI H
    refine ε0 ?_
    refine fR results200 ?_
    exact hh
   ·have d1:((k.toNat:Int)==(c.toNat:Int))=false:=by
     rw [beq_eq_false_iff_ne]
     intro e
     exact hkc (mA.1 (tG e))
    have hall2:∀ j x,j<i+1→jM[j]? = some x→x≠c:=fun j x hj hx=>by
     by_cases e:j=i
     ·subst e
      have:jM[j]? = some k:=hk
      rw [this] at hx;cases hx;exact hkc
     ·exact hall j x ω hx
    have Hlt:=ab (a7 hlt hall2)
    clear hkc hall hall2 hi hlt
    refine ε0 ?_
    refine HI.out (i+1) _ _ (by have:=Hlt.out.1;omega) ⟨Hlt.out.1,Hlt.out.2, ?_, ?_, ?_,rfl⟩
    all_goals (simp only [go_sem, *];try rfl)
  ·have hie:i=64:=ω
   subst hie
   have d0:decide (((64:Nat):Int)<64)=false:=δ
   have hh:=H.out
   unfold CS at hh
   rw [Jw hall] at hh
   have hh:R (.ret (.int .i64 (-1))) S':=hh
   clear hall hi hlt HI H
   refine ε0 ?_
   refine fR results200 ?_
   exact hh
def GL(s:List Nat)(p:Nat):Nat→Nat
 | 0=>0
 | t+1=>2 * GL s p t+k9 s (p+t)
theorem GK(s:List Nat)(p:Nat):GL s p 6=jA s p:=rfl
theorem Ls(s:List Nat)(k:Nat):k9 s k<2:=by
 unfold k9
 split
 ·exact eh _ δ
 ·decide
theorem y_(s:List Nat)(p:Nat):∀ t,GL s p t<2 ^ t
 | 0=>by simp [GL]
 | t+1=>by
  have:=y_ s p t
  have:=Ls s (p+t)
  rw [GL,mw]
  omega
theorem Kk:∀ m:Nat,m<8→([AV.int .i64 128,.int .i64 64,.int .i64 32,.int .i64 16,.int .i64 8,.int .i64 4,.int .i64 2,.int .i64 1]:List AV)[m]? = some (.int .i64 ((2 ^ (7 - m):Nat):Int)):=by
 intro m hm
 match m,hm with
 | 0,_=>rfl
 | 1,_=>rfl
 | 2,_=>rfl
 | 3,_=>rfl
 | 4,_=>rfl
 | 5,_=>rfl
 | 6,_=>rfl
 | 7,_=>rfl
theorem FI:∀ v,v<64→([65,66,67,68,69,70,71,72,73,74,75,76,77,78,79,80,81,82,83,84,85,86,87,88,89,90,97,98,99,100,101,102,103,104,105,106,107,108,109,110,111,112,113,114,115,116,117,118,119,120,121,122,48,49,50,51,52,53,54,55,56,57,43,47]:List UInt8)[v]? = some (bt v):=by decide +kernel
theorem Ih{s:List UInt8}{j:Nat}(h:6 * j<8 * s.length):jA (s.map aK) (6 * j)<64∧(gx s)[j]? = some (bt (jA (s.map aK) (6 * j))):=by
 have e:=AQ (s.map aK) (toNat_lt s) j
 rw [if_pos (by simpa using h)] at e
 refine⟨y_ _ _ 6, ?_⟩
 unfold gx
 rw [aJ,e]
 rfl
end Go.Proofs.YthdbijpefkapnaaGreatDoor
