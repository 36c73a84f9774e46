/- YthdbijpefkapnaaGreatDoorWalk4: a part of the proof. -/
import Derived.Test.YthdbijpefkapnaaGreatDoorWalk3
import Derived.Test.YthdbijpefkapnaaGreatDoorWalk1
set_option linter.all false
set_option maxHeartbeats 40000000
open And renaming intro → a6
open Bool renaming and_eq_true → ao, eq_iff_iff → eB, false_and → bK, not_eq_false' → aE, not_eq_true' → aw, true_and → bL
open Go.IntKind renaming i64 → ae, u8 → aX
open Go.IntWalk renaming i64_in → ah, u8_in → di
open Go.Lib renaming hid → ab
open Int renaming tdiv_eq_ediv_of_nonneg → vG, tmod_eq_emod_of_nonneg → yW
open Int.ofNat renaming inj → sE
open List renaming all_eq_true → aC, drop_eq_getElem_cons → p9, drop_eq_nil_of_le → Es, getElem?_eq_getElem → al, getElem?_eq_some_iff → af, getElem?_map → aI, getElem?_of_mem → aQ, getElem?_take → a_, mem_cons_of_mem → gY, mem_of_getElem? → ax, take → pi, take_add_one → sC, take_length → bt, take_succ_cons → aZ, take_zero → aP, toList_toArray → bg
open Nat renaming div_div_eq_div_mul → mI, mod_lt → dY, pow_le_pow_right → gw, pow_succ → lS, reduceMul → Bx, zero_le → bf
open UInt8 renaming ofNat → ay, toNat → aJ, toNat_inj → lW
namespace Go.Proofs.YthdbijpefkapnaaGreatDoor
open Go Go.Fen Go.Proofs.Tryz
attribute [local irreducible] aW WP aj dS jl cQ aV cV
set_option maxRecDepth 8000
variable (w0:World) (S:List aH)
def nk(cp:Nat):Nat:=if cp<128 then 1 else if cp<2048 then 2 else if cp<65536 then 3 else 4
theorem CK(cp:Nat)(R:Rt)(h:R (.ret (.bool (sG cp))) S):aj prog w0 181 [.int .i64 cp] S R:=by
 have d0:decide ((0:Int)≤(cp:Int))=true:=by simp
 by_cases c1:cp≤1114111
 ·have d1:decide ((cp:Int)≤1114111)=true:=by simp;omega
  by_cases c2:cp<55296
  ·have d2:decide ((cp:Int)<55296)=true:=by simp;omega
   have e:sG cp=true:=by unfold sG;simp;omega
   rw [e] at h
   clear e c1 c2
   refine eN func181 rfl ntmps181 fun hO=>?_
   repeat' first|refine st ?_|(refine br ?_ ?_<;>intro hb)|fail
   refine fR results181 ?_
   exact h
  ·have d2:decide ((cp:Int)<55296)=false:=by simp;omega
   by_cases c3:57343<cp
   ·have d3:decide ((57343:Int)<(cp:Int))=true:=by simp;omega
    have e:sG cp=true:=by unfold sG;simp;omega
    rw [e] at h
    clear e c1 c2 c3
    refine eN func181 rfl ntmps181 fun hO=>?_
    repeat' first|refine st ?_|(refine br ?_ ?_<;>intro hb)|fail
    refine fR results181 ?_
    exact h
   ·have d3:decide ((57343:Int)<(cp:Int))=false:=by simp;omega
    have e:sG cp=false:=by unfold sG;simp;omega
    rw [e] at h
    clear e c1 c2 c3
    refine eN func181 rfl ntmps181 fun hO=>?_
    repeat' first|refine st ?_|(refine br ?_ ?_<;>intro hb)|fail
    refine fR results181 ?_
    exact h
 ·have d1:decide ((cp:Int)≤1114111)=false:=by simp;omega
  have e:sG cp=false:=by unfold sG;simp;omega
  rw [e] at h
  clear e c1
  refine eN func181 rfl ntmps181 fun hO=>?_
  repeat' first|refine st ?_|(refine br ?_ ?_<;>intro hb)|fail
  refine fR results181 ?_
  exact h
theorem G8(cp:Nat)(R:Rt)(h:R (.ret (.int .i64 (nk cp:Nat))) S):aj prog w0 267 [.int .i64 cp] S R:=by
 by_cases c1:cp<128
 ·have d1:decide ((cp:Int)<128)=true:=by simp;omega
  have e:nk cp=1:=by unfold nk;rw [if_pos c1]
  rw [e] at h
  have h:R (.ret (.int .i64 1)) S:=h
  clear e c1
  refine eN func267 rfl ntmps267 fun hO=>?_
  repeat' first|refine st ?_|(refine br ?_ ?_<;>intro hb)|fail
  refine fR results267 ?_
  exact h
 have d1:decide ((cp:Int)<128)=false:=by simp;omega
 by_cases c2:cp<2048
 ·have d2:decide ((cp:Int)<2048)=true:=by simp;omega
  have e:nk cp=2:=by unfold nk;rw [if_neg c1,if_pos c2]
  rw [e] at h
  have h:R (.ret (.int .i64 2)) S:=h
  clear e c1 c2
  refine eN func267 rfl ntmps267 fun hO=>?_
  repeat' first|refine st ?_|(refine br ?_ ?_<;>intro hb)|fail
  refine fR results267 ?_
  exact h
 have d2:decide ((cp:Int)<2048)=false:=by simp;omega
 by_cases c3:cp<65536
 ·have d3:decide ((cp:Int)<65536)=true:=by simp;omega
  have e:nk cp=3:=by unfold nk;rw [if_neg c1,if_neg c2,if_pos c3]
  rw [e] at h
  have h:R (.ret (.int .i64 3)) S:=h
  clear e c1 c2 c3
  refine eN func267 rfl ntmps267 fun hO=>?_
  repeat' first|refine st ?_|(refine br ?_ ?_<;>intro hb)|fail
  refine fR results267 ?_
  exact h
 have d3:decide ((cp:Int)<65536)=false:=by simp;omega
 have e:nk cp=4:=by unfold nk;rw [if_neg c1,if_neg c2,if_neg c3]
 rw [e] at h
 have h:R (.ret (.int .i64 4)) S:=h
 clear e c1 c2 c3
 refine eN func267 rfl ntmps267 fun hO=>?_
 repeat' first|refine st ?_|(refine br ?_ ?_<;>intro hb)|fail
 refine fR results267 ?_
 exact h
theorem Ip(c:Nat):(c:Int).tmod 64=((c % 64:Nat):Int):=by rw [yW (by omega)];omega
theorem Iq(c:Nat)(h:c<4294967296):ae.wrap ((c:Int).tdiv 64)=((c / 64:Nat):Int):=by
 rw [vG (by omega),ah _ (by omega)];omega
theorem H8(c:Nat):ae.wrap (128+((c % 64:Nat):Int))=((128+c % 64:Nat):Int):=by rw [ah _ (by omega)];omega
theorem H4(c:Nat):aX.wrap ((128+c % 64:Nat):Int)=((128+c % 64:Nat):Int):=di _ (by omega)
theorem Mc(cp:Nat)(hb:cp<4294967296)(R:Rt)(h:R (.ret (.str (pC cp))) S):aj prog w0 224 [.int .i64 cp] S R:=by
 have hck:=fun S'=>CK w0 S' cp
 unfold pC sL at h
 cases hok:sG cp with
 | false =>
  rw [hok,if_neg (by decide)] at h
  rw [hok] at hck
  have h:R (.ret (.str [239,191,189])) S:=h
  have hsz:∀ S' (R:Rt),R (.ret (.int .i64 3)) S'→aj prog w0 267 [.int .i64 65533] S' R:=fun S' R hr=>G8 w0 S' 65533 R hr
  have z1:(65533:Int).tmod 64=61:=by decide
  have z2:ae.wrap ((65533:Int).tdiv 64)=1023:=by decide
  have z3:(1023:Int).tmod 64=63:=by decide
  have z4:ae.wrap ((1023:Int).tdiv 64)=15:=by decide
  clear hb hok
  refine eN func224 rfl ntmps224 fun hO=>?_
  repeat' first|refine st ?_|(refine ca ?_;first|apply hck|apply hsz)|(refine br ?_ ?_<;>intro hb)|apply cT|apply fZ|fail
  refine fR results224 ?_
  exact h
 | true =>
  rw [hok,if_pos rfl] at h
  rw [hok] at hck
  have hle:cp≤1114111:=by
   simp only [sG,ao,decide_eq_true_eq] at hok
   exact hok.1
  have hsz:=fun S'=>G8 w0 S' cp
  have t0:=Ip cp
  have t1:=Ip (cp / 64)
  have t2:=Ip (cp / 64 / 64)
  have q0:=Iq cp hb
  have q1:=Iq (cp / 64) (by omega)
  have q2:=Iq (cp / 64 / 64) (by omega)
  have b0:=H8 cp
  have b1:=H8 (cp / 64)
  have b2:=H8 (cp / 64 / 64)
  have u0:=H4 cp
  have u1:=H4 (cp / 64)
  have u2:=H4 (cp / 64 / 64)
  clear hok hb
  unfold nk at hsz
  by_cases h1:cp<128
  ·have e:kh cp=[cp]:=by unfold kh;rw [if_pos h1]
   rw [e] at h
   rw [if_pos h1] at hsz
   have hsz:∀ S' (R:Rt),R (.ret (.int .i64 1)) S'→aj prog w0 267 [.int .i64 cp] S' R:=hsz
   have wc:aX.wrap (cp:Int)=(cp:Int):=di _ (by omega)
   have h:R (.ret (.str [ay cp])) S:=h
   clear e h1 hle t0 t1 t2 q0 q1 q2 b0 b1 b2 u0 u1 u2
   refine eN func224 rfl ntmps224 fun hO=>?_
   repeat' first|refine st ?_|(refine ca ?_;first|apply hck|apply hsz)|(refine br ?_ ?_<;>intro hb)|fail
   refine fR results224 ?_
   exact h
  by_cases h2:cp<2048
  ·have e:kh cp=[192+cp / 64,128+cp % 64]:=by unfold kh;rw [if_neg h1,if_pos h2];try simp only [mI,Bx]
   rw [e] at h
   rw [if_neg h1,if_pos h2] at hsz
   have hsz:∀ S' (R:Rt),R (.ret (.int .i64 2)) S'→aj prog w0 267 [.int .i64 cp] S' R:=hsz
   obtain⟨tp,htp⟩:∃ tp,cp / 64=tp:=⟨_,rfl⟩
   have wt:ae.wrap (192+(tp:Int))=((192+tp:Nat):Int):=by rw [ah _ (by omega)];omega
   have wu:aX.wrap ((192+tp:Nat):Int)=((192+tp:Nat):Int):=di _ (by omega)
   rw [htp] at q0 h
   have h:R (.ret (.str [ay (192+tp),ay (128+cp % 64)])) S:=h
   clear e hle htp h1 h2 t1 t2 q1 q2 b1 b2 u1 u2
   refine eN func224 rfl ntmps224 fun hO=>?_
   repeat' first|refine st ?_|(refine ca ?_;first|apply hck|apply hsz)|(refine br ?_ ?_<;>intro hb)|apply cT|apply fZ|fail
   refine fR results224 ?_
   exact h
  by_cases h3:cp<65536
  ·have e:kh cp=[224+cp / 64 / 64,128+cp / 64 % 64,128+cp % 64]:=by unfold kh;rw [if_neg h1,if_neg h2,if_pos h3];try simp only [mI,Bx]
   rw [e] at h
   rw [if_neg h1,if_neg h2,if_pos h3] at hsz
   have hsz:∀ S' (R:Rt),R (.ret (.int .i64 3)) S'→aj prog w0 267 [.int .i64 cp] S' R:=hsz
   obtain⟨tp,htp⟩:∃ tp,cp / 64 / 64=tp:=⟨_,rfl⟩
   have wt:ae.wrap (224+(tp:Int))=((224+tp:Nat):Int):=by rw [ah _ (by omega)];omega
   have wu:aX.wrap ((224+tp:Nat):Int)=((224+tp:Nat):Int):=di _ (by omega)
   rw [htp] at q1 h
   have h:R (.ret (.str [ay (224+tp),ay (128+cp / 64 % 64),ay (128+cp % 64)])) S:=h
   clear e hle htp h1 h2 h3 t2 q2 b2 u2
   refine eN func224 rfl ntmps224 fun hO=>?_
   repeat' first|refine st ?_|(refine ca ?_;first|apply hck|apply hsz)|(refine br ?_ ?_<;>intro hb)|apply cT|apply fZ|fail
   refine fR results224 ?_
   exact h
  have e:kh cp=[240+cp / 64 / 64 / 64,128+cp / 64 / 64 % 64,128+cp / 64 % 64,128+cp % 64]:=by unfold kh;rw [if_neg h1,if_neg h2,if_neg h3];try simp only [mI,Bx]
  rw [e] at h
  rw [if_neg h1,if_neg h2,if_neg h3] at hsz
  have hsz:∀ S' (R:Rt),R (.ret (.int .i64 4)) S'→aj prog w0 267 [.int .i64 cp] S' R:=hsz
  obtain⟨tp,htp⟩:∃ tp,cp / 64 / 64 / 64=tp:=⟨_,rfl⟩
  have wt:ae.wrap (240+(tp:Int))=((240+tp:Nat):Int):=by rw [ah _ (by omega)];omega
  have wu:aX.wrap ((240+tp:Nat):Int)=((240+tp:Nat):Int):=di _ (by omega)
  rw [htp] at q2 h
  have h:R (.ret (.str [ay (240+tp),ay (128+cp / 64 / 64 % 64),ay (128+cp / 64 % 64),ay (128+cp % 64)])) S:=h
  clear e hle htp h1 h2 h3
  refine eN func224 rfl ntmps224 fun hO=>?_
  repeat' first|refine st ?_|(refine ca ?_;first|apply hck|apply hsz)|(refine br ?_ ?_<;>intro hb)|apply cT|apply fZ|fail
  refine fR results224 ?_
  exact h
theorem Kw(l:List Nat)(hb:∀ c∈l,c<4294967296)(hl:l.length≤100000000)(R:Rt)(h:R (.ret (.str (fj l))) S):aj prog w0 178 [.sval false (l.map Co)] S R:=by
 refine eN func178 rfl ntmps178 fun hO=>?_
 repeat' first|refine st ?_|(refine br ?_ ?_<;>intro hb)|fail
 refine cW (fun (i:Nat) env S'=>i≤l.length∧env 1000000=.dfr []∧env 0=.sval false (l.map Co)∧env 3=.str (fj (l.take i))∧env 4=.int .i64 (i:Int)∧S'=S) (fun i=>l.length - i) 0 ?_ ?_
 ·exact⟨bf _,ss,ss,ss,ss,ss⟩
 ·rintro i env S' ⟨hi,e0,f0,f3,f4,rfl⟩ IH
  have HI:=ab IH
  have H:=ab h
  clear IH h
  by_cases hlt:i<l.length
  ·obtain⟨c,hx⟩:∃ c,l[i]? = some c:=⟨_,al hlt⟩
   have hp:=fun S'=>Mc w0 S' c (hb c (ax hx))
   have hsucc:=ra hx
   have hp1:=rp c
   have h1:decide ((i:Int)<(l.length:Int))=true:=by simpa using hlt
   have hw1:ae.wrap ((i:Int)+1)=(i:Int)+1:=ah _ (by omega)
   have hlm:=pu (l.take i)
   have hlt2:(l.take i).length≤i:=List.length_take_le _ _
   generalize fj (l.take i)=tx at f3 hsucc hlm
   generalize pC c=pc at hp hsucc hp1
   have hbl:tx.length+pc.length≤9223372036854775807:=by omega
   have Hlt:=ab hlt
   have Hsucc:=ab hsucc
   clear hb hlt hi hl hlm hlt2 hp1 hsucc
   repeat' first|apply fK|apply eg|apply dx|apply eh|apply fL|apply bU|apply fQ|apply bW|apply bJ|apply cE|apply bV|apply bI|apply bo|apply fO|(apply bp;(· rfl))|(apply cC;simp only [bg])|(apply dq;(· rfl);(· simp only [go_sem, *,Co];try rfl);(· rfl);simp only [putA])|(apply eo;simp only [putA])|apply cF|(apply cZ [];(· simp only [go_sem, *,Co];try rfl);(· rfl);(· simp only [go_sem, *,Co];try rfl);(· rfl);(iterate 2 (· simp only [go_sem, *,Co];try rfl));(first|apply hp);simp only [aV,putA])|(apply dr;(· simp only [go_sem, *,Co];try rfl);(· rfl);(· simp only [go_sem, *,Co];try rfl))|(apply dF;(iterate 2 (· simp only [go_sem, *,Co];try rfl));(· rfl);simp only [putA])|(apply bH;(· simp only [go_sem, *,Co];try rfl);(· rfl);simp only [putA])|(apply dt;(· simp only [go_sem, *,Co];try rfl))|(apply dw;(· simp only [go_sem, *,Co];try rfl))|(apply cD;(· rfl);(fail_if_success (focus (show _=some true;(· simp only [go_sem, *,Co];try rfl))));(· simp only [go_sem, *,Co];try rfl);all_goals (intro hb;try simp only [aw,aE] at hb))|(apply du;(· simp only [go_sem, *,Co];try rfl);all_goals (intro hb;try simp only [aw,aE] at hb))|fail
   refine HI.out (i+1) _ _ (by have:=Hlt.out;omega) ⟨Hlt.out, ?_, ?_, ?_, ?_, ?_⟩
   ·(simp only [go_sem, *];try rfl)
   ·(simp only [go_sem, *];try rfl)
   ·rw [Hsucc.out];(simp only [go_sem, *];try rfl)
   ·(simp only [go_sem, *];try rfl)
   ·(simp only [go_sem, *];try rfl)
  ·have hie:i=l.length:=by omega
   subst hie
   rw [bt] at f3
   have h1:decide ((l.length:Int)<(l.length:Int))=false:=by simp
   clear hb hlt hi hl
   have h:=H.out
   repeat' first|refine st ?_|(refine br ?_ ?_<;>intro hb)|fail
   refine fR results178 ?_
   exact h
theorem CD(s:List UInt8)(hs:s.length≤10000000)(R:Rt)(h:R (.ret (.bool (gq s))) S):aj prog w0 90 [.str s] S R:=by
 unfold gq tv at h
 by_cases h40:s.length≤510
 case neg =>
  rw [decide_eq_false h40,bK] at h
  have d0:decide ((510:Int)<(s.length:Int))=true:=by simp;omega
  clear h40 hs
  refine eN func90 rfl ntmps90 fun hO=>?_
  repeat' first|refine st ?_|(refine br ?_ ?_<;>intro hb)|fail
  refine fR results90 ?_
  exact h
 rw [decide_eq_true h40,bL] at h
 have d0:decide ((510:Int)<(s.length:Int))=false:=by simp;omega
 have hco:=fun S'=>IY w0 S' s (by omega)
 have hcl:=pU s
 have hte:=fun S'=>Kw w0 S' (dN s) (fun c hc=>by have:=hcl.1 c hc;omega) (by omega)
 have hll:(dN s).length≤100000000:=by omega
 generalize dN s=l at h hco hte hll
 have Hte:=ab hte
 clear hcl hte h40 hs
 refine eN func90 rfl ntmps90 fun hO=>?_
 repeat' first|refine st ?_|(refine ca ?_;apply hco)|(refine br ?_ ?_<;>intro hb)|fail
 refine cW (fun (k:Nat) env S'=>k≤l.length∧(∀ j c,j<k→l[j]? = some c→nB c=true)∧env 1000000=.dfr []∧env 0=.str s∧env 3=.sval false (l.map Co)∧env 4=.int .i64 (k:Int)∧S'=S) (fun k=>l.length - k) 0 ?_ ?_
 ·exact⟨bf _,fun j c hj=>absurd hj (by omega),ss,ss,ss,ss,rfl⟩
 ·rintro k env S' ⟨hk,hall,e0,f0,e3,e4,rfl⟩ IH
  have HI:=ab IH
  have Hall:=ab hall
  have H:=ab h
  clear IH hall h hco
  by_cases hlt:k<l.length
  ·obtain⟨c,hx⟩:∃ c,l[k]? = some c:=⟨_,al hlt⟩
   have h1:decide ((k:Int)<(l.length:Int))=true:=by simpa using hlt
   have hw:ae.wrap ((k:Int)+1)=(k:Int)+1:=ah _ (by omega)
   have bad:nB c=false→R (.ret (.bool false)) S':=fun hc=>by
    have e:l.all nB=false:=by
     rw [List.all_eq_false]
     exact⟨c,ax hx,by simp [hc]⟩
    have:=H.out
    rw [e,bK] at this
    exact this
   have good:nB c=true→∀ j d,j<k+1→l[j]? = some d→nB d=true:=fun hc j d hj hd=>by
    by_cases e:j=k
    ·rw [e,hx] at hd;cases hd;exact hc
    ·exact Hall.out j d (by omega) hd
   have Bad:=ab bad
   have Good:=ab good
   have Hlt:=ab hlt
   clear bad good hlt hk hll
   by_cases q1:c<32
   ·have d1:decide ((c:Int)<32)=true:=by simp;omega
    have hc:nB c=false:=by unfold nB;rw [decide_eq_false (by omega)];rfl
    have hb:=Bad.out hc
    clear q1 hc
    repeat' first|apply fK|apply eg|apply dx|apply eh|apply fL|apply bU|apply fQ|apply bW|apply bJ|apply cE|apply bV|apply bI|apply bo|apply fO|(apply bp;(· rfl))|(apply cC;simp only [bg])|(apply dq;(· rfl);(· simp only [go_sem, *,Co];try rfl);(· rfl);simp only [putA])|(apply eo;simp only [putA])|apply cF|(apply dr;(· simp only [go_sem, *,Co];try rfl);(· rfl);(· simp only [go_sem, *,Co];try rfl))|(apply dF;(iterate 2 (· simp only [go_sem, *,Co];try rfl));(· rfl);simp only [putA])|(apply bH;(· simp only [go_sem, *,Co];try rfl);(· rfl);simp only [putA])|(apply dt;(· simp only [go_sem, *,Co];try rfl))|(apply dw;(· simp only [go_sem, *,Co];try rfl))|(apply cD;(· rfl);(fail_if_success (focus (show _=some true;(· simp only [go_sem, *,Co];try rfl))));(· simp only [go_sem, *,Co];try rfl);all_goals (intro hb;try simp only [aw,aE] at hb))|(apply du;(· simp only [go_sem, *,Co];try rfl);all_goals (intro hb;try simp only [aw,aE] at hb))|fail
    refine fR results90 ?_
    exact hb
   have d1:decide ((c:Int)<32)=false:=by simp;omega
   by_cases q2:127≤c
   ·have d2:decide ((127:Int)≤(c:Int))=true:=by simp;omega
    by_cases q3:c≤159
    ·have d3:decide ((c:Int)≤159)=true:=by simp;omega
     have hc:nB c=false:=by unfold nB;rw [decide_eq_true q2,decide_eq_true q3];simp
     have hb:=Bad.out hc
     clear q1 q2 q3 hc
     repeat' first|apply fK|apply eg|apply dx|apply eh|apply fL|apply bU|apply fQ|apply bW|apply bJ|apply cE|apply bV|apply bI|apply bo|apply fO|(apply bp;(· rfl))|(apply cC;simp only [bg])|(apply dq;(· rfl);(· simp only [go_sem, *,Co];try rfl);(· rfl);simp only [putA])|(apply eo;simp only [putA])|apply cF|(apply dr;(· simp only [go_sem, *,Co];try rfl);(· rfl);(· simp only [go_sem, *,Co];try rfl))|(apply dF;(iterate 2 (· simp only [go_sem, *,Co];try rfl));(· rfl);simp only [putA])|(apply bH;(· simp only [go_sem, *,Co];try rfl);(· rfl);simp only [putA])|(apply dt;(· simp only [go_sem, *,Co];try rfl))|(apply dw;(· simp only [go_sem, *,Co];try rfl))|(apply cD;(· rfl);(fail_if_success (focus (show _=some true;(· simp only [go_sem, *,Co];try rfl))));(· simp only [go_sem, *,Co];try rfl);all_goals (intro hb;try simp only [aw,aE] at hb))|(apply du;(· simp only [go_sem, *,Co];try rfl);all_goals (intro hb;try simp only [aw,aE] at hb))|fail
     refine fR results90 ?_
     exact hb
    ·have d3:decide ((c:Int)≤159)=false:=by simp;omega
     have hc:nB c=true:=by unfold nB;rw [decide_eq_false q3,decide_eq_true (by omega)];simp
     clear q1 q2 q3
     repeat' first|apply fK|apply eg|apply dx|apply eh|apply fL|apply bU|apply fQ|apply bW|apply bJ|apply cE|apply bV|apply bI|apply bo|apply fO|(apply bp;(· rfl))|(apply cC;simp only [bg])|(apply dq;(· rfl);(· simp only [go_sem, *,Co];try rfl);(· rfl);simp only [putA])|(apply eo;simp only [putA])|apply cF|(apply dr;(· simp only [go_sem, *,Co];try rfl);(· rfl);(· simp only [go_sem, *,Co];try rfl))|(apply dF;(iterate 2 (· simp only [go_sem, *,Co];try rfl));(· rfl);simp only [putA])|(apply bH;(· simp only [go_sem, *,Co];try rfl);(· rfl);simp only [putA])|(apply dt;(· simp only [go_sem, *,Co];try rfl))|(apply dw;(· simp only [go_sem, *,Co];try rfl))|(apply cD;(· rfl);(fail_if_success (focus (show _=some true;(· simp only [go_sem, *,Co];try rfl))));(· simp only [go_sem, *,Co];try rfl);all_goals (intro hb;try simp only [aw,aE] at hb))|(apply du;(· simp only [go_sem, *,Co];try rfl);all_goals (intro hb;try simp only [aw,aE] at hb))|fail
     refine HI.out (k+1) _ _ (by have:=Hlt.out;omega) ⟨Hlt.out,Good.out hc, ?_, ?_, ?_, ?_,rfl⟩
     all_goals (simp only [go_sem, *];try rfl)
   ·have d2:decide ((127:Int)≤(c:Int))=false:=by simp;omega
    have hc:nB c=true:=by unfold nB;rw [decide_eq_false q2,decide_eq_true (by omega)];rfl
    clear q1 q2
    repeat' first|apply fK|apply eg|apply dx|apply eh|apply fL|apply bU|apply fQ|apply bW|apply bJ|apply cE|apply bV|apply bI|apply bo|apply fO|(apply bp;(· rfl))|(apply cC;simp only [bg])|(apply dq;(· rfl);(· simp only [go_sem, *,Co];try rfl);(· rfl);simp only [putA])|(apply eo;simp only [putA])|apply cF|(apply dr;(· simp only [go_sem, *,Co];try rfl);(· rfl);(· simp only [go_sem, *,Co];try rfl))|(apply dF;(iterate 2 (· simp only [go_sem, *,Co];try rfl));(· rfl);simp only [putA])|(apply bH;(· simp only [go_sem, *,Co];try rfl);(· rfl);simp only [putA])|(apply dt;(· simp only [go_sem, *,Co];try rfl))|(apply dw;(· simp only [go_sem, *,Co];try rfl))|(apply cD;(· rfl);(fail_if_success (focus (show _=some true;(· simp only [go_sem, *,Co];try rfl))));(· simp only [go_sem, *,Co];try rfl);all_goals (intro hb;try simp only [aw,aE] at hb))|(apply du;(· simp only [go_sem, *,Co];try rfl);all_goals (intro hb;try simp only [aw,aE] at hb))|fail
    refine HI.out (k+1) _ _ (by have:=Hlt.out;omega) ⟨Hlt.out,Good.out hc, ?_, ?_, ?_, ?_,rfl⟩
    all_goals (simp only [go_sem, *];try rfl)
  ·have h1:decide ((k:Int)<(l.length:Int))=false:=by simpa using hlt
   have e:l.all nB=true:=by
    rw [aC]
    intro c hc
    obtain⟨j,hj⟩:=aQ hc
    exact Hall.out j c (by have:=(af.1 hj).1;omega) hj
   have hh:=H.out
   rw [e,bL] at hh
   have ht:=Hte.out
   clear hlt hk e Hall HI hll
   repeat' first|refine st ?_|(refine ca ?_;apply ht)|(refine br ?_ ?_<;>intro hb)|fail
   refine fR results90 ?_
   rw [show (fj l==s)=decide (fj l=s) by rw [eB];simp]
   exact hh
theorem vI(a b:Nat):(a:Int).tmod (b:Int)=((a % b:Nat):Int):=by rw [yW (by omega)];omega
theorem Am(a b:Nat)(h:a<4294967296):ae.wrap ((a:Int).tdiv (b:Int))=((a / b:Nat):Int):=by
 have:=Nat.div_le_self a b
 rw [vG (by omega),← Int.natCast_ediv]
 generalize a / b=q at *
 exact ah _ (by omega)
theorem JV{s:List UInt8}{i:Nat}(h:∀ j c,j<i→s[j]? = some c→c≠59)(hi:s[i]? = some 59):hY s=some (s.take i,s.drop (i+1)):=by
 have hl:=(af.1 hi).1
 have e:s=s.take i++59::s.drop (i+1):=by
  conv=>lhs;rw [← List.take_append_drop i s]
  rw [p9 hl,(af.1 hi).2]
 conv=>lhs;rw [e]
 refine mW _ fun b hb=>?_
 obtain⟨j,hj⟩:=aQ hb
 rw [a_] at hj
 split at hj
 ·next hji=>exact h j b hji hj
 ·cases hj
theorem JU{s:List UInt8}(h:∀ j c,j<s.length→s[j]? = some c→c≠59):hY s=none:=by
 have hall:∀ b∈s,b≠59:=fun b hb=>by
  obtain⟨j,hj⟩:=aQ hb
  exact h j b (af.1 hj).1 hj
 have e:s.dropWhile (fun b=>b != 59)=[]:=by
  clear h
  induction s with
  | nil=>rfl
  | cons c s ih =>
   have hc:(c != 59)=true:=by simpa using hall c (by simp)
   rw [List.dropWhile_cons,if_pos hc]
   exact ih fun b hb=>hall b (gY _ hb)
 unfold hY
 rw [if_pos e]
def yE:Option (List UInt8 × List UInt8)→AV
 | some q=>.tup [.str q.1,.str q.2,.bool true]
 | none=>.tup [.str [],.str [],.bool false]
theorem Kz(s:List UInt8)(hs:s.length≤100000000)(R:Rt)(h:R (.ret (yE (hY s))) S):aj prog w0 129 [.str s] S R:=by
 refine eN func129 rfl ntmps129 fun hO=>?_
 repeat' first|refine st ?_|(refine br ?_ ?_<;>intro hb)|fail
 refine cW (fun (i:Nat) env S'=>i≤s.length∧(∀ j c,j<i→s[j]? = some c→c≠59)∧env 1000000=.dfr []∧env 0=.str s∧env 5=.int .i64 (i:Int)∧S'=S) (fun i=>s.length - i) 0 ?_ ?_
 ·exact⟨bf _,fun j c hj=>absurd hj (by omega),ss,ss,ss,ss⟩
 ·rintro i env S' ⟨hi,hall,e0,f0,f5,rfl⟩ IH
  have HI:=ab IH
  have H:=ab h
  clear IH h
  by_cases hlt:i<s.length
  ·obtain⟨c,hx⟩:∃ c,s[i]? = some c:=⟨_,al hlt⟩
   have d0:decide ((i:Int)<(s.length:Int))=true:=by simpa using hlt
   have hw1:ae.wrap ((i:Int)+1)=((i+1:Nat):Int):=by rw [ah _ (by omega)];omega
   by_cases hc:c.toNat=59
   ·have d1:((c.toNat:Int)==59)=true:=by simp;omega
    have h59:c=59:=lW.1 hc
    have he:=JV hall (by rw [hx,h59])
    have hh:=H.out
    rw [he] at hh
    have hh:R (.ret (.tup [.str (s.take i),.str (s.drop (i+1)),.bool true])) S':=hh
    have b1:(i:Int)≤(s.length:Int):=by omega
    have b2:((i+1:Nat):Int)≤(s.length:Int):=by omega
    have hts:pi s.length s=s:=bt
    clear hc h59 he hall hi hs hlt HI H
    repeat' first|refine st ?_|(refine br ?_ ?_<;>intro hb)|refine sd ?_|apply au|(apply aF;(· decide +kernel))|refine bd ?_ ?_|fail
    refine fR results129 ?_
    exact hh
   ·have d1:((c.toNat:Int)==59)=false:=by simp;omega
    have hall2:∀ j d,j<i+1→s[j]? = some d→d≠59:=fun j d hj hd=>by
     by_cases e:j=i
     ·subst e;rw [hx] at hd;cases hd;intro e2;subst e2;exact hc rfl
     ·exact hall j d (by omega) hd
    have Hlt:=ab (a6 hlt hall2)
    clear hc hall hi hs hlt hall2
    repeat' first|refine st ?_|(refine br ?_ ?_<;>intro hb)|fail
    refine HI.out (i+1) _ _ (by have:=Hlt.out.1;omega) ⟨Hlt.out.1,Hlt.out.2, ?_, ?_, ?_,rfl⟩
    all_goals (simp only [go_sem, *];try rfl)
  ·have hie:i=s.length:=by omega
   subst hie
   have d0:decide ((s.length:Int)<(s.length:Int))=false:=by simp
   have hh:=H.out
   rw [JU hall] at hh
   have hh:R (.ret (.tup [.str [],.str [],.bool false])) S':=hh
   clear hall hi hs hlt HI H
   repeat' first|refine st ?_|(refine br ?_ ?_<;>intro hb)|fail
   refine fR results129 ?_
   exact hh
def Da(s:List UInt8):Int:=match mm s with|some n=>n|none=>-1
theorem tf{s:List UInt8}{i:Nat}{c:UInt8}(h:s[i]? = some c):jP (s.take (i+1))=jP (s.take i) * 10+(c.toNat - 48):=by
 unfold jP
 rw [sC,h,List.foldl_append];rfl
theorem F0{s:List UInt8}{i:Nat}{c:UInt8}(h:s[i]? = some c)(hc:rY c=false):mm s=none:=by
 unfold mm
 rw [if_pos]
 refine .inr (.inr (.inl ?_))
 rw [List.all_eq_false]
 exact⟨c,ax h,by rw [hc];decide⟩
theorem y9:∀ (i:Nat) (s:List UInt8),(∀ j c,j<i→s[j]? = some c→rY c=true)→i≤s.length→jP (s.take i)<10 ^ i
 | 0,s,_,_=>by simp [jP]
 | i+1,s,h,hl=>by
  have ih:=y9 i s (fun j c hj hc=>h j c (by omega) hc) (by omega)
  have hc:=h i _ (by omega) (al (show i<s.length by omega))
  rw [tf (al (show i<s.length by omega))]
  unfold rY at hc
  simp at hc
  rw [lS]
  omega
theorem Fl(s:List UInt8)(R:Rt)(h:R (.ret (.int .i64 (Da s))) S):aj prog w0 131 [.str s] S R:=by
 by_cases h0:s=[]
 ·subst h0
  have h:R (.ret (.int .i64 (-1))) S:=h
  refine eN func131 rfl ntmps131 fun hO=>?_
  repeat' first|refine st ?_|(refine br ?_ ?_<;>intro hb)|fail
  refine fR results131 ?_
  exact h
 have d0:(s==[])=false:=by rw [beq_eq_false_iff_ne];exact h0
 by_cases h3:3<s.length
 ·have d1:decide ((3:Int)<(s.length:Int))=true:=by simp;omega
  have e:mm s=none:=by unfold mm;rw [if_pos (.inr (.inl h3))]
  unfold Da at h
  rw [e] at h
  have h:R (.ret (.int .i64 (-1))) S:=h
  clear h0 h3 e
  refine eN func131 rfl ntmps131 fun hO=>?_
  repeat' first|refine st ?_|(refine br ?_ ?_<;>intro hb)|fail
  refine fR results131 ?_
  exact h
 have d1:decide ((3:Int)<(s.length:Int))=false:=by simp;omega
 refine eN func131 rfl ntmps131 fun hO=>?_
 repeat' first|refine st ?_|(refine br ?_ ?_<;>intro hb)|fail
 refine cW (fun (i:Nat) env S'=>i≤s.length∧(∀ j c,j<i→s[j]? = some c→rY c=true)∧env 1000000=.dfr []∧env 0=.str s∧env 3=.int .i64 (jP (s.take i):Nat)∧env 4=.int .i64 (i:Int)∧S'=S) (fun i=>s.length - i) 0 ?_ ?_
 ·exact⟨bf _,fun j c hj=>absurd hj (by omega),ss,ss,ss,ss,ss⟩
 ·rintro i env S' ⟨hi,hall,e0,f0,f3,f4,rfl⟩ IH
  have HI:=ab IH
  have H:=ab h
  clear IH h
  have hv:=y9 i s hall hi
  have hp:10 ^ i≤1000:=gw (by decide:10>0) (show i≤3 by omega)
  by_cases hlt:i<s.length
  ·obtain⟨c,hx⟩:∃ c,s[i]? = some c:=⟨_,al hlt⟩
   have hct:c.toNat<256:=c.toNat_lt
   have d2:decide ((i:Int)<(s.length:Int))=true:=by simpa using hlt
   have hw1:ae.wrap ((i:Int)+1)=(i:Int)+1:=ah _ (by omega)
   cases hc:rY c with
   | false =>
    have hh:=H.out
    unfold Da at hh
    rw [F0 hx hc] at hh
    have hh:R (.ret (.int .i64 (-1))) S':=hh
    have hq:decide ((c.toNat:Int)<48)=true∨(decide ((c.toNat:Int)<48)=false∧decide ((57:Int)<(c.toNat:Int))=true):=by
     unfold rY at hc
     simp at hc
     simp
     omega
    clear hc hall hi hlt hv hp hct h0 h3 HI H
    rcases hq with d3|⟨d3,d4⟩
    all_goals
     repeat' first|refine st ?_|(refine br ?_ ?_<;>intro hb)|fail
     refine fR results131 ?_
     exact hh
   | true =>
    have hall2:∀ j d,j<i+1→s[j]? = some d→rY d=true:=fun j d hj hd=>by
     by_cases e:j=i
     ·subst e;rw [hx] at hd;cases hd;exact hc
     ·exact hall j d (by omega) hd
    have hd:48≤c.toNat∧c.toNat≤57:=by unfold rY at hc;simpa using hc
    have d3:decide ((c.toNat:Int)<48)=false:=by simp;omega
    have d4:decide ((57:Int)<(c.toNat:Int))=false:=by simp;omega
    have hsu:=tf hx
    generalize jP (s.take i)=n at f3 hsu hv
    have k1:ae.wrap (10 * (n:Int))=((10 * n:Nat):Int):=by rw [ah _ (by omega)];omega
    have k2:aX.wrap ((c.toNat:Int) - 48)=((c.toNat - 48:Nat):Int):=by rw [di _ (by omega)];omega
    have k3:ae.wrap ((c.toNat - 48:Nat):Int)=((c.toNat - 48:Nat):Int):=ah _ (by omega)
    have k4:ae.wrap (((10 * n:Nat):Int)+((c.toNat - 48:Nat):Int))=((n * 10+(c.toNat - 48):Nat):Int):=by rw [ah _ (by omega)];omega
    have Hlt:=ab (a6 hlt (a6 hall2 hsu))
    clear hc hall hall2 hi hlt hv hp hct hd hsu h0 h3
    repeat' first|refine st ?_|(refine br ?_ ?_<;>intro hb)|fail
    refine HI.out (i+1) _ _ (by have:=Hlt.out.1;omega) ⟨Hlt.out.1,Hlt.out.2.1, ?_, ?_, ?_, ?_,rfl⟩
    ·(simp only [go_sem, *];try rfl)
    ·(simp only [go_sem, *];try rfl)
    ·rw [Hlt.out.2.2];(simp only [go_sem, *];try rfl)
    ·(simp only [go_sem, *];try rfl)
  ·have hie:i=s.length:=by omega
   subst hie
   rw [bt] at f3 hv
   have hal:s.all rY=true:=by
    rw [aC]
    intro c hc
    obtain⟨j,hj⟩:=aQ hc
    exact hall j c (af.1 hj).1 hj
   have d2:decide ((s.length:Int)<(s.length:Int))=false:=by simp
   have hh:=H.out
   unfold Da mm at hh
   by_cases hg:255<jP s
   ·rw [if_pos (.inr (.inr (.inr hg)))] at hh
    have hh:R (.ret (.int .i64 (-1))) S':=hh
    have d3:decide ((255:Int)<((jP s:Nat):Int))=true:=by simp;omega
    clear hall hi hlt hv hp hal h0 h3 HI H hg
    repeat' first|refine st ?_|(refine br ?_ ?_<;>intro hb)|fail
    refine fR results131 ?_
    exact hh
   ·rw [if_neg (fun e=>by rcases e with e|e|e|e;exact h0 e;exact h3 e;(rw [hal] at e;cases e);exact hg e)] at hh
    have hh:R (.ret (.int .i64 (jP s:Nat))) S':=hh
    have d3:decide ((255:Int)<((jP s:Nat):Int))=false:=by simp;omega
    clear hall hi hlt hv hp hal h0 h3 HI H hg
    repeat' first|refine st ?_|(refine br ?_ ?_<;>intro hb)|fail
    refine fR results131 ?_
    exact hh
theorem uE(n:Int)(R:Rt)(h:R (.ret (.int .i64 (if 0≤n∧n≤16777215 then 0 else 130))) S):aj prog w0 89 [.agg [.int .i64 2,.int .i64 n]] S R:=by
 by_cases c1:0≤n
 ·have d1:decide (0≤n)=true:=decide_eq_true c1
  by_cases c2:n≤16777215
  ·have d2:decide (n≤16777215)=true:=decide_eq_true c2
   rw [if_pos ⟨c1,c2⟩] at h
   clear c1 c2
   refine eN func89 rfl ntmps89 fun hO=>?_
   repeat' first|refine st ?_|(refine br ?_ ?_<;>intro hb)|fail
   refine fR results89 ?_
   exact h
  ·have d2:decide (n≤16777215)=false:=decide_eq_false c2
   rw [if_neg (fun e=>c2 e.2)] at h
   clear c1 c2
   refine eN func89 rfl ntmps89 fun hO=>?_
   repeat' first|refine st ?_|(refine br ?_ ?_<;>intro hb)|fail
   refine fR results89 ?_
   exact h
 ·have d1:decide (0≤n)=false:=decide_eq_false c1
  rw [if_neg (fun e=>c1 e.1)] at h
  clear c1
  refine eN func89 rfl ntmps89 fun hO=>?_
  repeat' first|refine st ?_|(refine br ?_ ?_<;>intro hb)|fail
  refine fR results89 ?_
  exact h
theorem Ky(n:Int)(hn:0≤n∧n≤16777215)(R:Rt)(h:R (.ret (.tup [.int .i64 n,.bool true])) S):aj prog w0 179 [.agg [.int .i64 2,.int .i64 n]] S R:=by
 have hc:=fun S'=>uE w0 S' n
 rw [if_pos hn] at hc
 clear hn
 refine eN func179 rfl ntmps179 fun hO=>?_
 repeat' first|refine st ?_|(refine ca ?_;apply hc)|(refine br ?_ ?_<;>intro hb)|fail
 refine fR results179 ?_
 exact h
theorem CE(n:Int)(hn:¬ (0≤n∧n≤16777215))(R:Rt)(h:R (.ret (.tup [.str [],.int .i64 130])) S):aj prog w0 91 [.agg [.int .i64 2,.int .i64 n]] S R:=by
 have hc:=fun S'=>uE w0 S' n
 rw [if_neg hn] at hc
 clear hn
 refine eN func91 rfl ntmps91 fun hO=>?_
 repeat' first|refine st ?_|(refine ca ?_;apply hc)|(refine br ?_ ?_<;>intro hb)|fail
 refine fR results91 ?_
 exact h
theorem tK:∀ a:Nat,a<16→List.drop a ((48:UInt8)::pi a [49,50,51,52,53,54,55,56,57,97,98,99,100,101,102])=[dU a]:=by decide +kernel
theorem Fj(n:Nat)(hn:n≤16777215)(R:Rt)(h:R (.ret (.tup [.str (kg n),.int .i64 0])) S):aj prog w0 91 [.agg [.int .i64 2,.int .i64 n]] S R:=by
 have hc:=fun S'=>uE w0 S' n
 rw [if_pos (by omega)] at hc
 have hr:=fun S'=>Ky w0 S' n (by omega)
 unfold kg at h
 have q0:ae.wrap ((n:Int).tdiv 1048576)=((n / 1048576:Nat):Int):=Am n 1048576 (by omega)
 have r0:((n / 1048576:Nat):Int).tmod 16=((n / 1048576 % 16:Nat):Int):=vI _ 16
 have l0:n / 1048576 % 16<16:=dY _ (by decide)
 have q1:ae.wrap ((n:Int).tdiv 65536)=((n / 65536:Nat):Int):=Am n 65536 (by omega)
 have r1:((n / 65536:Nat):Int).tmod 16=((n / 65536 % 16:Nat):Int):=vI _ 16
 have l1:n / 65536 % 16<16:=dY _ (by decide)
 have q2:ae.wrap ((n:Int).tdiv 4096)=((n / 4096:Nat):Int):=Am n 4096 (by omega)
 have r2:((n / 4096:Nat):Int).tmod 16=((n / 4096 % 16:Nat):Int):=vI _ 16
 have l2:n / 4096 % 16<16:=dY _ (by decide)
 have q3:ae.wrap ((n:Int).tdiv 256)=((n / 256:Nat):Int):=Am n 256 (by omega)
 have r3:((n / 256:Nat):Int).tmod 16=((n / 256 % 16:Nat):Int):=vI _ 16
 have l3:n / 256 % 16<16:=dY _ (by decide)
 have q4:ae.wrap ((n:Int).tdiv 16)=((n / 16:Nat):Int):=Am n 16 (by omega)
 have r4:((n / 16:Nat):Int).tmod 16=((n / 16 % 16:Nat):Int):=vI _ 16
 have l4:n / 16 % 16<16:=dY _ (by decide)
 have q5:ae.wrap ((n:Int).tdiv 1)=((n / 1:Nat):Int):=Am n 1 (by omega)
 have r5:((n / 1:Nat):Int).tmod 16=((n / 1 % 16:Nat):Int):=vI _ 16
 have l5:n / 1 % 16<16:=dY _ (by decide)
 have e0:n / 1048576=n / 1048576 % 16:=by omega
 have e5:n % 16=n / 1 % 16:=by rw [Nat.div_one]
 rw [e0,e5] at h
 obtain⟨a0,h0⟩:∃ a,n / 1048576 % 16=a:=⟨_,rfl⟩
 rw [h0] at r0 l0 h
 have s0:=tK a0 l0
 have kk0:ae.wrap ((a0:Int)+1)=((a0+1:Nat):Int):=by rw [ah _ (by omega)];omega
 have x0:((a0+1:Nat):Int)≤((16:Nat):Int):=by omega
 have y0:(a0:Int)≤((a0+1:Nat):Int):=by omega
 obtain⟨a1,h1⟩:∃ a,n / 65536 % 16=a:=⟨_,rfl⟩
 rw [h1] at r1 l1 h
 have s1:=tK a1 l1
 have kk1:ae.wrap ((a1:Int)+1)=((a1+1:Nat):Int):=by rw [ah _ (by omega)];omega
 have x1:((a1+1:Nat):Int)≤((16:Nat):Int):=by omega
 have y1:(a1:Int)≤((a1+1:Nat):Int):=by omega
 obtain⟨a2,h2⟩:∃ a,n / 4096 % 16=a:=⟨_,rfl⟩
 rw [h2] at r2 l2 h
 have s2:=tK a2 l2
 have kk2:ae.wrap ((a2:Int)+1)=((a2+1:Nat):Int):=by rw [ah _ (by omega)];omega
 have x2:((a2+1:Nat):Int)≤((16:Nat):Int):=by omega
 have y2:(a2:Int)≤((a2+1:Nat):Int):=by omega
 obtain⟨a3,h3⟩:∃ a,n / 256 % 16=a:=⟨_,rfl⟩
 rw [h3] at r3 l3 h
 have s3:=tK a3 l3
 have kk3:ae.wrap ((a3:Int)+1)=((a3+1:Nat):Int):=by rw [ah _ (by omega)];omega
 have x3:((a3+1:Nat):Int)≤((16:Nat):Int):=by omega
 have y3:(a3:Int)≤((a3+1:Nat):Int):=by omega
 obtain⟨a4,h4⟩:∃ a,n / 16 % 16=a:=⟨_,rfl⟩
 rw [h4] at r4 l4 h
 have s4:=tK a4 l4
 have kk4:ae.wrap ((a4:Int)+1)=((a4+1:Nat):Int):=by rw [ah _ (by omega)];omega
 have x4:((a4+1:Nat):Int)≤((16:Nat):Int):=by omega
 have y4:(a4:Int)≤((a4+1:Nat):Int):=by omega
 obtain⟨a5,h5⟩:∃ a,n / 1 % 16=a:=⟨_,rfl⟩
 rw [h5] at r5 l5 h
 have s5:=tK a5 l5
 have kk5:ae.wrap ((a5:Int)+1)=((a5+1:Nat):Int):=by rw [ah _ (by omega)];omega
 have x5:((a5+1:Nat):Int)≤((16:Nat):Int):=by omega
 have y5:(a5:Int)≤((a5+1:Nat):Int):=by omega
 clear hn e0 e5 h0 l0 h1 l1 h2 l2 h3 l3 h4 l4 h5 l5
 refine eN func91 rfl ntmps91 fun hO=>?_
 repeat' first|refine st ?_|(refine ca ?_;first|apply hc|apply hr)|(refine br ?_ ?_<;>intro hb)|apply cT|apply fZ|refine sd ?_|apply au|(apply aF;(· decide +kernel))|refine bd ?_ ?_|(refine cd ?_;first|apply hc|apply hr)|fail
 refine fR results91 ?_
 exact h
def JP(c:UInt8):Int:=match dW c with|some d=>d|none=>-1
theorem IX(c:UInt8)(R:Rt)(h:R (.ret (.int .i64 (JP c))) S):aj prog w0 199 [.int .u8 c.toNat] S R:=by
 have hct:c.toNat<256:=c.toNat_lt
 unfold JP at h
 by_cases c1:48≤c.toNat∧c.toNat≤57
 ·have e:dW c=some (c.toNat - 48):=by unfold dW;rw [if_pos c1]
  rw [e] at h
  have h:R (.ret (.int .i64 ((c.toNat - 48:Nat):Int))) S:=h
  have d1:decide ((48:Int)≤(c.toNat:Int))=true:=by simp;omega
  have d2:decide ((c.toNat:Int)≤57)=true:=by simp;omega
  have k1:aX.wrap ((c.toNat:Int) - 48)=((c.toNat - 48:Nat):Int):=by rw [di _ (by omega)];omega
  have k2:ae.wrap ((c.toNat - 48:Nat):Int)=((c.toNat - 48:Nat):Int):=ah _ (by omega)
  clear e c1 hct
  refine eN func199 rfl ntmps199 fun hO=>?_
  repeat' first|refine st ?_|(refine br ?_ ?_<;>intro hb)|fail
  refine fR results199 ?_
  exact h
 have q1:decide ((48:Int)≤(c.toNat:Int))=false∨(decide ((48:Int)≤(c.toNat:Int))=true∧decide ((c.toNat:Int)≤57)=false):=by simp;omega
 by_cases c2:97≤c.toNat∧c.toNat≤102
 ·have e:dW c=some (c.toNat - 87):=by unfold dW;rw [if_neg c1,if_pos c2]
  rw [e] at h
  have h:R (.ret (.int .i64 ((c.toNat - 87:Nat):Int))) S:=h
  have d3:decide ((97:Int)≤(c.toNat:Int))=true:=by simp;omega
  have d4:decide ((c.toNat:Int)≤102)=true:=by simp;omega
  have k1:aX.wrap ((c.toNat:Int) - 97)=((c.toNat - 97:Nat):Int):=by rw [di _ (by omega)];omega
  have k2:ae.wrap ((c.toNat - 97:Nat):Int)=((c.toNat - 97:Nat):Int):=ah _ (by omega)
  have k3:ae.wrap (((c.toNat - 97:Nat):Int)+10)=((c.toNat - 87:Nat):Int):=by rw [ah _ (by omega)];omega
  clear e c1 c2 hct
  rcases q1 with d1|⟨d1,d2⟩
  all_goals
   refine eN func199 rfl ntmps199 fun hO=>?_
   repeat' first|refine st ?_|(refine br ?_ ?_<;>intro hb)|fail
   refine fR results199 ?_
   exact h
 have q2:decide ((97:Int)≤(c.toNat:Int))=false∨(decide ((97:Int)≤(c.toNat:Int))=true∧decide ((c.toNat:Int)≤102)=false):=by simp;omega
 by_cases c3:65≤c.toNat∧c.toNat≤70
 ·have e:dW c=some (c.toNat - 55):=by unfold dW;rw [if_neg c1,if_neg c2,if_pos c3]
  rw [e] at h
  have h:R (.ret (.int .i64 ((c.toNat - 55:Nat):Int))) S:=h
  have d5:decide ((65:Int)≤(c.toNat:Int))=true:=by simp;omega
  have d6:decide ((c.toNat:Int)≤70)=true:=by simp;omega
  have k1:aX.wrap ((c.toNat:Int) - 65)=((c.toNat - 65:Nat):Int):=by rw [di _ (by omega)];omega
  have k2:ae.wrap ((c.toNat - 65:Nat):Int)=((c.toNat - 65:Nat):Int):=ah _ (by omega)
  have k3:ae.wrap (((c.toNat - 65:Nat):Int)+10)=((c.toNat - 55:Nat):Int):=by rw [ah _ (by omega)];omega
  clear e c1 c2 c3 hct
  rcases q1 with d1|⟨d1,d2⟩
  all_goals
   rcases q2 with d3|⟨d3,d4⟩
   all_goals
    refine eN func199 rfl ntmps199 fun hO=>?_
    repeat' first|refine st ?_|(refine br ?_ ?_<;>intro hb)|fail
    refine fR results199 ?_
    exact h
 have q3:decide ((65:Int)≤(c.toNat:Int))=false∨(decide ((65:Int)≤(c.toNat:Int))=true∧decide ((c.toNat:Int)≤70)=false):=by simp;omega
 have e:dW c=none:=by unfold dW;rw [if_neg c1,if_neg c2,if_neg c3]
 rw [e] at h
 have h:R (.ret (.int .i64 (-1))) S:=h
 clear e c1 c2 c3 hct
 rcases q1 with d1|⟨d1,d2⟩
 all_goals
  rcases q2 with d3|⟨d3,d4⟩
  all_goals
   rcases q3 with d5|⟨d5,d6⟩
   all_goals
    refine eN func199 rfl ntmps199 fun hO=>?_
    repeat' first|refine st ?_|(refine br ?_ ?_<;>intro hb)|fail
    refine fR results199 ?_
    exact h
def kE:List UInt8:=[114,103,98,58,48,48,47,48,48,47,48,48]
def lf:List UInt8→List UInt8→Nat→Option Nat
 | h::hs,c::cs,n=>if h=48 then (match dW c with|some d=>lf hs cs (16 * n+d)|none=>none) else if c=h then lf hs cs n else none
 | [],[],n=>some n
 | _,_,_=>none
theorem Bg{s:List UInt8}(h:s.length=12):iv s=lf kE s 0:=by
 match s,h with
 | [p0,p1,p2,p3,a,b,q,c,d,r,e,f],_ =>
  have eL:iv [p0,p1,p2,p3,a,b,q,c,d,r,e,f]=if p0=114∧p1=103∧p2=98∧p3=58∧q=47∧r=47 then
   (match iu a b,iu c d,iu e f with
   | some x,some y,some z=>some (x * 65536+y * 256+z)
   | _,_,_=>none) else none:=rfl
  have eR:lf kE [p0,p1,p2,p3,a,b,q,c,d,r,e,f] 0=if p0=114 then if p1=103 then if p2=98 then if p3=58 then
    (match dW a with
    | some x0=>(match dW b with
     | some x1=>if q=47 then (match dW c with
      | some x2=>(match dW d with
       | some x3=>if r=47 then (match dW e with
        | some x4=>(match dW f with
         | some x5=>some (16 * (16 * (16 * (16 * (16 * (16 * 0+x0)+x1)+x2)+x3)+x4)+x5)
         | none=>none)
        | none=>none) else none
       | none=>none)
      | none=>none) else none
     | none=>none)
    | none=>none) else none else none else none else none:=rfl
  rw [eL,eR]
  unfold iu
  by_cases hh:p0=114∧p1=103∧p2=98∧p3=58∧q=47∧r=47
  ·rw [if_pos hh]
   obtain⟨h0,h1,h2,h3,h4,h5⟩:=hh
   subst h0 h1 h2 h3 h4 h5
   generalize dW a=a
   generalize dW b=b
   generalize dW c=c
   generalize dW d=d
   generalize dW e=e
   generalize dW f=f
   cases a with
   | none=>rfl
   | some a=>cases b with
    | none=>rfl
    | some b=>cases c with
     | none=>rfl
     | some c=>cases d with
      | none=>rfl
      | some d=>cases e with
       | none=>rfl
       | some e=>cases f with
        | none=>rfl
        | some f =>
         show some ((a * 16+b) * 65536+(c * 16+d) * 256+(e * 16+f))=some (16 * (16 * (16 * (16 * (16 * (16 * 0+a)+b)+c)+d)+e)+f)
         congr 1;omega
  ·rw [if_neg hh]
   repeat' split
   all_goals first
    | rfl
    | exact absurd ⟨by assumption,by assumption,by assumption,by assumption,by assumption,by assumption⟩ hh
theorem Gz{s:List UInt8}(h:s.length≠12):iv s=none:=by
 unfold iv
 split
 ·exact absurd rfl h
 ·rfl
def DP:Option Nat→AV
 | some n=>.tup [.agg [.int .i64 2,.int .i64 n],.int .i64 0]
 | none=>.tup [.agg [.int .i64 0,.int .i64 0],.int .i64 6]
theorem zu(s:List UInt8)(R:Rt)(h:R (.ret (DP (iv s))) S):aj prog w0 130 [.str s] S R:=by
 by_cases hl:s.length=12
 case neg =>
  have d0:((s.length:Int) != 12)=true:=by simp;omega
  rw [Gz hl] at h
  have h:R (.ret (.tup [.agg [.int .i64 0,.int .i64 0],.int .i64 6])) S:=h
  clear hl
  refine eN func130 rfl ntmps130 fun hO=>?_
  repeat' first|refine st ?_|(refine br ?_ ?_<;>intro hb)|fail
  refine fR results130 ?_
  exact h
 have d0:((s.length:Int) != 12)=false:=by simp;omega
 rw [Bg hl] at h
 refine eN func130 rfl ntmps130 fun hO=>?_
 repeat' first|refine st ?_|(refine br ?_ ?_<;>intro hb)|fail
 refine cW (fun (q:Nat × Nat) env S'=>q.1≤12∧q.2<16 ^ q.1∧lf (kE.drop q.1) (s.drop q.1) q.2=lf kE s 0∧env 1000000=.dfr []∧env 0=.str s∧env 2=.own S.length 0∧env 4=.int .i64 (q.2:Nat)∧env 5=.int .i64 (q.1:Nat)∧S'=S++[aH.cells [.int .i64 0,.int .i64 0]]) (fun q=>12 - q.1) (0,0) ?_ ?_
 ·exact⟨bf _,by decide,rfl,ss,ss,ss,ss,ss,rfl⟩
 ·rintro⟨i,n⟩ env S' ⟨hi,hn,hsh,e0,f0,f2,f4,f5,rfl⟩ IH
  simp only at hi hn hsh f4 f5
  have HI:=ab IH
  have H:=ab h
  clear IH h
  have hp:16 ^ i≤281474976710656:=gw (by decide:16>0) (show i≤12 from hi)
  by_cases hlt:i<12
  ·obtain⟨c,hx⟩:∃ c,s[i]? = some c:=⟨_,al (by omega)⟩
   obtain⟨k,hk⟩:∃ k,([114,103,98,58,48,48,47,48,48,47,48,48]:List UInt8)[i]? = some k:=⟨_,al (by simpa using hlt)⟩
   have d1:decide ((i:Int)<(s.length:Int))=true:=by rw [hl];simp;omega
   have hw1:ae.wrap ((i:Int)+1)=((i+1:Nat):Int):=by rw [ah _ (by omega)];omega
   have ed:s.drop i=c::s.drop (i+1):=by rw [p9 (by omega),(af.1 hx).2]
   have ek:kE.drop i=k::kE.drop (i+1):=by rw [p9 (by simpa [kE] using hlt)];congr 1;exact(af.1 hk).2
   rw [ed,ek,lf] at hsh
   have bad:lf kE s 0=none→R (.ret (.tup [.agg [.int .i64 0,.int .i64 0],.int .i64 6])) S:=fun e=>by
    have:=H.out
    rw [e] at this
    exact this
   have Bad:=ab bad
   by_cases h48:k=48
   ·have d2:((k.toNat:Int) != 48)=false:=by rw [h48];rfl
    rw [if_pos h48] at hsh
    have hdg:=fun S'=>IX w0 S' c
    unfold JP at hdg
    cases hd:dW c with
    | none =>
     rw [hd] at hdg hsh
     have hh:=Bad.out hsh.symm
     clear hd hsh h48 bad ed ek hp hn hi hlt HI H hl
     repeat' first|refine st ?_|(refine ca ?_;apply hdg)|(refine br ?_ ?_<;>intro hb)|fail
     refine fR results130 ?_
     exact hh
    | some g =>
     rw [hd] at hdg hsh
     have hg:=oK hd
     have d3:decide ((g:Int)<0)=false:=decide_eq_false (by omega)
     have k1:ae.wrap (16 * (n:Int))=((16 * n:Nat):Int):=by rw [ah _ (by omega)];omega
     have k2:ae.wrap (((16 * n:Nat):Int)+(g:Int))=((16 * n+g:Nat):Int):=by rw [ah _ (by omega)];omega
     have hn2:16 * n+g<16 ^ (i+1):=by rw [lS];omega
     have Hf:=ab (a6 hlt (a6 hn2 hsh))
     clear hd hsh h48 bad ed ek hp hn hn2 hi hlt hg hl
     repeat' first|refine st ?_|(refine ca ?_;apply hdg)|(refine br ?_ ?_<;>intro hb)|fail
     obtain⟨hlt,hn2,hsh⟩:=Hf.out
     refine cw hO 1 [0,2,4,5] rfl ss ss ss ?_
     simp only [aZ,aP]
     refine HI.out (i+1,16 * n+g) _ _ (by simp only;omega) ⟨hlt,hn2,hsh, ?_, ?_, ?_, ?_, ?_,rfl⟩
     all_goals (simp only [go_sem, *];try rfl)
   ·have d2:((k.toNat:Int) != 48)=true:=by
     rw [bne_iff_ne]
     intro e
     exact h48 (lW.1 (by simpa using sE e))
    rw [if_neg h48] at hsh
    by_cases hck:c=k
    ·have d3:((c.toNat:Int) != (k.toNat:Int))=false:=by rw [hck];simp
     rw [if_pos hck] at hsh
     have hn2:n<16 ^ (i+1):=by rw [lS];omega
     have Hf:=ab (a6 hlt (a6 hn2 hsh))
     clear hck hsh h48 bad ed ek hp hn hn2 hi hlt hl
     repeat' first|refine st ?_|(refine br ?_ ?_<;>intro hb)|refine sd ?_|apply au|(apply aF;(· decide +kernel))|refine bd ?_ ?_|fail
     obtain⟨hlt,hn2,hsh⟩:=Hf.out
     refine cw hO 1 [0,2,4,5] rfl ss ss ss ?_
     simp only [aZ,aP]
     refine HI.out (i+1,n) _ _ (by simp only;omega) ⟨hlt,hn2,hsh, ?_, ?_, ?_, ?_, ?_,rfl⟩
     all_goals (simp only [go_sem, *];try rfl)
    ·have d3:((c.toNat:Int) != (k.toNat:Int))=true:=by
      rw [bne_iff_ne]
      intro e
      exact hck (lW.1 (sE e))
     rw [if_neg hck] at hsh
     have hh:=Bad.out hsh.symm
     clear hck hsh h48 bad ed ek hp hn hi hlt HI H hl
     repeat' first|refine st ?_|(refine br ?_ ?_<;>intro hb)|refine sd ?_|apply au|(apply aF;(· decide +kernel))|refine bd ?_ ?_|fail
     refine fR results130 ?_
     exact hh
  ·have hie:i=12:=by omega
   subst hie
   have e1:kE.drop 12=[]:=rfl
   have e2:s.drop 12=[]:=Es (by omega)
   rw [e1,e2] at hsh
   have hsh:some n=lf kE s 0:=hsh
   have hh:=H.out
   rw [← hsh] at hh
   have hh:R (.ret (.tup [.agg [.int .i64 2,.int .i64 n],.int .i64 0])) S:=hh
   have d1:decide (((12:Nat):Int)<(s.length:Int))=false:=by rw [hl];first|done|rfl
   clear hi hn hsh hp hlt HI H hl e1 e2
   repeat' first|refine st ?_|(refine br ?_ ?_<;>intro hb)|fail
   refine fR results130 ?_
   exact hh
def BW(c:UInt8):Int:=match iC c with|some v=>v|none=>-1
theorem H_{c:UInt8}{i:Nat}(h:∀ j x,j<i→jq[j]? = some x→x≠c)(hi:jq[i]? = some c):iC c=some i:=by
 unfold iC
 rw [List.findIdx?_eq_some_iff_getElem]
 obtain⟨h1,h2⟩:=af.1 hi
 refine⟨h1,by simp [h2],fun j hj=>?_⟩
 have:=h j _ hj (al (by omega))
 simpa using this
theorem H9{c:UInt8}(h:∀ j x,j<64→jq[j]? = some x→x≠c):iC c=none:=by
 unfold iC
 rw [List.findIdx?_eq_none_iff]
 intro x hx
 obtain⟨j,hj⟩:=aQ hx
 have:=h j x (af.1 hj).1 hj
 simpa using this
theorem CC(c:UInt8)(R:Rt)(h:R (.ret (.int .i64 (BW c))) S):aj prog w0 200 [.int .u8 c.toNat] S R:=by
 refine eN func200 rfl ntmps200 fun hO=>?_
 repeat' first|refine st ?_|(refine br ?_ ?_<;>intro hb)|fail
 refine cW (fun (i:Nat) env S'=>i≤64∧(∀ j x,j<i→jq[j]? = some x→x≠c)∧env 1000000=.dfr []∧env 0=.int .u8 c.toNat∧env 3=.int .i64 (i:Int)∧S'=S) (fun i=>64 - i) 0 ?_ ?_
 ·exact⟨bf _,fun j c hj=>absurd hj (by omega),ss,ss,ss,ss⟩
 ·rintro i env S' ⟨hi,hall,e0,f0,f3,rfl⟩ IH
  have HI:=ab IH
  have H:=ab h
  clear IH h
  by_cases hlt:i<64
  ·obtain⟨k,hk⟩:∃ k,([65,66,67,68,69,70,71,72,73,74,75,76,77,78,79,80,81,82,83,84,85,86,87,88,89,90,97,98,99,100,101,102,103,104,105,106,107,108,109,110,111,112,113,114,115,116,117,118,119,120,121,122,48,49,50,51,52,53,54,55,56,57,43,47]:List UInt8)[i]? = some k:=⟨_,al (by simpa using hlt)⟩
   have d0:decide ((i:Int)<64)=true:=by simp;omega
   have hw1:ae.wrap ((i:Int)+1)=((i+1:Nat):Int):=by rw [ah _ (by omega)];omega
   by_cases hkc:k=c
   ·have d1:((k.toNat:Int)==(c.toNat:Int))=true:=by rw [hkc];simp
    have e:=H_ hall (by rw [← hkc];exact hk)
    have hh:=H.out
    unfold BW at hh
    rw [e] at hh
    have hh:R (.ret (.int .i64 (i:Int))) S':=hh
    clear hkc e hall hi hlt HI H
    repeat' first|refine st ?_|(refine br ?_ ?_<;>intro hb)|fail
    refine fR results200 ?_
    exact hh
   ·have d1:((k.toNat:Int)==(c.toNat:Int))=false:=by
     rw [beq_eq_false_iff_ne]
     intro e
     exact hkc (lW.1 (sE e))
    have hall2:∀ j x,j<i+1→jq[j]? = some x→x≠c:=fun j x hj hx=>by
     by_cases e:j=i
     ·subst e
      have:jq[j]? = some k:=hk
      rw [this] at hx;cases hx;exact hkc
     ·exact hall j x (by omega) hx
    have Hlt:=ab (a6 hlt hall2)
    clear hkc hall hall2 hi hlt
    repeat' first|refine st ?_|(refine br ?_ ?_<;>intro hb)|fail
    refine HI.out (i+1) _ _ (by have:=Hlt.out.1;omega) ⟨Hlt.out.1,Hlt.out.2, ?_, ?_, ?_,rfl⟩
    all_goals (simp only [go_sem, *];try rfl)
  ·have hie:i=64:=by omega
   subst hie
   have d0:decide (((64:Nat):Int)<64)=false:=by decide
   have hh:=H.out
   unfold BW at hh
   rw [H9 hall] at hh
   have hh:R (.ret (.int .i64 (-1))) S':=hh
   clear hall hi hlt HI H
   repeat' first|refine st ?_|(refine br ?_ ?_<;>intro hb)|fail
   refine fR results200 ?_
   exact hh
def Fw(s:List Nat)(p:Nat):Nat→Nat
 | 0=>0
 | t+1=>2 * Fw s p t+kG s (p+t)
theorem Fv(s:List Nat)(p:Nat):Fw s p 6=jd s p:=rfl
theorem J0(s:List Nat)(k:Nat):kG s k<2:=by
 unfold kG
 split
 ·exact dY _ (by decide)
 ·decide
theorem x8(s:List Nat)(p:Nat):∀ t,Fw s p t<2 ^ t
 | 0=>by simp [Fw]
 | t+1=>by
  have:=x8 s p t
  have:=J0 s (p+t)
  rw [Fw,lS]
  omega
theorem I2:∀ m:Nat,m<8→([AV.int .i64 128,.int .i64 64,.int .i64 32,.int .i64 16,.int .i64 8,.int .i64 4,.int .i64 2,.int .i64 1]:List AV)[m]? = some (.int .i64 ((2 ^ (7 - m):Nat):Int)):=by
 intro m hm
 match m,hm with
 | 0,_=>rfl
 | 1,_=>rfl
 | 2,_=>rfl
 | 3,_=>rfl
 | 4,_=>rfl
 | 5,_=>rfl
 | 6,_=>rfl
 | 7,_=>rfl
theorem EE:∀ v,v<64→([65,66,67,68,69,70,71,72,73,74,75,76,77,78,79,80,81,82,83,84,85,86,87,88,89,90,97,98,99,100,101,102,103,104,105,106,107,108,109,110,111,112,113,114,115,116,117,118,119,120,121,122,48,49,50,51,52,53,54,55,56,57,43,47]:List UInt8)[v]? = some (bm v):=by decide +kernel
theorem Gp{s:List UInt8}{j:Nat}(h:6 * j<8 * s.length):jd (s.map aJ) (6 * j)<64∧(gh s)[j]? = some (bm (jd (s.map aJ) (6 * j))):=by
 have e:=zM (s.map aJ) (toNat_lt s) j
 rw [if_pos (by simpa using h)] at e
 refine⟨x8 _ _ 6, ?_⟩
 unfold gh
 rw [aI,e]
 rfl
end Go.Proofs.YthdbijpefkapnaaGreatDoor
