/- YthdbijpefkapnaaGreatDoorWalk8: a part of the proof. -/
import Derived.Test.YthdbijpefkapnaaGreatDoorWalk7
import Derived.Test.YthdbijpefkapnaaGreatDoorCore3
import Derived.Shelf.Strings.Count
import Derived.Test.YthdbijpefkapnaaGreatDoorShelf
set_option linter.all false
set_option maxHeartbeats 40000000
open And renaming intro → a6
open BitVec renaming ofInt → ar, toNat_and → Ew, toNat_ofInt → cA, toNat_or → GV
open Bool renaming not_eq_false' → aE, not_eq_true' → aw
open Go.IntKind renaming bits → bh, i64 → ae, u64 → aR
open Go.IntWalk renaming i64_in → ah, u64_in → im
open Go.Lib renaming hid → ab, indexByte → cX
open Go.RowKit.Below renaming refl → pg
open Int renaming le_refl → Eu
open List renaming all_eq_true → aC, cons_append → ft, count_cons_of_ne → yV, drop_eq_getElem_cons → p9, getElem?_append_right → aD, getElem?_eq_getElem → al, getElem?_eq_some_iff → af, length → iz, length_append → ai, length_cons → aB, length_map → be, length_nil → aL, length_pos_iff → nt, map_cons → ap, map_nil → aq, mem_cons → bz, mem_map → aM, nil_append → fS, replicate → a7, replicate_succ → lL, set_append_right → fb, size_toArray → il, take → pi, take_add_one → sC, take_length → bt, take_of_length_le → dV, toList_toArray → bg
open Nat renaming and_two_pow_sub_one_eq_mod → yT, le_refl → a8, mod_lt → dY, pow_le_pow_right → gw, reduceAdd → cM, zero_le → bf
open UInt8 renaming ofNat → ay, ofNat_toNat → cj
namespace Go.Proofs.YthdbijpefkapnaaGreatDoor
open Go Go.Fen Go.Proofs.Tryz
attribute [local irreducible] aW WP aj dS jl cQ aV cV
set_option maxRecDepth 8000
variable (w0:World) (S:List aH)
theorem FY(s:List UInt8)(hs:s.length≤8192)(R:Rt)(h:R (.ret (JQ (pR s))) S):aj prog w0 209 [.str s] S R:=by
 have hr:=fun S'=>rm w0 S' 6 8 252 S.length (by decide)
 have d0:decide ((8192:Int)<(s.length:Int))=false:=by simp;omega
 have htr:=fun S'=>Aj w0 S' s (by omega)
 have hva:=FK w0
 have htl:=B7 s
 have hmm:(s.length:Int).tmod 4=((s.length % 4:Nat):Int):=vI s.length 4
 have hwd:ae.wrap ((s.length:Int) - ((hZ s).length:Int))=((s.length - (hZ s).length:Nat):Int):=by rw [ah _ (by omega)];omega
 have hlk:=fun S' c=>P2 S' c
 unfold pR at h
 have bad:((hZ s).length≠s.length∧(s.length % 4≠0∨2<s.length - (hZ s).length))→R (.ret (.tup [.str [],.int .i64 6])) S:=fun e=>by rw [if_pos e] at h;exact h
 have good:¬ ((hZ s).length≠s.length∧(s.length % 4≠0∨2<s.length - (hZ s).length))→R (.ret (JQ (match gN (hZ s) with|none=>none|some V=>if (dK V).wait=6∨(dK V).rest≠0 then none else some ((dK V).out.map ay)))) S:=fun e=>by rw [if_neg e] at h;exact h
 clear h
 generalize hZ s=t at *
 generalize fh 64=M at hva hlk
 have Bad:=ab bad
 have Good:=ab good
 have Hlk:=ab hlk
 have Hva:=ab hva
 have Hr:=ab hr
 clear bad good hlk hva hr
 by_cases hA:(t.length≠s.length∧(s.length % 4≠0∨2<s.length - t.length))
 ·have hh:=Bad.out hA
  have b1:((t.length:Int) != (s.length:Int))=true:=by rw [bne_iff_ne];omega
  by_cases hB:s.length % 4=0
  ·have b2:(((s.length % 4:Nat):Int) != 0)=false:=by rw [hB];rfl
   have b3:decide ((2:Int)<((s.length - t.length:Nat):Int))=true:=by simp;omega
   clear hA hB hs htl
   refine eN func209 rfl ntmps209 fun hO=>?_
   repeat' first|refine st ?_|(refine ca ?_;apply htr)|(refine br ?_ ?_<;>intro hb)|fail
   refine fR results209 ?_
   exact hh
  ·have b2:(((s.length % 4:Nat):Int) != 0)=true:=by rw [bne_iff_ne];omega
   clear hA hB hs htl
   refine eN func209 rfl ntmps209 fun hO=>?_
   repeat' first|refine st ?_|(refine ca ?_;apply htr)|(refine br ?_ ?_<;>intro hb)|fail
   refine fR results209 ?_
   exact hh
 have good:=Good.out hA
 clear Bad Good
 by_cases ht0:t=[]
 ·subst ht0
  have good:R (.ret (.tup [.str [],.int .i64 0])) S:=good
  have hbe:=fun S' ha=>so w0 S' S.length ha
  have hva:=Hva.out
  have hr:=Hr.out
  have hc0:((0:Nat):Int)=0:=rfl
  by_cases hs0:s.length=0
  ·have b1:((0:Int) != (s.length:Int))=false:=by rw [hs0];rfl
   clear hA hs0 hs htl
   refine eN func209 rfl ntmps209 fun hO=>?_
   repeat' first|refine st ?_|(refine ca ?_;first|apply htr|apply hr|apply hva|(apply hbe;(· simp only [go_sem, *];try rfl)))|(refine br ?_ ?_<;>intro hb)|apply cT|apply fZ|fail
   refine fR results209 ?_
   exact good
  ·have b1:((0:Int) != (s.length:Int))=true:=by rw [bne_iff_ne];omega
   simp at hA
   have b2:(((s.length % 4:Nat):Int) != 0)=false:=by rw [bne_eq_false_iff_eq];omega
   have b3:decide ((2:Int)<((s.length - ([]:List UInt8).length:Nat):Int))=false:=by simp;omega
   exfalso
   omega
 have Good:=ab good
 have hpos:0<t.length:=nt.2 ht0
 clear good ht0
 have HA:=ab (a6 hA (a6 hs htl))
 have Hpos:=ab hpos
 clear hA hs htl hpos
 refine eN func209 rfl ntmps209 fun hO=>?_
 refine share ?K1 ?hK1 fun key1=>?main
 case main =>
  have hva:=Hva.out
  have hr:=Hr.out
  replace key1:=ab key1
  obtain⟨hA,hs,htl⟩:=HA.out
  by_cases h1:t.length=s.length
  ·have b1:((t.length:Int) != (s.length:Int))=false:=by rw [h1];simp
   clear hA h1 hs htl
   repeat' first|refine st ?_|(refine ca ?_;first|apply htr|apply hr|apply hva)|(refine br ?_ ?_<;>intro hb)|fail
   refine gM [1000000,4,5,6,7,8,9,41,42] ?_
   simp only [eS,go_sem]
   exact key1.out
  ·have b1:((t.length:Int) != (s.length:Int))=true:=by rw [bne_iff_ne];omega
   have b2:(((s.length % 4:Nat):Int) != 0)=false:=by rw [bne_eq_false_iff_eq];omega
   have b3:decide ((2:Int)<((s.length - t.length:Nat):Int))=false:=by simp;omega
   clear hA h1 hs htl
   repeat' first|refine st ?_|(refine ca ?_;first|apply htr|apply hr|apply hva)|(refine br ?_ ?_<;>intro hb)|fail
   refine gM [1000000,4,5,6,7,8,9,41,42] ?_
   simp only [eS,go_sem]
   exact key1.out
 case hK1 =>
  rintro env ⟨e0,f4,f5,f6,f7,f8,f9,f41,f42⟩
  clear htr
  refine mL (a:=S.length) (j:=1) 5 1 ss ss (by decide) ?_
  simp only [go_sem, *]
  refine cW (fun (p:Nat × Nat × AV × List Nat) env S'=>p.1≤t.length∧(p.2.2.1=.nilp∨p.2.2.1=.own S.length 0)∧gN (t.take p.1)=some p.2.2.2∧env 1000000=.dfr []∧env 4=.str t∧env 5=.own S.length 0∧env 6=.fn (.func 231) [] [.own (S.length+5) 0,.own (S.length+1) 0,.own (S.length+4) 0,.own (S.length+2) 0,.own (S.length+3) 0] ∧
   env 7=.mval M∧env 8=.int .i64 ((lG p.2.2.2).wait:Nat)∧env 9=.int .i64 ((lG p.2.2.2).rest:Nat)∧env 41=.int .i64 t.length∧env 42=.int .i64 (p.1:Int) ∧
   S'=S++er S.length p.2.2.1 p.2.1 ((lG p.2.2.2).out.map ay) 6 8 (.fn (.func 252) [] [.own S.length 0]) ((lG p.2.2.2).wait:Nat) ((lG p.2.2.2).rest:Nat)) (fun p=>t.length - p.1) (0,0,.nilp,[]) ?_ ?_
  ·exact⟨bf _,.inl rfl,rfl,ss,ss,ss,ss,ss,ss,ss,ss,ss,rfl⟩
  ·clear e0 f4 f5 f6 f7 f8 f9 f41 f42
   rintro⟨k,i,ad,V⟩ env S' ⟨hk,had,hV,e0,f4,f5,f6,f7,f8,f9,f41,f42,rfl⟩ IH
   simp only at hk had hV f8 f9 f42
   have HI:=ab IH
   obtain⟨hVm,hV64⟩:=pp hV
   have hVl:V.length=k:=by have:=congrArg iz hVm;simp at this;omega
   obtain⟨hi1,hi2⟩:=zd V.length V rfl hV64
   obtain⟨hA,hs,htl⟩:=HA.out
   clear IH hVm
   by_cases hlt:k<t.length
   ·obtain⟨c,hx⟩:∃ c,t[k]? = some c:=⟨_,al hlt⟩
    have h1:decide ((k:Int)<(t.length:Int))=true:=by simpa using hlt
    have hw:ae.wrap ((k:Int)+1)=(k:Int)+1:=ah _ (by omega)
    have hlk:=fun S'=>Hlk.out S' c
    cases hc:iC c with
    | none =>
     have hbad:gN t=none:=vS hx hc
     have hh:=Good.out
     rw [hbad] at hh
     have hh:R (.ret (.tup [.str [],.int .i64 6])) S:=hh
     simp only [hc,Mw] at hlk
     have Hlk2:=ab hlk
     clear hlk hbad hc hlt hk had hV hs htl hA hi1 hi2 hVl hV64 HI
     unfold er
     repeat' first|refine st ?_|(refine br ?_ ?_<;>intro hb)|fail
     refine dF (v:=.tup [.int .i64 0,.bool false]) ss (zb (Hlk2.out _)) ss ?_
     simp only [putA]
     repeat' first|refine st ?_|(refine br ?_ ?_<;>intro hb)|fail
     refine fR results209 ?_
     exact hh
    | some v =>
     have hv:v<64:=(qZ hc).1
     have hV2:gN (t.take (k+1))=some (V++[v]):=by
      rw [sC,hx]
      show gN (t.take k++[c])=_
      rw [Ae,hV,hc]
      rfl
     simp only [hc,Mw] at hlk
     have hg:=L_ w0 S hO ad had i (lG V) v hv hi1 (by omega)
     rw [← v8] at hg
     generalize hp1:((lG (V++[v])).wait:Int)=p1 at hg
     generalize hp2:((lG (V++[v])).rest:Int)=p2 at hg
     generalize hp3:(lG (V++[v])).out.map ay=p3 at hg
     have Hp:=ab (a6 hp1 (a6 hp2 hp3))
     clear hp1 hp2 hp3
     unfold er at hg
     simp only at hg ⊢
     generalize ((lG V).wait:Int)=q1 at *
     generalize ((lG V).rest:Int)=q2 at *
     generalize (lG V).out.map ay=q3 at *
     have Hlt:=ab hlt
     have HO:=ab hO
     have Hlk2:=ab hlk
     have HV2:=ab hV2
     clear hlk hc hlt hk had hV hs htl hA hi1 hi2 hVl hV64 hO hv hV2
     unfold er
     repeat' first|refine st ?_|(refine br ?_ ?_<;>intro hb)|fail
     refine dF (v:=.tup [.int .i64 v,.bool true]) ss (zb (Hlk2.out _)) ss ?_
     simp only [putA]
     repeat' first|refine st ?_|(refine ca ?_;apply hg)|(refine br ?_ ?_<;>intro hb)|fail
     intro ad' i' had'
     have Had:=ab had'
     clear had'
     repeat' first|refine st ?_|(refine br ?_ ?_<;>intro hb)|fail
     obtain⟨hp1,hp2,hp3⟩:=Hp.out
     subst hp1 hp2 hp3
     refine HI.out (k+1,i',ad',V++[v]) _ _ (by have:=Hlt.out;simp only;omega) ⟨Hlt.out,Had.out,HV2.out, ?_, ?_, ?_, ?_, ?_, ?_, ?_, ?_, ?_,rfl⟩
     all_goals (simp only [go_sem, *];try rfl)
   ·have hkl:k=t.length:=by omega
    subst hkl
    have h1:decide ((t.length:Int)<(t.length:Int))=false:=by simp
    rw [bt] at hV
    have hh:=Good.out
    rw [hV] at hh
    simp only at hh
    rw [← v_ V hV64] at hh
    have hol:=sb V
    have hwi:=sa V
    rw [← v_ V hV64] at hol hwi
    have hp:=Hpos.out
    simp only
    by_cases hw6:(lG V).wait=6
    ·rw [if_pos (.inl hw6)] at hh
     have hh:R (.ret (.tup [.str [],.int .i64 6])) S:=hh
     have d1:(((lG V).wait:Int)==6)=true:=by rw [hw6];rfl
     clear hk had hV hs htl hA hi1 hi2 hVl hV64 HI hw6 hol hwi hp hlt
     unfold er
     generalize ((lG V).wait:Int)=q1 at *
     generalize ((lG V).rest:Int)=q2 at *
     repeat' first|refine st ?_|(refine br ?_ ?_<;>intro hb)|fail
     refine fR results209 ?_
     exact hh
    ·have d1:(((lG V).wait:Int)==6)=false:=by rw [beq_eq_false_iff_ne];omega
     by_cases hr0:(lG V).rest=0
     ·rw [if_neg (by omega)] at hh
      have hh:R (.ret (.tup [.str ((lG V).out.map ay),.int .i64 0])) S:=hh
      have d2:(((lG V).rest:Int) != 0)=false:=by rw [hr0];rfl
      have hbl:1≤((lG V).out.map ay).length:=by rw [be];omega
      have hst:=LR w0 S ad had i ((lG V).out.map ay) 6 8 (.fn (.func 252) [] [.own S.length 0]) ((lG V).wait:Nat) ((lG V).rest:Nat) hbl
      have HO:=ab hO
      clear hk had hV hs htl hA hi1 hi2 hVl hV64 HI hw6 hol hwi hp hlt hr0 hbl hO
      generalize ((lG V).wait:Int)=q1 at *
      generalize ((lG V).rest:Int)=q2 at *
      generalize (lG V).out.map ay=q3 at *
      unfold er at hst ⊢
      repeat' first|refine st ?_|(refine ca ?_;apply hst)|(refine br ?_ ?_<;>intro hb)|fail
      refine fR results209 ?_
      exact hh
     ·rw [if_pos (.inr hr0)] at hh
      have hh:R (.ret (.tup [.str [],.int .i64 6])) S:=hh
      have d2:(((lG V).rest:Int) != 0)=true:=by rw [bne_iff_ne];omega
      clear hk had hV hs htl hA hi1 hi2 hVl hV64 HI hw6 hol hwi hp hlt hr0
      generalize ((lG V).wait:Int)=q1 at *
      generalize ((lG V).rest:Int)=q2 at *
      unfold er
      repeat' first|refine st ?_|(refine br ?_ ?_<;>intro hb)|fail
      refine fR results209 ?_
      exact hh
def zX(w0:World):Prop:=gl w0 11=.pro [.int .u8 0,.int .u8 1,.int .u8 56,.int .u8 2,.int .u8 57,.int .u8 49,.int .u8 28,.int .u8 3,.int .u8 61,.int .u8 58,.int .u8 42,.int .u8 50,.int .u8 38,.int .u8 29,.int .u8 17,.int .u8 4,.int .u8 62,.int .u8 47,.int .u8 59,.int .u8 36,.int .u8 45,.int .u8 43,.int .u8 51,.int .u8 22,.int .u8 53,.int .u8 39,.int .u8 33,.int .u8 30,.int .u8 24,.int .u8 18,.int .u8 12,.int .u8 5,.int .u8 63,.int .u8 55,.int .u8 48,.int .u8 27,.int .u8 60,.int .u8 41,.int .u8 37,.int .u8 16,.int .u8 46,.int .u8 35,.int .u8 44,.int .u8 21,.int .u8 52,.int .u8 32,.int .u8 23,.int .u8 11,.int .u8 54,.int .u8 26,.int .u8 40,.int .u8 15,.int .u8 34,.int .u8 20,.int .u8 31,.int .u8 10,.int .u8 25,.int .u8 14,.int .u8 19,.int .u8 9,.int .u8 13,.int .u8 8,.int .u8 7,.int .u8 6]
def Ek(w0:World):Prop:=gl w0 2=.pro [.int .i64 0,.int .i64 13434880,.int .i64 52480,.int .i64 13487360,.int .i64 238,.int .i64 13435085,.int .i64 52685,.int .i64 15066597,.int .i64 8355711,.int .i64 16711680,.int .i64 65280,.int .i64 16776960,.int .i64 6053119,.int .i64 16711935,.int .i64 65535,.int .i64 16777215]
def AN:List Nat:=[0,13434880,52480,13487360,238,13435085,52685,15066597,8355711,16711680,65280,16776960,6053119,16711935,65535,16777215]
theorem Jr:∀ n,n<16→∃ v rr,List.drop (n * 1) ([.int .i64 0,.int .i64 13434880,.int .i64 52480,.int .i64 13487360,.int .i64 238,.int .i64 13435085,.int .i64 52685,.int .i64 15066597,.int .i64 8355711,.int .i64 16711680,.int .i64 65280,.int .i64 16776960,.int .i64 6053119,.int .i64 16711935,.int .i64 65535,.int .i64 16777215]:List AV)=.int .i64 (v:Nat)::rr∧v≤16777215:=by
 intro n hn
 have h1:(AN.map (fun v:Nat=>AV.int .i64 (v:Int)))=([.int .i64 0,.int .i64 13434880,.int .i64 52480,.int .i64 13487360,.int .i64 238,.int .i64 13435085,.int .i64 52685,.int .i64 15066597,.int .i64 8355711,.int .i64 16711680,.int .i64 65280,.int .i64 16776960,.int .i64 6053119,.int .i64 16711935,.int .i64 65535,.int .i64 16777215]:List AV):=rfl
 have h2:∀ n,n<16→∃ v,AN[n]? = some v∧v≤16777215:=by
  have:∀ n,n<16→AN.getD n 99999999≤16777215∧n<AN.length:=by decide
  intro n hn
  obtain⟨h1,h2⟩:=this n hn
  refine⟨AN[n],al h2, ?_⟩
  rwa [List.getD_eq_getElem?_getD,al h2] at h1
 obtain⟨v,hv,hvl⟩:=h2 n hn
 refine⟨v,(AN.map (fun v:Nat=>AV.int .i64 (v:Int))).drop (n+1), ?_,hvl⟩
 have hl:=(af.1 hv)
 rw [Nat.mul_one,← h1,p9 (by simpa using hl.1)]
 simp [hl.2]
theorem yc(n:Nat)(hn:n<6)(R:Rt)(h:R (.ret (.int .i64 (if n=0 then 0 else (55+40 * n:Nat):Nat))) S):aj prog w0 271 [.int .i64 n] S R:=by
 by_cases h0:n=0
 ·subst h0
  have h:R (.ret (.int .i64 0)) S:=h
  refine eN func271 rfl ntmps271 fun hO=>?_
  repeat' first|refine st ?_|(refine br ?_ ?_<;>intro hb)|fail
  refine fR results271 ?_
  exact h
 ·rw [if_neg h0] at h
  have d1:((n:Int)==0)=false:=by rw [beq_eq_false_iff_ne];omega
  have w1:ae.wrap (40 * (n:Int))=((40 * n:Nat):Int):=by rw [ah _ (by omega)];omega
  have w2:ae.wrap (55+((40 * n:Nat):Int))=((55+40 * n:Nat):Int):=by rw [ah _ (by omega)];omega
  clear hn h0
  refine eN func271 rfl ntmps271 fun hO=>?_
  repeat' first|refine st ?_|(refine br ?_ ?_<;>intro hb)|fail
  refine fR results271 ?_
  exact h
def Hj(n:Nat):Nat:=if n=0 then 0 else 55+40 * n
theorem yg{n:Nat}(h:n<6):Hj n<256:=by unfold Hj;split<;>omega
theorem LO{a b:Nat}(ha:a<16777216)(hb:b<16777216):ae.wrap (((ar ae.bits (a:Int) ||| ar ae.bits (b:Int)).toNat:Nat):Int)=((a ||| b:Nat):Int)∧a ||| b<16777216:=by
 have hl:a ||| b<2 ^ 24:=Nat.or_lt_two_pow ha hb
 refine⟨?_,hl⟩
 rw [GV]
 have e2:(ar ae.bits (a:Int)).toNat=a:=by
  show (ar 64 _).toNat=_
  rw [cA];omega
 have e3:(ar ae.bits (b:Int)).toNat=b:=by
  show (ar 64 _).toNat=_
  rw [cA];omega
 rw [e2,e3]
 exact ah _ (by omega)
theorem Kl{a k:Nat}(ha:a<65536)(hk:k≤16):ae.wrap ((a:Int) * 2 ^ min k 64)=((a * 2 ^ k:Nat):Int):=by
 have h2:2 ^ k≤2 ^ 16:=gw (by omega) hk
 have h3:a * 2 ^ k≤65536 * 65536:=Nat.mul_le_mul (by omega) h2
 rw [Nat.min_eq_left (by omega),show ((a:Int) * 2 ^ k)=((a * 2 ^ k:Nat):Int) by simp]
 exact ah _ (by omega)
theorem P1(w0:World)(hN:Ek w0)(S:List aH)(n:Nat)(hn:n<256)(R:Rt)(h:∀ v:Nat,v<16777216→R (.ret (.int .i64 v)) S):aj prog w0 230 [.int .i64 n] S R:=by
 unfold Ek at hN
 by_cases h16:n<16
 ·have d1:decide ((n:Int)<16)=true:=by simp;omega
  have hk6:(n:Int)<((16:Nat):Int):=by omega
  obtain⟨v,rr,hv,hvl⟩:=Jr n h16
  have hh:=h v (by omega)
  clear h hn h16 hvl
  refine eN func230 rfl ntmps230 fun hO=>?_
  repeat' first|refine st ?_|(refine br ?_ ?_<;>intro hb)|fail
  refine fR results230 ?_
  exact hh
 have d1:decide ((n:Int)<16)=false:=by simp;omega
 by_cases h232:232≤n
 ·have d2:decide ((232:Int)≤(n:Int))=true:=by simp;omega
  have w1:ae.wrap ((n:Int) - 232)=((n - 232:Nat):Int):=by rw [ah _ (by omega)];omega
  have w2:ae.wrap (10 * ((n - 232:Nat):Int))=((10 * (n - 232):Nat):Int):=by rw [ah _ (by omega)];omega
  have w3:ae.wrap (8+((10 * (n - 232):Nat):Int))=((8+10 * (n - 232):Nat):Int):=by rw [ah _ (by omega)];omega
  have w4:ae.wrap (((8+10 * (n - 232):Nat):Int) * 65793)=(((8+10 * (n - 232)) * 65793:Nat):Int):=by rw [ah _ (by omega)];omega
  have hh:=h ((8+10 * (n - 232)) * 65793) (by omega)
  clear h hn h16 h232 hN
  refine eN func230 rfl ntmps230 fun hO=>?_
  repeat' first|refine st ?_|(refine br ?_ ?_<;>intro hb)|fail
  refine fR results230 ?_
  exact hh
 ·have d2:decide ((232:Int)≤(n:Int))=false:=by simp;omega
  obtain⟨m,hm⟩:∃ m,m=n - 16:=⟨_,rfl⟩
  have w1:ae.wrap ((n:Int) - 16)=(m:Int):=by rw [ah _ (by omega)];omega
  have k1:ae.wrap ((m:Int).tdiv 36)=((m / 36:Nat):Int):=Am m 36 (by omega)
  have k2:ae.wrap ((m:Int).tdiv 6)=((m / 6:Nat):Int):=Am m 6 (by omega)
  have k3:((m / 6:Nat):Int).tmod 6=((m / 6 % 6:Nat):Int):=vI (m / 6) 6
  have k4:(m:Int).tmod 6=((m % 6:Nat):Int):=vI m 6
  have l1:=fun S'=>yc w0 S' (m / 36) (by omega)
  have l2:=fun S'=>yc w0 S' (m / 6 % 6) (by omega)
  have l3:=fun S'=>yc w0 S' (m % 6) (by omega)
  have b1:=yg (n:=m / 36) (by omega)
  have b2:=yg (n:=m / 6 % 6) (by omega)
  have b3:=yg (n:=m % 6) (by omega)
  rw [show (if m / 36=0 then 0 else (55+40 * (m / 36):Nat))=Hj (m / 36) from rfl] at l1
  rw [show (if m / 6 % 6=0 then 0 else (55+40 * (m / 6 % 6):Nat))=Hj (m / 6 % 6) from rfl] at l2
  rw [show (if m % 6=0 then 0 else (55+40 * (m % 6):Nat))=Hj (m % 6) from rfl] at l3
  generalize Hj (m / 36)=L1 at *
  generalize Hj (m / 6 % 6)=L2 at *
  generalize Hj (m % 6)=L3 at *
  have s1:=Kl (a:=L1) (k:=16) (by omega) (by omega)
  have s2:=Kl (a:=L2) (k:=8) (by omega) (by omega)
  obtain⟨a1,ha1⟩:∃ a1,a1=L1 * 2 ^ 16:=⟨_,rfl⟩
  obtain⟨a2,ha2⟩:∃ a2,a2=L2 * 2 ^ 8:=⟨_,rfl⟩
  rw [← ha1] at s1
  rw [← ha2] at s2
  obtain⟨o1,q1⟩:=LO (a:=a1) (b:=a2) (by omega) (by omega)
  obtain⟨o2,q2⟩:=LO (a:=a1 ||| a2) (b:=L3) q1 (by omega)
  simp only [bh] at o1 o2
  have hh:=h _ q2
  generalize a1 ||| a2=a3 at *
  generalize a3 ||| L3=a4 at *
  clear h hn h16 h232 hm b1 b2 b3 ha1 ha2 q1 q2 hN
  refine eN func230 rfl ntmps230 fun hO=>?_
  repeat' first|refine st ?_|(refine ca ?_;first|apply l1|apply l2|apply l3)|(refine br ?_ ?_<;>intro hb)|fail
  refine fR results230 ?_
  exact hh
theorem K0(R:Rt)(h:R (.ret (.bool true)) S):aj prog w0 303 [.int .i64 16] S R:=by
 have f1:ae.wrap 15=15:=by decide
 have f2:ae.wrap (((ar ae.bits 16 &&& ar ae.bits 15).toNat:Nat):Int)=0:=by decide
 simp only [bh] at f2
 refine eN func303 rfl ntmps303 fun hO=>?_
 repeat' first|refine st ?_|(refine br ?_ ?_<;>intro hb)|fail
 refine fR results303 ?_
 exact h
theorem L4(w0:World)(hD:zX w0)(S:List aH)(R:Rt)(h:R (.ret (.int .i64 4)) S):aj prog w0 326 [.int .u64 16] S R:=by
 unfold zX at hD
 have f1:aR.wrap (-16)=18446744073709551600:=by decide
 have f2:aR.wrap (((ar aR.bits 16 &&& ar aR.bits 18446744073709551600).toNat:Nat):Int)=16:=by decide
 have f3:aR.wrap (16 * 285870213051353865)=4573923408821661840:=by decide
 have f4:(4573923408821661840:Int).fdiv (2 ^ min 58 64)=15:=by decide
 have f5:ae.wrap 4=4:=by decide
 simp only [bh] at f2
 refine eN func326 rfl ntmps326 fun hO=>?_
 repeat' first|refine st ?_|(refine br ?_ ?_<;>intro hb)|fail
 refine fR results326 ?_
 exact h
theorem tz(w0:World)(hD:zX w0)(S:List aH)(R:Rt)(h:R (.ret (.int .i64 4)) S):aj prog w0 304 [.int .u64 16] S R:=by
 have ht:=L4 w0 hD
 refine eN func304 rfl ntmps304 fun hO=>?_
 repeat' first|refine st ?_|(refine ca ?_;apply ht)|(refine br ?_ ?_<;>intro hb)|fail
 refine fR results304 ?_
 exact h
theorem Bm{m k:Nat}(hm:m<4294967296)(hk:k≤16):aR.wrap (((ar aR.bits (m:Int) &&& ar aR.bits ((2 ^ k - 1:Nat):Int)).toNat:Nat):Int)=((m % 2 ^ k:Nat):Int):=by
 rw [Ew]
 have h2:2 ^ k≤2 ^ 16:=gw (by omega) hk
 have h0:0<2 ^ k:=Nat.two_pow_pos k
 have e1:(ar aR.bits (m:Int)).toNat=m:=by
  show (ar 64 _).toNat=_
  rw [cA];omega
 have e2:(ar aR.bits ((2 ^ k - 1:Nat):Int)).toNat=2 ^ k - 1:=by
  show (ar 64 _).toNat=_
  rw [cA];omega
 rw [e1,e2,yT m k]
 have:=dY m h0
 exact im _ (by omega)
theorem LV:Go.Fen.zeroA prog 315=some [.int .u8 0,.int .u8 0,.int .u8 0,.int .u8 0,.int .u8 0,.int .u8 0,.int .u8 0,.int .u8 0,.int .u8 0,.int .u8 0,.int .u8 0,.int .u8 0,.int .u8 0,.int .u8 0,.int .u8 0,.int .u8 0,.int .u8 0,.int .u8 0,.int .u8 0,.int .u8 0,.int .u8 0,.int .u8 0,.int .u8 0,.int .u8 0,.int .u8 0,.int .u8 0,.int .u8 0,.int .u8 0,.int .u8 0,.int .u8 0,.int .u8 0,.int .u8 0,.int .u8 0,.int .u8 0,.int .u8 0,.int .u8 0,.int .u8 0,.int .u8 0,.int .u8 0,.int .u8 0,.int .u8 0,.int .u8 0,.int .u8 0,.int .u8 0,.int .u8 0,.int .u8 0,.int .u8 0,.int .u8 0,.int .u8 0,.int .u8 0,.int .u8 0,.int .u8 0,.int .u8 0,.int .u8 0,.int .u8 0,.int .u8 0,.int .u8 0,.int .u8 0,.int .u8 0,.int .u8 0,.int .u8 0,.int .u8 0,.int .u8 0,.int .u8 0,.int .u8 0]:=by kernel_rfl
theorem pQ:∀ d,d<16→([48,49,50,51,52,53,54,55,56,57,97,98,99,100,101,102,103,104,105,106,107,108,109,110,111,112,113,114,115,116,117,118,119,120,121,122]:List UInt8)[d]? = some (dU d):=by decide +kernel
theorem Gi(w0:World)(hD:zX w0)(S:List aH)(m:Nat)(h1:16777216≤m)(h2:m<33554432)(R:Rt)
  (h:∀ v,R (.ret (.tup [v,.str [49,dU (m / 16 / 16 / 16 / 16 / 16 % 16),dU (m / 16 / 16 / 16 / 16 % 16),dU (m / 16 / 16 / 16 % 16),dU (m / 16 / 16 % 16),dU (m / 16 % 16),dU (m % 16)]])) S) :
  aj prog w0 266 [.sval false [],.int .u64 m,.int .i64 16,.bool false,.bool false] S R:=by
 have hp:=K0 w0
 have hz:=LV
 have wk58:ae.wrap 58=58:=by decide
 have wk59:ae.wrap 59=59:=by decide
 have wk60:ae.wrap 60=60:=by decide
 have wk61:ae.wrap 61=61:=by decide
 have wk62:ae.wrap 62=62:=by decide
 have wk63:ae.wrap 63=63:=by decide
 have wk64:ae.wrap 64=64:=by decide
 have wk65:ae.wrap 65=65:=by decide
 have htz:=tz w0 hD
 have f1:aR.wrap 16=16:=by decide
 have f2:aR.wrap 4=4:=by decide
 have f3:aR.wrap 15=15:=by decide
 obtain⟨u1,hu1⟩:∃ u,u=m / 16:=⟨_,rfl⟩
 obtain⟨u2,hu2⟩:∃ u,u=u1 / 16:=⟨_,rfl⟩
 obtain⟨u3,hu3⟩:∃ u,u=u2 / 16:=⟨_,rfl⟩
 obtain⟨u4,hu4⟩:∃ u,u=u3 / 16:=⟨_,rfl⟩
 obtain⟨u5,hu5⟩:∃ u,u=u4 / 16:=⟨_,rfl⟩
 have g0:decide ((16:Int)≤(m:Int))=true:=by simp;omega
 have a0:aR.wrap (((ar aR.bits (m:Int) &&& ar aR.bits 15).toNat:Nat):Int)=((m % 16:Nat):Int):=Bm (m:=m) (k:=4) (by omega) (by omega)
 simp only [bh] at a0
 have x0:=pQ (m % 16) (by omega)
 have s0:(m:Int).fdiv (2 ^ min 4 64)=(u1:Int):=by rw [hu1];exact kT m 4 (by omega)
 have g1:decide ((16:Int)≤(u1:Int))=true:=by simp;omega
 have a1:aR.wrap (((ar aR.bits (u1:Int) &&& ar aR.bits 15).toNat:Nat):Int)=((u1 % 16:Nat):Int):=Bm (m:=u1) (k:=4) (by omega) (by omega)
 simp only [bh] at a1
 have x1:=pQ (u1 % 16) (by omega)
 have s1:(u1:Int).fdiv (2 ^ min 4 64)=(u2:Int):=by rw [hu2];exact kT u1 4 (by omega)
 have g2:decide ((16:Int)≤(u2:Int))=true:=by simp;omega
 have a2:aR.wrap (((ar aR.bits (u2:Int) &&& ar aR.bits 15).toNat:Nat):Int)=((u2 % 16:Nat):Int):=Bm (m:=u2) (k:=4) (by omega) (by omega)
 simp only [bh] at a2
 have x2:=pQ (u2 % 16) (by omega)
 have s2:(u2:Int).fdiv (2 ^ min 4 64)=(u3:Int):=by rw [hu3];exact kT u2 4 (by omega)
 have g3:decide ((16:Int)≤(u3:Int))=true:=by simp;omega
 have a3:aR.wrap (((ar aR.bits (u3:Int) &&& ar aR.bits 15).toNat:Nat):Int)=((u3 % 16:Nat):Int):=Bm (m:=u3) (k:=4) (by omega) (by omega)
 simp only [bh] at a3
 have x3:=pQ (u3 % 16) (by omega)
 have s3:(u3:Int).fdiv (2 ^ min 4 64)=(u4:Int):=by rw [hu4];exact kT u3 4 (by omega)
 have g4:decide ((16:Int)≤(u4:Int))=true:=by simp;omega
 have a4:aR.wrap (((ar aR.bits (u4:Int) &&& ar aR.bits 15).toNat:Nat):Int)=((u4 % 16:Nat):Int):=Bm (m:=u4) (k:=4) (by omega) (by omega)
 simp only [bh] at a4
 have x4:=pQ (u4 % 16) (by omega)
 have s4:(u4:Int).fdiv (2 ^ min 4 64)=(u5:Int):=by rw [hu5];exact kT u4 4 (by omega)
 have g5:decide ((16:Int)≤(u5:Int))=true:=by simp;omega
 have a5:aR.wrap (((ar aR.bits (u5:Int) &&& ar aR.bits 15).toNat:Nat):Int)=((u5 % 16:Nat):Int):=Bm (m:=u5) (k:=4) (by omega) (by omega)
 simp only [bh] at a5
 have x5:=pQ (u5 % 16) (by omega)
 have s5:(u5:Int).fdiv (2 ^ min 4 64)=1:=by rw [kT u5 4 (by omega)];omega
 rw [← hu1] at h
 rw [← hu2] at h
 rw [← hu3] at h
 rw [← hu4] at h
 rw [← hu5] at h
 generalize dU (m % 16)=c0 at h x0
 generalize m % 16=e0 at a0 x0
 generalize dU (u1 % 16)=c1 at h x1
 generalize u1 % 16=e1 at a1 x1
 generalize dU (u2 % 16)=c2 at h x2
 generalize u2 % 16=e2 at a2 x2
 generalize dU (u3 % 16)=c3 at h x3
 generalize u3 % 16=e3 at a3 x3
 generalize dU (u4 % 16)=c4 at h x4
 generalize u4 % 16=e4 at a4 x4
 generalize dU (u5 % 16)=c5 at h x5
 generalize u5 % 16=e5 at a5 x5
 clear h1 h2 hu1 hu2 hu3 hu4 hu5 hD
 refine eN func266 rfl ntmps266 fun hO=>?_
 repeat' first|refine st ?_|(refine ca ?_;first|apply hp|apply htz)|(refine br ?_ ?_<;>intro hb)|apply cT|apply fZ|fail
 refine n8 (t:=12) (a:=S.length) (o:=0) ss ss ?_
 simp only [go_sem, *]
 refine BM (i:=58) (kk:=.i64) (e:=5) (m:=65) ss rfl ss ss ss (by show _=AV.int .i64 58;(simp only [go_sem, *];try rfl)) ss (by decide) ss ?_
 simp only [putA]
 repeat' first|apply fK|apply eg|apply dx|apply eh|apply fL|apply bU|apply fQ|apply bW|apply bJ|apply cE|apply bV|apply bI|apply bo|apply fO|(apply bp;(· rfl))|(apply cC;simp only [bg])|(apply dq;(· rfl);(· simp only [go_sem, *,cj];try rfl);(· rfl);simp only [putA])|(apply eo;simp only [putA])|apply cF|(apply dr;(· simp only [go_sem, *,cj];try rfl);(· rfl);(· simp only [go_sem, *,cj];try rfl))|(apply dF;(iterate 2 (· simp only [go_sem, *,cj];try rfl));(· rfl);simp only [putA])|(apply bH;(· simp only [go_sem, *,cj];try rfl);(· rfl);simp only [putA])|(apply dt;(· simp only [go_sem, *,cj];try rfl))|(apply dw;(· simp only [go_sem, *,cj];try rfl))|(apply cD;(· rfl);(fail_if_success (focus (show _=some true;(· simp only [go_sem, *,cj];try rfl))));(· simp only [go_sem, *,cj];try rfl);all_goals (intro hb;try simp only [aw,aE] at hb))|(apply du;(· simp only [go_sem, *,cj];try rfl);all_goals (intro hb;try simp only [aw,aE] at hb))|fail
 refine fR results266 ?_
 exact h _
theorem OG{v:Nat}(hv:v<16777216):ae.wrap (((ar ae.bits (v:Int) ||| ar ae.bits 16777216).toNat:Nat):Int)=((v+16777216:Nat):Int):=by
 rw [GV]
 have e2:(ar ae.bits (v:Int)).toNat=v:=by
  show (ar 64 _).toNat=_
  rw [cA];omega
 have e3:(ar ae.bits 16777216).toNat=16777216:=by decide
 rw [e2,e3]
 have e4:v ||| 16777216=v+16777216:=by
  have:=Nat.shiftLeft_add_eq_or_of_lt (b:=v) (i:=24) (by omega) 1
  rw [Nat.shiftLeft_eq,Nat.or_comm,show (1:Nat) * 2 ^ 24=16777216 by decide] at this
  omega
 rw [e4]
 exact ah _ (by omega)
theorem Lg(w0:World)(hD:zX w0)(S:List aH)(m:Nat)(h1:16777216≤m)(h2:m<33554432)(R:Rt)
  (h:R (.ret (.str [49,dU (m / 16 / 16 / 16 / 16 / 16 % 16),dU (m / 16 / 16 / 16 / 16 % 16),dU (m / 16 / 16 / 16 % 16),dU (m / 16 / 16 % 16),dU (m / 16 % 16),dU (m % 16)])) S) :
  aj prog w0 222 [.int .i64 m,.int .i64 16] S R:=by
 have hf:=fun S'=>Gi w0 hD S' m h1 h2
 generalize [49,dU (m / 16 / 16 / 16 / 16 / 16 % 16),dU (m / 16 / 16 / 16 / 16 % 16),dU (m / 16 / 16 / 16 % 16),dU (m / 16 / 16 % 16),dU (m / 16 % 16),dU (m % 16)]=T at hf h
 have w1:aR.wrap (m:Int)=(m:Int):=im _ (by omega)
 have d1:decide ((m:Int)<0)=false:=by simp
 clear h1 h2 hD
 refine eN func222 rfl ntmps222 fun hO=>?_
 repeat' first|refine st ?_|(refine ca ?_;apply hf)|(refine br ?_ ?_<;>intro hb)|fail
 intro v
 repeat' first|refine st ?_|(refine br ?_ ?_<;>intro hb)|fail
 refine fR results222 ?_
 exact h
theorem Lh(w0:World)(hD:zX w0)(S:List aH)(m:Nat)(h1:16777216≤m)(h2:m<33554432)(R:Rt)
  (h:R (.ret (.str [49,dU (m / 16 / 16 / 16 / 16 / 16 % 16),dU (m / 16 / 16 / 16 / 16 % 16),dU (m / 16 / 16 / 16 % 16),dU (m / 16 / 16 % 16),dU (m / 16 % 16),dU (m % 16)])) S) :
  aj prog w0 189 [.int .i64 m,.int .i64 16] S R:=by
 have hf:=fun S'=>Lg w0 hD S' m h1 h2
 generalize [49,dU (m / 16 / 16 / 16 / 16 / 16 % 16),dU (m / 16 / 16 / 16 / 16 % 16),dU (m / 16 / 16 / 16 % 16),dU (m / 16 / 16 % 16),dU (m / 16 % 16),dU (m % 16)]=T at hf h
 clear h1 h2 hD
 refine eN func189 rfl ntmps189 fun hO=>?_
 repeat' first|refine st ?_|(refine ca ?_;apply hf)|(refine br ?_ ?_<;>intro hb)|fail
 refine fR results189 ?_
 exact h
theorem zn{n:Nat}(h:n<16777216):(n+16777216) / 16 / 16 / 16 / 16 / 16 % 16=n / 1048576∧(n+16777216) / 16 / 16 / 16 / 16 % 16=n / 65536 % 16∧(n+16777216) / 16 / 16 / 16 % 16=n / 4096 % 16∧(n+16777216) / 16 / 16 % 16=n / 256 % 16∧(n+16777216) / 16 % 16=n / 16 % 16∧(n+16777216) % 16=n % 16:=by
 omega
theorem KT(n:Int)(hn:jh 0 n=true)(R:Rt)(h:R (.ret (.tup [.int .i64 0,.bool false])) S):aj prog w0 188 [.agg [.int .i64 0,.int .i64 n]] S R:=by
 have hc:=fun S'=>hH w0 S' 0 n
 rw [hn,if_pos rfl] at hc
 clear hn
 refine eN func188 rfl ntmps188 fun hO=>?_
 repeat' first|refine st ?_|(refine ca ?_;apply hc)|(refine br ?_ ?_<;>intro hb)|fail
 refine fR results188 ?_
 exact h
theorem KS(w0:World)(hN:Ek w0)(S:List aH)(n:Int)(hn:jh 1 n=true)(R:Rt)(h:∀ v:Nat,v<16777216→R (.ret (.tup [.int .i64 v,.bool true])) S):aj prog w0 188 [.agg [.int .i64 1,.int .i64 n]] S R:=by
 have hc:=fun S'=>hH w0 S' 1 n
 rw [hn,if_pos rfl] at hc
 have hb:0≤n∧n≤255:=by simpa [jh,wI] using hn
 obtain⟨u,rfl⟩:∃ u:Nat,n=u:=⟨n.toNat,by omega⟩
 have ha:=fun S'=>P1 w0 hN S' u (by omega)
 clear hn hb
 refine eN func188 rfl ntmps188 fun hO=>?_
 repeat' first|refine st ?_|(refine ca ?_;first|apply hc|apply ha)|(refine br ?_ ?_<;>intro hb)|fail
 intro v hv
 have hh:=h v hv
 clear h hv
 repeat' first|refine st ?_|(refine br ?_ ?_<;>intro hb)|fail
 refine fR results188 ?_
 exact hh
def LK(w0:World)(k n:Int)(v:Nat):Prop:=∀ (S:List aH) (R:Rt),R (.ret (.tup [.int .i64 v,.bool true])) S→aj prog w0 188 [.agg [.int .i64 k,.int .i64 n]] S R
theorem He(w0:World)(hD:zX w0)(S:List aH)(k n:Int)(v:Nat)(hv:v<16777216)(hk:jh k n=true)(hR:LK w0 k n v)(R:Rt)(h:R (.ret (.tup [.str (kg v),.int .i64 0])) S):aj prog w0 115 [.agg [.int .i64 k,.int .i64 n]] S R:=by
 have hc:=fun S'=>hH w0 S' k n
 rw [hk,if_pos rfl] at hc
 unfold LK at hR
 have ho:=OG hv
 have hf:=fun S'=>Lh w0 hD S' (v+16777216) (by omega) (by omega)
 obtain⟨g1,g2,g3,g4,g5,g6⟩:=zn hv
 rw [g1,g2,g3,g4,g5,g6] at hf
 unfold kg at h
 generalize dU (v / 1048576)=c1 at *
 generalize dU (v / 65536 % 16)=c2 at *
 generalize dU (v / 4096 % 16)=c3 at *
 generalize dU (v / 256 % 16)=c4 at *
 generalize dU (v / 16 % 16)=c5 at *
 generalize dU (v % 16)=c6 at *
 generalize v+16777216=m at ho hf
 simp only [bh] at ho
 clear hv hk hD g1 g2 g3 g4 g5 g6
 refine eN func115 rfl ntmps115 fun hO=>?_
 repeat' first|apply fK|apply eg|apply dx|apply eh|apply fL|apply bU|apply fQ|apply bW|apply bJ|apply cE|apply bV|apply bI|apply bo|apply fO|(apply bp;(· rfl))|(apply cC;simp only [bg])|(apply dq;(· rfl);(· simp only [go_sem, *,ai];try rfl);(· rfl);simp only [putA])|(apply eo;simp only [putA])|apply cF|(apply cZ [];(· simp only [go_sem, *,ai];try rfl);(· rfl);(· simp only [go_sem, *,ai];try rfl);(· rfl);(iterate 2 (· simp only [go_sem, *,ai];try rfl));(first|apply hc|apply hR|apply hf);simp only [aV,putA])|(apply dr;(· simp only [go_sem, *,ai];try rfl);(· rfl);(· simp only [go_sem, *,ai];try rfl))|(apply dF;(iterate 2 (· simp only [go_sem, *,ai];try rfl));(· rfl);simp only [putA])|(apply bH;(· simp only [go_sem, *,ai];try rfl);(· rfl);simp only [putA])|(apply dt;(· simp only [go_sem, *,ai];try rfl))|(apply dw;(· simp only [go_sem, *,ai];try rfl))|(apply cD;(· rfl);(fail_if_success (focus (show _=some true;(· simp only [go_sem, *,ai];try rfl))));(· simp only [go_sem, *,ai];try rfl);all_goals (intro hb;try simp only [aw,aE] at hb))|(apply du;(· simp only [go_sem, *,ai];try rfl);all_goals (intro hb;try simp only [aw,aE] at hb))|(apply gi;(· exact mixed);(· simp only [il,aB,aL,cM];try rfl))|(apply yC;(· decide +kernel))|(apply Ej;(repeat (apply J6;(· decide +kernel)));apply yO;(· decide +kernel);(· first|exact jJ|exact jI|exact pB|assumption);(· rfl);(iterate 3 (· simp only [go_sem, *,ai];try rfl));(· rfl);(· simp only [go_sem, *,ai];try rfl);simp only [putA])|(apply Ej;(repeat (apply J6;(· decide +kernel)));apply D4;(· decide +kernel);(· first|exact jJ|exact jI|exact pB|assumption);(· rfl);(iterate 2 (· simp only [go_sem, *,ai];try rfl));(· rfl);simp only [putA])|(apply Ej;(repeat (apply MF;(· decide +kernel)));apply D5;(· decide +kernel))|(apply uQ;(iterate 3 (· simp only [go_sem, *,ai];try rfl));(· rfl);simp only [putA])|(apply C7;(iterate 2 (· simp only [go_sem, *,ai];try rfl));(· rfl);simp only [putA])|apply x9|apply uH|apply CY|apply au|apply ic|(apply ou;(· decide +kernel))|(apply uK;(· simp only [go_sem, *,ai];try rfl))|(apply iI [];(iterate 2 (· simp only [go_sem, *,ai];try rfl));(· rfl);(· simp only [go_sem, *,ai];try rfl);(· rfl);(iterate 2 (· simp only [go_sem, *,ai];try rfl));(first|apply hc|apply hR|apply hf);simp only [cV,putA])|fail
 all_goals refine fR results115 ?_
 all_goals exact h
theorem Jf(w0:World)(hD:zX w0)(hN:Ek w0)(S:List aH)(n:Int)(hk:jh 1 n=true)(R:Rt)(h:∀ x,R (.ret (.tup [.str x,.int .i64 0])) S):aj prog w0 115 [.agg [.int .i64 1,.int .i64 n]] S R:=by
 have hc:=fun S'=>hH w0 S' 1 n
 rw [hk,if_pos rfl] at hc
 have hR:=fun S'=>KS w0 hN S' n hk
 have HD:=ab hD
 clear hk hN hD
 refine eN func115 rfl ntmps115 fun hO=>?_
 repeat' first|refine st ?_|(refine ca ?_;first|apply hc|apply hR)|(refine br ?_ ?_<;>intro hb)|fail
 intro v hv
 have ho:=OG hv
 have hf:=fun S'=>Lh w0 HD.out S' (v+16777216) (by omega) (by omega)
 obtain⟨g1,g2,g3,g4,g5,g6⟩:=zn hv
 rw [g1,g2,g3,g4,g5,g6] at hf
 generalize dU (v / 1048576)=c1 at *
 generalize dU (v / 65536 % 16)=c2 at *
 generalize dU (v / 4096 % 16)=c3 at *
 generalize dU (v / 256 % 16)=c4 at *
 generalize dU (v / 16 % 16)=c5 at *
 generalize dU (v % 16)=c6 at *
 generalize v+16777216=m at ho hf
 simp only [bh] at ho
 clear hv g1 g2 g3 g4 g5 g6
 repeat' first|apply fK|apply eg|apply dx|apply eh|apply fL|apply bU|apply fQ|apply bW|apply bJ|apply cE|apply bV|apply bI|apply bo|apply fO|(apply bp;(· rfl))|(apply cC;simp only [bg])|(apply dq;(· rfl);(· simp only [go_sem, *,ai];try rfl);(· rfl);simp only [putA])|(apply eo;simp only [putA])|apply cF|(apply cZ [];(· simp only [go_sem, *,ai];try rfl);(· rfl);(· simp only [go_sem, *,ai];try rfl);(· rfl);(iterate 2 (· simp only [go_sem, *,ai];try rfl));(first|apply hf);simp only [aV,putA])|(apply dr;(· simp only [go_sem, *,ai];try rfl);(· rfl);(· simp only [go_sem, *,ai];try rfl))|(apply dF;(iterate 2 (· simp only [go_sem, *,ai];try rfl));(· rfl);simp only [putA])|(apply bH;(· simp only [go_sem, *,ai];try rfl);(· rfl);simp only [putA])|(apply dt;(· simp only [go_sem, *,ai];try rfl))|(apply dw;(· simp only [go_sem, *,ai];try rfl))|(apply cD;(· rfl);(fail_if_success (focus (show _=some true;(· simp only [go_sem, *,ai];try rfl))));(· simp only [go_sem, *,ai];try rfl);all_goals (intro hb;try simp only [aw,aE] at hb))|(apply du;(· simp only [go_sem, *,ai];try rfl);all_goals (intro hb;try simp only [aw,aE] at hb))|(apply gi;(· exact mixed);(· simp only [il,aB,aL,cM];try rfl))|(apply yC;(· decide +kernel))|(apply Ej;(repeat (apply J6;(· decide +kernel)));apply yO;(· decide +kernel);(· first|exact jJ|exact jI|exact pB|assumption);(· rfl);(iterate 3 (· simp only [go_sem, *,ai];try rfl));(· rfl);(· simp only [go_sem, *,ai];try rfl);simp only [putA])|(apply Ej;(repeat (apply J6;(· decide +kernel)));apply D4;(· decide +kernel);(· first|exact jJ|exact jI|exact pB|assumption);(· rfl);(iterate 2 (· simp only [go_sem, *,ai];try rfl));(· rfl);simp only [putA])|(apply Ej;(repeat (apply MF;(· decide +kernel)));apply D5;(· decide +kernel))|(apply uQ;(iterate 3 (· simp only [go_sem, *,ai];try rfl));(· rfl);simp only [putA])|(apply C7;(iterate 2 (· simp only [go_sem, *,ai];try rfl));(· rfl);simp only [putA])|apply x9|apply uH|apply CY|apply au|apply ic|(apply ou;(· decide +kernel))|(apply uK;(· simp only [go_sem, *,ai];try rfl))|(apply iI [];(iterate 2 (· simp only [go_sem, *,ai];try rfl));(· rfl);(· simp only [go_sem, *,ai];try rfl);(· rfl);(iterate 2 (· simp only [go_sem, *,ai];try rfl));(first|apply hf);simp only [cV,putA])|fail
 all_goals refine fR results115 ?_
 all_goals exact h _
theorem Jg(n:Int)(hk:jh 0 n=true)(R:Rt)(h:R (.ret (.tup [.str [],.int .i64 2])) S):aj prog w0 115 [.agg [.int .i64 0,.int .i64 n]] S R:=by
 have hc:=fun S'=>hH w0 S' 0 n
 rw [hk,if_pos rfl] at hc
 have hR:=fun S'=>KT w0 S' n hk
 clear hk
 refine eN func115 rfl ntmps115 fun hO=>?_
 repeat' first|refine st ?_|(refine ca ?_;first|apply hc|apply hR)|(refine br ?_ ?_<;>intro hb)|fail
 refine fR results115 ?_
 exact h
theorem Je(k n:Int)(hk:jh k n=false)(R:Rt)(h:R (.ret (.tup [.str [],.int .i64 130])) S):aj prog w0 115 [.agg [.int .i64 k,.int .i64 n]] S R:=by
 have hc:=fun S'=>hH w0 S' k n
 rw [hk,if_neg (by decide)] at hc
 clear hk
 refine eN func115 rfl ntmps115 fun hO=>?_
 repeat' first|refine st ?_|(refine ca ?_;apply hc)|(refine br ?_ ?_<;>intro hb)|fail
 refine fR results115 ?_
 exact h
theorem Jd(w0:World)(hD:zX w0)(hN:Ek w0)(S:List aH)(k n:Int)(R:Rt)
  (hG:k=2→jh 2 n=true→R (.ret (.tup [.str (kg n.toNat),.int .i64 0])) S) (hB:∀ x e,¬ (k=2∧jh 2 n=true)→(((e:Int)==0)&&((k:Int)==2))=false→R (.ret (.tup [.str x,.int .i64 e])) S):aj prog w0 115 [.agg [.int .i64 k,.int .i64 n]] S R:=by
 cases hc:jh k n with
 | false=>exact Je w0 S k n hc R (hB [] 130 (by rintro⟨rfl,e⟩;rw [e] at hc;cases hc) rfl)
 | true =>
  have hk:k=0∨k=1∨k=2:=by
   simp [jh] at hc
   omega
  rcases hk with rfl|rfl|rfl
  ·exact Jg w0 S n hc R (hB _ _ (by simp) rfl)
  ·exact Jf w0 hD hN S n hc R (fun x=>hB x 0 (by simp) rfl)
  ·have hb:0≤n∧n≤16777215:=by simpa [jh,wI] using hc
   obtain⟨v,rfl⟩:∃ v:Nat,n=v:=⟨n.toNat,by omega⟩
   exact He w0 hD S 2 v v (by omega) hc (fun S' R h=>KU w0 S' v hc R h) R (hG rfl hc)
theorem vr(l:List UInt8)(c:UInt8):(Lib.countByte l c:Int)=(l.count c:Nat):=rfl
theorem Lq(s:List UInt8)(R:Rt)(h:R (.ret (.int .i64 (s.count 47:Nat))) S):aj prog w0 317 [.str s,.str [47]] S R:=by
 refine aj.lib (vs:=[.string ⟨s.toArray⟩,.string ⟨#[47]⟩]) (v:=.int .i64 (s.count 47:Nat)) (c:=.int .i64 (s.count 47:Nat)) (Go.Proofs.enters_of func317 (by kernel_rfl) rfl) rfl rfl ?_ h
 intro w hb
 refine(Go.Proofs.Any.strings_Count_one Go.Proofs.Tryz.lays138 ⟨s.toArray⟩ 47 w).mono ?_
 rintro e w' ⟨rfl,rfl⟩
 refine⟨by rw [← vr],pg _ _⟩
theorem Mn(s:List UInt8)(R:Rt)(h:R (.ret (.int .i64 (cX s 47))) S):aj prog w0 307 [.str s,.int .u8 47] S R:=by
 refine aj.lib (vs:=[.string ⟨s.toArray⟩,.int .u8 47]) (v:=.int .i64 (cX s 47)) (c:=.int .i64 (cX s 47)) (Go.Proofs.enters_of func307 (by kernel_rfl) rfl) rfl rfl ?_ h
 intro w hb
 refine(Go.Proofs.Any.stringslite_IndexByte Go.Proofs.Tryz.lays217 ⟨s.toArray⟩ 47 w).mono ?_
 rintro e w' ⟨rfl,rfl⟩
 exact⟨rfl,pg _ _⟩
theorem FG(s:List UInt8)(R:Rt)(h:R (.ret (.int .i64 (cX s 47))) S):aj prog w0 281 [.str s,.str [47]] S R:=by
 have hi:=fun S'=>Mn w0 S' s
 by_cases hs:s=[47]
 ·subst hs
  have h:R (.ret (.int .i64 0)) S:=h
  clear hi
  refine eN func281 rfl ntmps281 fun hO=>?_
  repeat' first|refine st ?_|(refine br ?_ ?_<;>intro hb)|fail
  refine fR results281 ?_
  exact h
 ·have hne:(([47]:List UInt8)==s)=false:=by
   rw [beq_eq_false_iff_ne]
   exact fun e=>hs e.symm
  generalize cX s 47=i at h hi
  clear hs
  refine eN func281 rfl ntmps281 fun hO=>?_
  repeat' first|refine st ?_|(refine ca ?_;apply hi)|(refine br ?_ ?_<;>intro hb)|fail
  refine fR results281 ?_
  exact h
theorem I8(s:List UInt8)(R:Rt)(h:R (.ret (.int .i64 (cX s 47))) S):aj prog w0 318 [.str s,.str [47]] S R:=by
 have hi:=fun S'=>FG w0 S' s
 generalize cX s 47=i at h hi
 refine eN func318 rfl ntmps318 fun hO=>?_
 repeat' first|refine st ?_|(refine ca ?_;apply hi)|(refine br ?_ ?_<;>intro hb)|fail
 refine fR results318 ?_
 exact h
def fw:List UInt8→List (List UInt8)
 | []=>[[]]
 | b::r=>if b=47 then []::fw r else match fw r with
  | []=>[[b]]
  | w::ws=>(b::w)::ws
theorem Cc:∀ s,fw s≠[]
 | []=>by simp [fw]
 | b::r=>by
  unfold fw
  split
  ·simp
  ·split<;>simp
theorem zf:∀ {w r:List UInt8},(∀ b∈w,b≠47)→fw (w++47::r)=w::fw r
 | [],r,_=>by simp [fw]
 | b::w,r,h=>by
  have ih:=zf (w:=w) (r:=r) (fun x hx=>h x (by simp [hx]))
  simp only [ft]
  rw [fw,if_neg (h b (by simp)),ih]
theorem ze:∀ {w:List UInt8},w.count 47=0→fw w=[w]
 | [],_=>rfl
 | b::w,h=>by
  have hb:b≠47:=by rintro rfl;simp at h
  rw [yV (by simpa using hb)] at h
  rw [fw,if_neg hb,ze h]
theorem Ho:∀ {s:List UInt8},0<s.count 47→∃ w r,s=w++47::r∧(∀ b∈w,b≠47)∧cX s 47=(w.length:Int)
 | [],h=>by simp at h
 | b::l,h=>by
  by_cases hb:b=47
  ·subst hb
   exact⟨[],l,rfl,by simp,by simp [cX]⟩
  ·rw [yV (by simpa using hb)] at h
   obtain⟨w,r,h1,h2,h3⟩:=Ho h
   refine⟨b::w,r,by rw [h1];rfl, ?_, ?_⟩
   ·intro x hx
    rcases bz.1 hx with rfl|hx
    ·exact hb
    ·exact h2 x hx
   ·have h1':(b==47)=false:=by simpa using hb
    rw [cX,h1',h3]
    simp
    try omega
def mg(D:List (List UInt8))(k:Nat):List AV:=D.map AV.str++a7 k (.str [])
theorem zj(D:List (List UInt8))(k:Nat):(mg D (k+1))[D.length]? = some (.str []):=by
 unfold mg
 rw [aD (by simp)]
 simp
theorem zi(D:List (List UInt8))(k:Nat)(w:List UInt8):(mg D (k+1)).set D.length (.str w)=mg (D++[w]) k:=by
 unfold mg
 rw [fb _ _ (by simp)]
 simp [lL]
theorem uy(D:List (List UInt8))(k:Nat):(mg D k).length=D.length+k:=by
 unfold mg;simp
theorem ti(D:List (List UInt8))(k:Nat):plainL (mg D k)=true:=by
 unfold mg
 induction D with
 | nil =>
  simp only [aq,fS]
  induction k with
  | zero=>rfl
  | succ k ih=>rw [lL,plainL,ih];rfl
 | cons d D ih=>simp only [ap,ft,plainL,ih];rfl
theorem JD(s:List UInt8)(hs:s.length≤100000)(R:Rt)(h:∀ b,R (.ret (.sval b ((fw s).map AV.str))) S):aj prog w0 292 [.str s,.str [47],.int .i64 0,.int .i64 (-1)] S R:=by
 have hct:=fun S'=>Lq w0 S' s
 have hcl:s.count 47≤s.length:=List.count_le_length
 obtain⟨c,hc⟩:∃ c,c=s.count 47:=⟨_,rfl⟩
 rw [← hc] at hct
 have w1:ae.wrap ((c:Int)+1)=((c+1:Nat):Int):=by rw [ah _ (by omega)];omega
 have w2:ae.wrap ((s.length:Int)+1)=((s.length+1:Nat):Int):=by rw [ah _ (by omega)];omega
 have hmn:(if ((s.length+1:Nat):Int)<((c+1:Nat):Int) then ((s.length+1:Nat):Int) else ((c+1:Nat):Int))=((c+1:Nat):Int):=by rw [if_neg (by omega)]
 have w3:ae.wrap (((c+1:Nat):Int) - 1)=(c:Int):=by rw [ah _ (by omega)];omega
 have b1:((c+1:Nat):Int) * 16≤140737488355328:=by omega
 have b2:((c+1:Nat):Int) * ((16:Nat):Int)≤140737488355328:=by omega
 have b3:((c+1:Nat):Int)≤((c+1:Nat):Int):=Eu _
 have hrp:a7 (c+1) (AV.str [])=mg [] (c+1):=rfl
 have H:=ab h
 have Hs:=ab (a6 hs (a6 hcl hc))
 clear h hs hcl hc
 refine eN func292 rfl ntmps292 fun hO=>?_
 repeat' first|refine st ?_|(refine ca ?_;apply hct)|(refine br ?_ ?_<;>intro hb)|fail
 refine cW (fun (p:List (List UInt8) × List UInt8) env S'=>p.1++fw p.2=fw s∧p.1.length+p.2.count 47=c∧p.2.length≤s.length∧env 1000000=.dfr []∧env 0=.str p.2∧env 1=.str [47]∧env 2=.int .i64 0∧env 3=.int .i64 c∧env 9=.sown S.length 0 (c+1)∧env 10=.int .i64 (p.1.length:Int) ∧
  S'=S++[aH.arr 9 1 0 0 (mg p.1 (c+1 - p.1.length))]) (fun p=>p.2.length) ([],s) ?_ ?_
 ·obtain⟨hs,hcl,hc⟩:=Hs.out
  exact⟨rfl,by simp [hc],a8 _,ss,ss,ss,ss,ss,ss,ss,rfl⟩
 ·rintro⟨D,u⟩ env S' ⟨hD,hDc,hul,e0,f0,f1,f2,f3,f9,f10,rfl⟩ IH
  simp only at hD hDc hul f0 f10
  have HI:=ab IH
  obtain⟨hs,hcl,hc⟩:=Hs.out
  clear IH hct hrp hmn w1 w2 w3
  by_cases hu:0<u.count 47
  ·obtain⟨w,r,hwr,hw47,hix⟩:=Ho hu
   have hix2:=fun S'=>I8 w0 S' u
   rw [hix] at hix2
   have hul2:u.length=w.length+1+r.length:=by rw [hwr];simp;omega
   have hcu:u.count 47=r.count 47+1:=by
    have hw0:w.count 47=0:=List.count_eq_zero.2 (fun hh=>hw47 47 hh rfl)
    rw [hwr,List.count_append,hw0,List.count_cons_self];omega
   have h1:decide ((D.length:Int)<(c:Int))=true:=by simp;omega
   have d1:decide ((w.length:Int)<0)=false:=by simp
   have k1:ae.wrap ((w.length:Int)+0)=((w.length:Nat):Int):=by rw [ah _ (by omega)];omega
   have k2:ae.wrap ((w.length:Int)+((1:Nat):Int))=((w.length+1:Nat):Int):=by rw [ah _ (by omega)];omega
   have k3:ae.wrap ((D.length:Int)+1)=((D.length+1:Nat):Int):=by rw [ah _ (by omega)];omega
   have l1:((w.length:Nat):Int)≤(u.length:Int):=by omega
   have l2:((w.length+1:Nat):Int)≤(u.length:Int):=by omega
   have t1:pi w.length u=w:=by rw [hwr];simp
   have t2:List.drop (w.length+1) u=r:=by rw [hwr,← List.drop_drop];simp
   have t3:pi u.length u=u:=bt
   have q1:(D.length:Int)<((c+1:Nat):Int):=by omega
   have hk:c+1 - D.length=(c+1 - (D.length+1))+1:=by omega
   have hg:=zj D (c+1 - (D.length+1))
   have hse:=zi D (c+1 - (D.length+1)) w
   rw [← hk] at hg hse
   have hsl:=uy D (c+1 - D.length)
   rw [show D.length+(c+1 - D.length)=c+1 by omega] at hsl
   have hi1:(D++[w])++fw r=fw s:=by rw [← hD,hwr,zf hw47];simp
   have hi2:(D++[w]).length+r.count 47=c:=by simp;omega
   have hdl:(D++[w]).length=D.length+1:=by simp
   have Hi:=ab (a6 hi1 (a6 hi2 (a6 hdl (show r.length<u.length by omega))))
   have Hul:=ab hul
   simp only
   generalize hE:mg D (c+1 - D.length)=E at *
   generalize hE1:mg (D++[w]) (c+1 - (D.length+1))=E1 at *
   have HE1:=ab hE1
   clear hE hE1 hD hDc hul hs hcl hc hu hwr hw47 hix hul2 hcu hk hi1 hi2 hdl
   repeat' first|refine st ?_|(refine ca ?_;apply hix2)|(refine br ?_ ?_<;>intro hb)|fail
   obtain⟨hi1,hi2,hdl,hrl⟩:=Hi.out
   rw [← HE1.out]
   refine HI.out (D++[w],r) _ _ hrl ⟨hi1,hi2,by have:=Hul.out;simp only;omega, ?_, ?_, ?_, ?_, ?_, ?_, ?_, ?_⟩
   ·(simp only [go_sem, *];try rfl)
   ·(simp only [go_sem, *];try rfl)
   ·(simp only [go_sem, *];try rfl)
   ·(simp only [go_sem, *];try rfl)
   ·(simp only [go_sem, *];try rfl)
   ·(simp only [go_sem, *];try rfl)
   ·simp only [hdl];(simp only [go_sem, *];try rfl)
   ·simp only [hdl]
  ·have hu0:u.count 47=0:=by omega
   have hDl:D.length=c:=by omega
   rw [ze hu0] at hD
   have h1:decide ((D.length:Int)<(c:Int))=false:=by simp;omega
   have k3:ae.wrap ((D.length:Int)+1)=((D.length+1:Nat):Int):=by rw [ah _ (by omega)];omega
   have q1:(D.length:Int)<((c+1:Nat):Int):=by omega
   have hk:c+1 - D.length=0+1:=by omega
   have hg:=zj D 0
   have hse:=zi D 0 u
   rw [← hk] at hg hse
   have hsl:=uy D (c+1 - D.length)
   rw [show D.length+(c+1 - D.length)=c+1 by omega] at hsl
   have hE2:mg (D++[u]) 0=(fw s).map AV.str:=by rw [hD];simp [mg]
   rw [hE2] at hse
   have hh:=H.out
   have hpl:plainL ((fw s).map AV.str)=true:=by rw [← hE2];exact ti _ _
   have hl2:((fw s).map AV.str).length=c+1:=by rw [← hE2,uy];simp;omega
   have hall:((fw s).map AV.str).all (fun el=>el.cells.length==1)=true:=by
    rw [aC]
    intro x hx
    obtain⟨y,_,rfl⟩:=aM.1 hx
    rfl
   simp only [AV.cells] at hall
   have q2:((D.length+1:Nat):Int)≤((c+1:Nat):Int):=by omega
   have htk:pi (D.length+1) ((fw s).map AV.str)=(fw s).map AV.str:=dV (by omega)
   have hlt:ltL S.length ((fw s).map AV.str)=true:=db.2 fun x hx=>by obtain⟨y,_,rfl⟩:=aM.1 hx;rfl
   simp only
   generalize hE:mg D (c+1 - D.length)=E at *
   generalize (fw s).map AV.str=F at *
   clear hE hE2 hD hDc hul hs hcl hc hu hk HI hu0 hDl
   repeat' first|refine st ?_|(refine br ?_ ?_<;>intro hb)|fail
   refine po (t:=62) (a:=S.length) (by decide) ss ss ?_
   repeat' first|refine st ?_|(refine br ?_ ?_<;>intro hb)|fail
   refine fR results292 ?_
   exact hh _
end Go.Proofs.YthdbijpefkapnaaGreatDoor
