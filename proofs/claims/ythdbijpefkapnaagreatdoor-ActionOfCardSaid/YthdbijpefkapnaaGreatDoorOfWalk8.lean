/- A part of the proof. -/
import Derived.Test.YthdbijpefkapnaaGreatDoorOfWalk7
import Derived.Shelf.Strings.Count
set_option linter.all false
set_option maxHeartbeats 40000000
open And renaming intro → a7
open BitVec renaming ofInt → ar, toNat_and → Fz, toNat_ofInt → cH, toNat_or → IU
open Bool renaming not_eq_false' → aE, not_eq_true' → ay
open Go.IntKind renaming bits → bk, i64 → ae, u64 → aW
open Go.IntWalk renaming i64_in → ai, u64_in → iQ
open Go.Lib renaming hid → ab, indexByte → dd
open Go.RowKit.Below renaming refl → pR
open Int renaming le_refl → Fy
open List renaming all_eq_true → aD, cons_append → fQ, count_cons_of_ne → z8, drop_eq_getElem_cons → qK, getElem?_append_right → aA, getElem?_eq_getElem → ap, getElem?_eq_some_iff → af, length → jI, length_append → ah, length_cons → aB, length_map → bi, length_nil → aI, length_pos_iff → pV, map_cons → al, map_nil → aj, mem_cons → bD, mem_map → aN, nil_append → gu, replicate → a8, replicate_succ → ml, set_append_right → eI, size_toArray → iM, take → rg, take_add_one → jW, take_length → bC, take_of_length_le → dJ, toList_toArray → bj
open Nat renaming and_two_pow_sub_one_eq_mod → z6, le_refl → ba, mod_lt → eh, pow_le_pow_right → gM, reduceAdd → cW, zero_le → bf
open UInt8 renaming ofNat → az, ofNat_toNat → cw
namespace Go.Proofs.YthdbijpefkapnaaGreatDoor
open Go Go.Fen Go.Proofs.Tryz
attribute [local irreducible] aX WP ao dS i7 cJ aU cC
set_option maxRecDepth 8000
variable (w0:World) (S:List aH)
theorem He(s:List UInt8)(hs:s.length≤8192)(R:Rt)(h:R (.ret (Lh (qv s))) S):ao prog w0 209 [.str s] S R:=by
 have hr:=fun S'=>sf w0 S' 6 8 252 S.length δ
 have d0:decide ((8192:Int)<(s.length:Int))=false:=κ
 have htr:=fun S'=>Bj w0 S' s ω
 have hva:=G1 w0
 have htl:=C2 s
 have hmm:(s.length:Int).tmod 4=((s.length % 4:Nat):Int):=wH s.length 4
 have hwd:ae.wrap ((s.length:Int) - ((iA s).length:Int))=((s.length - (iA s).length:Nat):Int):=by rw [ai _ ω];omega
 have hlk:=fun S' c=>Rl S' c
 unfold qv at h
 have bad:((iA s).length≠s.length∧(s.length % 4≠0∨2<s.length - (iA s).length))→R (.ret (.tup [.str [],.int .i64 6])) S:=fun e=>by rw [if_pos e] at h;exact h
 have good:¬ ((iA s).length≠s.length∧(s.length % 4≠0∨2<s.length - (iA s).length))→R (.ret (Lh (match hH (iA s) with|none=>none|some V=>if (dV V).wait=6∨(dV V).rest≠0 then none else some ((dV V).out.map az)))) S:=fun e=>by rw [if_neg e] at h;exact h
 clear h
 generalize iA s=t at *
 generalize fx 64=M at hva hlk
 have Bad:=ab bad
 have Good:=ab good
 have Hlk:=ab hlk
 have Hva:=ab hva
 have Hr:=ab hr
 clear bad good hlk hva hr
 by_cases hA:(t.length≠s.length∧(s.length % 4≠0∨2<s.length - t.length))
 ·have hh:=Bad.out hA
  have b1:((t.length:Int) != (s.length:Int))=true:=by rw [bne_iff_ne];omega
  by_cases hB:s.length % 4=0
  ·have b2:(((s.length % 4:Nat):Int) != 0)=false:=by rw [hB];rfl
   have b3:decide ((2:Int)<((s.length - t.length:Nat):Int))=true:=κ
   clear hA hB hs htl
   exact γR1 htr func209 ntmps209 results209 hh
  ·have b2:(((s.length % 4:Nat):Int) != 0)=true:=by rw [bne_iff_ne];omega
   clear hA hB hs htl
   exact γR1 htr func209 ntmps209 results209 hh
 have good:=Good.out hA
 clear Bad Good
 by_cases ht0:t=[]
 ·subst ht0
  have good:R (.ret (.tup [.str [],.int .i64 0])) S:=good
  have hbe:=fun S' ha=>tr w0 S' S.length ha
  have hva:=Hva.out
  have hr:=Hr.out
  have hc0:((0:Nat):Int)=0:=rfl
  by_cases hs0:s.length=0
  ·have b1:((0:Int) != (s.length:Int))=false:=by rw [hs0];rfl
   clear hA hs0 hs htl
   refine eN func209 rfl ntmps209 fun hO=>?_
   repeat' first|refine st ?_|(refine ca ?_;first|apply htr|apply hr|apply hva|(apply hbe;(· simp only [go_sem, *];try rfl)))|(refine br ?_ ?_<;>intro hb)|apply cS|apply gn|fail
   refine fR results209 ?_
   exact good
  ·have b1:((0:Int) != (s.length:Int))=true:=by rw [bne_iff_ne];omega
   simp at hA
   have b2:(((s.length % 4:Nat):Int) != 0)=false:=by rw [bne_eq_false_iff_eq];omega
   have b3:decide ((2:Int)<((s.length - ([]:List UInt8).length:Nat):Int))=false:=κ
   exfalso
   omega
 have Good:=ab good
 have hpos:0<t.length:=pV.2 ht0
 clear good ht0
 have HA:=ab (a7 hA (a7 hs htl))
 have Hpos:=ab hpos
 clear hA hs htl hpos
 refine eN func209 rfl ntmps209 fun hO=>?_
 refine share ?K1 ?hK1 fun key1=>?main
 case main =>
  have hva:=Hva.out
  have hr:=Hr.out
  replace key1:=ab key1
  obtain⟨hA,hs,htl⟩:=HA.out
  by_cases h1:t.length=s.length
  ·have b1:((t.length:Int) != (s.length:Int))=false:=by rw [h1];simp
   clear hA h1 hs htl
   refine ε3 htr hr hva ?_
   refine g_ [1000000,4,5,6,7,8,9,41,42] ?_
   simp only [fb,go_sem]
   exact key1.out
  ·have b1:((t.length:Int) != (s.length:Int))=true:=by rw [bne_iff_ne];omega
   have b2:(((s.length % 4:Nat):Int) != 0)=false:=by rw [bne_eq_false_iff_eq];omega
   have b3:decide ((2:Int)<((s.length - t.length:Nat):Int))=false:=κ
   clear hA h1 hs htl
   refine ε3 htr hr hva ?_
   refine g_ [1000000,4,5,6,7,8,9,41,42] ?_
   simp only [fb,go_sem]
   exact key1.out
 case hK1 =>
  rintro env ⟨e0,f4,f5,f6,f7,f8,f9,f41,f42⟩
  clear htr
  refine nr (a:=S.length) (j:=1) 5 1 ss ss δ ?_
  simp only [go_sem, *]
  refine cD (fun (p:Nat × Nat × AV × List Nat) env S'=>p.1≤t.length∧(p.2.2.1=.nilp∨p.2.2.1=.own S.length 0)∧hH (t.take p.1)=some p.2.2.2∧env 1000000=.dfr []∧env 4=.str t∧env 5=.own S.length 0∧env 6=.fn (.func 231) [] [.own (S.length+5) 0,.own (S.length+1) 0,.own (S.length+4) 0,.own (S.length+2) 0,.own (S.length+3) 0] ∧
   env 7=.mval M∧env 8=.int .i64 ((mf p.2.2.2).wait:Nat)∧env 9=.int .i64 ((mf p.2.2.2).rest:Nat)∧env 41=.int .i64 t.length∧env 42=.int .i64 (p.1:Int) ∧
   S'=S++eG S.length p.2.2.1 p.2.1 ((mf p.2.2.2).out.map az) 6 8 (.fn (.func 252) [] [.own S.length 0]) ((mf p.2.2.2).wait:Nat) ((mf p.2.2.2).rest:Nat)) (fun p=>t.length - p.1) (0,0,.nilp,[]) ?_ ?_
  ·exact⟨bf _,.inl rfl,rfl,ss,ss,ss,ss,ss,ss,ss,ss,ss,rfl⟩
  ·clear e0 f4 f5 f6 f7 f8 f9 f41 f42
   rintro⟨k,i,ad,V⟩ env S' ⟨hk,had,hV,e0,f4,f5,f6,f7,f8,f9,f41,f42,rfl⟩ IH
   simp only at hk had hV f8 f9 f42
   have HI:=ab IH
   obtain⟨hVm,hV64⟩:=pZ hV
   have hVl:V.length=k:=by have:=congrArg jI hVm;simp at this;omega
   obtain⟨hi1,hi2⟩:=Ak V.length V rfl hV64
   obtain⟨hA,hs,htl⟩:=HA.out
   clear IH hVm
   by_cases hlt:k<t.length
   ·obtain⟨c,hx⟩:∃ c,t[k]? = some c:=⟨_,ap hlt⟩
    have h1:decide ((k:Int)<(t.length:Int))=true:=by simpa using hlt
    have hw:ae.wrap ((k:Int)+1)=(k:Int)+1:=ai _ ω
    have hlk:=fun S'=>Hlk.out S' c
    cases hc:ja c with
    | none =>
     have hbad:hH t=none:=wS hx hc
     have hh:=Good.out
     rw [hbad] at hh
     have hh:R (.ret (.tup [.str [],.int .i64 6])) S:=hh
     simp only [hc,NX] at hlk
     have Hlk2:=ab hlk
     clear hlk hbad hc hlt hk had hV hs htl hA hi1 hi2 hVl hV64 HI
     unfold eG
     refine ε0 ?_
     refine dM (v:=.tup [.int .i64 0,.bool false]) ss (Aj (Hlk2.out _)) ss ?_
     simp only [putA]
     refine ε0 ?_
     refine fR results209 ?_
     exact hh
    | some v =>
     have hv:v<64:=(rS hc).1
     have hV2:hH (t.take (k+1))=some (V++[v]):=by
      rw [jW,hx]
      show hH (t.take k++[c])=_
      rw [Be,hV,hc]
      rfl
     simp only [hc,NX] at hlk
     have hg:=Nz w0 S hO ad had i (mf V) v hv hi1 ω
     rw [← xa] at hg
     generalize hp1:((mf (V++[v])).wait:Int)=p1 at hg
     generalize hp2:((mf (V++[v])).rest:Int)=p2 at hg
     generalize hp3:(mf (V++[v])).out.map az=p3 at hg
     have Hp:=ab (a7 hp1 (a7 hp2 hp3))
     clear hp1 hp2 hp3
     unfold eG at hg
     simp only at hg ⊢
     generalize ((mf V).wait:Int)=q1 at *
     generalize ((mf V).rest:Int)=q2 at *
     generalize (mf V).out.map az=q3 at *
     have Hlt:=ab hlt
     have HO:=ab hO
     have Hlk2:=ab hlk
     have HV2:=ab hV2
     clear hlk hc hlt hk had hV hs htl hA hi1 hi2 hVl hV64 hO hv hV2
     unfold eG
     refine ε0 ?_
     refine dM (v:=.tup [.int .i64 v,.bool true]) ss (Aj (Hlk2.out _)) ss ?_
     simp only [putA]
     refine ε1 hg ?_
     intro ad' i' had'
     have Had:=ab had'
     clear had'
     refine ε0 ?_
     obtain⟨hp1,hp2,hp3⟩:=Hp.out
     subst hp1 hp2 hp3
     refine HI.out (k+1,i',ad',V++[v]) _ _ (by have:=Hlt.out;simp only;omega) ⟨Hlt.out,Had.out,HV2.out, ?_, ?_, ?_, ?_, ?_, ?_, ?_, ?_, ?_,rfl⟩
     all_goals (simp only [go_sem, *];try rfl)
   ·have hkl:k=t.length:=ω
    subst hkl
    have h1:decide ((t.length:Int)<(t.length:Int))=false:=χ
    rw [bC] at hV
    have hh:=Good.out
    rw [hV] at hh
    simp only at hh
    rw [← xb V hV64] at hh
    have hol:=tc V
    have hwi:=ta V
    rw [← xb V hV64] at hol hwi
    have hp:=Hpos.out
    simp only
    by_cases hw6:(mf V).wait=6
    ·rw [if_pos (.inl hw6)] at hh
     have hh:R (.ret (.tup [.str [],.int .i64 6])) S:=hh
     have d1:(((mf V).wait:Int)==6)=true:=by rw [hw6];rfl
     clear hk had hV hs htl hA hi1 hi2 hVl hV64 HI hw6 hol hwi hp hlt
     unfold eG
     generalize ((mf V).wait:Int)=q1 at *
     generalize ((mf V).rest:Int)=q2 at *
     refine ε0 ?_
     refine fR results209 ?_
     exact hh
    ·have d1:(((mf V).wait:Int)==6)=false:=ν
     by_cases hr0:(mf V).rest=0
     ·rw [if_neg ω] at hh
      have hh:R (.ret (.tup [.str ((mf V).out.map az),.int .i64 0])) S:=hh
      have d2:(((mf V).rest:Int) != 0)=false:=by rw [hr0];rfl
      have hbl:1≤((mf V).out.map az).length:=by rw [bi];omega
      have hst:=Nk w0 S ad had i ((mf V).out.map az) 6 8 (.fn (.func 252) [] [.own S.length 0]) ((mf V).wait:Nat) ((mf V).rest:Nat) hbl
      have HO:=ab hO
      clear hk had hV hs htl hA hi1 hi2 hVl hV64 HI hw6 hol hwi hp hlt hr0 hbl hO
      generalize ((mf V).wait:Int)=q1 at *
      generalize ((mf V).rest:Int)=q2 at *
      generalize (mf V).out.map az=q3 at *
      unfold eG at hst ⊢
      refine ε1 hst ?_
      refine fR results209 ?_
      exact hh
     ·rw [if_pos (.inr hr0)] at hh
      have hh:R (.ret (.tup [.str [],.int .i64 6])) S:=hh
      have d2:(((mf V).rest:Int) != 0)=true:=by rw [bne_iff_ne];omega
      clear hk had hV hs htl hA hi1 hi2 hVl hV64 HI hw6 hol hwi hp hlt hr0
      generalize ((mf V).wait:Int)=q1 at *
      generalize ((mf V).rest:Int)=q2 at *
      unfold eG
      refine ε0 ?_
      refine fR results209 ?_
      exact hh
def A6(w0:World):Prop:=gl w0 11=.pro [.int .u8 0,.int .u8 1,.int .u8 56,.int .u8 2,.int .u8 57,.int .u8 49,.int .u8 28,.int .u8 3,.int .u8 61,.int .u8 58,.int .u8 42,.int .u8 50,.int .u8 38,.int .u8 29,.int .u8 17,.int .u8 4,.int .u8 62,.int .u8 47,.int .u8 59,.int .u8 36,.int .u8 45,.int .u8 43,.int .u8 51,.int .u8 22,.int .u8 53,.int .u8 39,.int .u8 33,.int .u8 30,.int .u8 24,.int .u8 18,.int .u8 12,.int .u8 5,.int .u8 63,.int .u8 55,.int .u8 48,.int .u8 27,.int .u8 60,.int .u8 41,.int .u8 37,.int .u8 16,.int .u8 46,.int .u8 35,.int .u8 44,.int .u8 21,.int .u8 52,.int .u8 32,.int .u8 23,.int .u8 11,.int .u8 54,.int .u8 26,.int .u8 40,.int .u8 15,.int .u8 34,.int .u8 20,.int .u8 31,.int .u8 10,.int .u8 25,.int .u8 14,.int .u8 19,.int .u8 9,.int .u8 13,.int .u8 8,.int .u8 7,.int .u8 6]
def Fq(w0:World):Prop:=gl w0 2=.pro [.int .i64 0,.int .i64 13434880,.int .i64 52480,.int .i64 13487360,.int .i64 238,.int .i64 13435085,.int .i64 52685,.int .i64 15066597,.int .i64 8355711,.int .i64 16711680,.int .i64 65280,.int .i64 16776960,.int .i64 6053119,.int .i64 16711935,.int .i64 65535,.int .i64 16777215]
def BO:List Nat:=[0,13434880,52480,13487360,238,13435085,52685,15066597,8355711,16711680,65280,16776960,6053119,16711935,65535,16777215]
theorem KL:∀ n,n<16→∃ v rr,List.drop (n * 1) ([.int .i64 0,.int .i64 13434880,.int .i64 52480,.int .i64 13487360,.int .i64 238,.int .i64 13435085,.int .i64 52685,.int .i64 15066597,.int .i64 8355711,.int .i64 16711680,.int .i64 65280,.int .i64 16776960,.int .i64 6053119,.int .i64 16711935,.int .i64 65535,.int .i64 16777215]:List AV)=.int .i64 (v:Nat)::rr∧v≤16777215:=by
 intro n hn
 have h1:(BO.map (fun v:Nat=>AV.int .i64 (v:Int)))=([.int .i64 0,.int .i64 13434880,.int .i64 52480,.int .i64 13487360,.int .i64 238,.int .i64 13435085,.int .i64 52685,.int .i64 15066597,.int .i64 8355711,.int .i64 16711680,.int .i64 65280,.int .i64 16776960,.int .i64 6053119,.int .i64 16711935,.int .i64 65535,.int .i64 16777215]:List AV):=rfl
 have h2:∀ n,n<16→∃ v,BO[n]? = some v∧v≤16777215:=by
  have:∀ n,n<16→BO.getD n 99999999≤16777215∧n<BO.length:=δ
  intro n hn
  obtain⟨h1,h2⟩:=this n hn
  refine⟨BO[n],ap h2, ?_⟩
  rwa [List.getD_eq_getElem?_getD,ap h2] at h1
 obtain⟨v,hv,hvl⟩:=h2 n hn
 refine⟨v,(BO.map (fun v:Nat=>AV.int .i64 (v:Int))).drop (n+1), ?_,hvl⟩
 have hl:=(af.1 hv)
 rw [Nat.mul_one,← h1,qK (by simpa using hl.1)]
 simp [hl.2]
theorem zf(n:Nat)(hn:n<6)(R:Rt)(h:R (.ret (.int .i64 (if n=0 then 0 else (55+40 * n:Nat):Nat))) S):ao prog w0 271 [.int .i64 n] S R:=by
 by_cases h0:n=0
 ·subst h0
  have h:R (.ret (.int .i64 0)) S:=h
  exact γR0 func271 ntmps271 results271 h
 ·rw [if_neg h0] at h
  have d1:((n:Int)==0)=false:=ν
  have w1:ae.wrap (40 * (n:Int))=((40 * n:Nat):Int):=by rw [ai _ ω];omega
  have w2:ae.wrap (55+((40 * n:Nat):Int))=((55+40 * n:Nat):Int):=by rw [ai _ ω];omega
  clear hn h0
  exact γR0 func271 ntmps271 results271 h
def Je(n:Nat):Nat:=if n=0 then 0 else 55+40 * n
theorem zj{n:Nat}(h:n<6):Je n<256:=by unfold Je;split<;>omega
theorem Nh{a b:Nat}(ha:a<16777216)(hb:b<16777216):ae.wrap (((ar ae.bits (a:Int) ||| ar ae.bits (b:Int)).toNat:Nat):Int)=((a ||| b:Nat):Int)∧a ||| b<16777216:=by
 have hl:a ||| b<2 ^ 24:=Nat.or_lt_two_pow ha hb
 refine⟨?_,hl⟩
 rw [IU]
 have e2:(ar ae.bits (a:Int)).toNat=a:=by
  show (ar 64 _).toNat=_
  rw [cH];omega
 have e3:(ar ae.bits (b:Int)).toNat=b:=by
  show (ar 64 _).toNat=_
  rw [cH];omega
 rw [e2,e3]
 exact ai _ ω
theorem LQ{a k:Nat}(ha:a<65536)(hk:k≤16):ae.wrap ((a:Int) * 2 ^ min k 64)=((a * 2 ^ k:Nat):Int):=by
 have h2:2 ^ k≤2 ^ 16:=gM ω hk
 have h3:a * 2 ^ k≤65536 * 65536:=Nat.mul_le_mul ω h2
 rw [Nat.min_eq_left ω,show ((a:Int) * 2 ^ k)=((a * 2 ^ k:Nat):Int) by simp]
 exact ai _ ω
theorem Rk(w0:World)(hN:Fq w0)(S:List aH)(n:Nat)(hn:n<256)(R:Rt)(h:∀ v:Nat,v<16777216→R (.ret (.int .i64 v)) S):ao prog w0 230 [.int .i64 n] S R:=by
 unfold Fq at hN
 by_cases h16:n<16
 ·have d1:decide ((n:Int)<16)=true:=κ
  have hk6:(n:Int)<((16:Nat):Int):=ω
  obtain⟨v,rr,hv,hvl⟩:=KL n h16
  have hh:=h v ω
  clear h hn h16 hvl
  exact γR0 func230 ntmps230 results230 hh
 have d1:decide ((n:Int)<16)=false:=κ
 by_cases h232:232≤n
 ·have d2:decide ((232:Int)≤(n:Int))=true:=κ
  have w1:ae.wrap ((n:Int) - 232)=((n - 232:Nat):Int):=by rw [ai _ ω];omega
  have w2:ae.wrap (10 * ((n - 232:Nat):Int))=((10 * (n - 232):Nat):Int):=by rw [ai _ ω];omega
  have w3:ae.wrap (8+((10 * (n - 232):Nat):Int))=((8+10 * (n - 232):Nat):Int):=by rw [ai _ ω];omega
  have w4:ae.wrap (((8+10 * (n - 232):Nat):Int) * 65793)=(((8+10 * (n - 232)) * 65793:Nat):Int):=by rw [ai _ ω];omega
  have hh:=h ((8+10 * (n - 232)) * 65793) ω
  clear h hn h16 h232 hN
  exact γR0 func230 ntmps230 results230 hh
 ·have d2:decide ((232:Int)≤(n:Int))=false:=κ
  obtain⟨m,hm⟩:∃ m,m=n - 16:=⟨_,rfl⟩
  have w1:ae.wrap ((n:Int) - 16)=(m:Int):=by rw [ai _ ω];omega
  have k1:ae.wrap ((m:Int).tdiv 36)=((m / 36:Nat):Int):=Bm m 36 ω
  have k2:ae.wrap ((m:Int).tdiv 6)=((m / 6:Nat):Int):=Bm m 6 ω
  have k3:((m / 6:Nat):Int).tmod 6=((m / 6 % 6:Nat):Int):=wH (m / 6) 6
  have k4:(m:Int).tmod 6=((m % 6:Nat):Int):=wH m 6
  have l1:=fun S'=>zf w0 S' (m / 36) ω
  have l2:=fun S'=>zf w0 S' (m / 6 % 6) ω
  have l3:=fun S'=>zf w0 S' (m % 6) ω
  have b1:=zj (n:=m / 36) ω
  have b2:=zj (n:=m / 6 % 6) ω
  have b3:=zj (n:=m % 6) ω
  rw [show (if m / 36=0 then 0 else (55+40 * (m / 36):Nat))=Je (m / 36) from rfl] at l1
  rw [show (if m / 6 % 6=0 then 0 else (55+40 * (m / 6 % 6):Nat))=Je (m / 6 % 6) from rfl] at l2
  rw [show (if m % 6=0 then 0 else (55+40 * (m % 6):Nat))=Je (m % 6) from rfl] at l3
  generalize Je (m / 36)=L1 at *
  generalize Je (m / 6 % 6)=L2 at *
  generalize Je (m % 6)=L3 at *
  have s1:=LQ (a:=L1) (k:=16) ω ω
  have s2:=LQ (a:=L2) (k:=8) ω ω
  obtain⟨a1,ha1⟩:∃ a1,a1=L1 * 2 ^ 16:=⟨_,rfl⟩
  obtain⟨a2,ha2⟩:∃ a2,a2=L2 * 2 ^ 8:=⟨_,rfl⟩
  rw [← ha1] at s1
  rw [← ha2] at s2
  obtain⟨o1,q1⟩:=Nh (a:=a1) (b:=a2) ω ω
  obtain⟨o2,q2⟩:=Nh (a:=a1 ||| a2) (b:=L3) q1 ω
  simp only [bk] at o1 o2
  have hh:=h _ q2
  generalize a1 ||| a2=a3 at *
  generalize a3 ||| L3=a4 at *
  clear h hn h16 h232 hm b1 b2 b3 ha1 ha2 q1 q2 hN
  exact γR3 l1 l2 l3 func230 ntmps230 results230 hh
theorem MA(R:Rt)(h:R (.ret (.bool true)) S):ao prog w0 303 [.int .i64 16] S R:=by
 have f1:ae.wrap 15=15:=δ
 have f2:ae.wrap (((ar ae.bits 16 &&& ar ae.bits 15).toNat:Nat):Int)=0:=δ
 simp only [bk] at f2
 exact γR0 func303 ntmps303 results303 h
theorem Nt(w0:World)(hD:A6 w0)(S:List aH)(R:Rt)(h:R (.ret (.int .i64 4)) S):ao prog w0 326 [.int .u64 16] S R:=by
 unfold A6 at hD
 have f1:aW.wrap (-16)=18446744073709551600:=δ
 have f2:aW.wrap (((ar aW.bits 16 &&& ar aW.bits 18446744073709551600).toNat:Nat):Int)=16:=δ
 have f3:aW.wrap (16 * 285870213051353865)=4573923408821661840:=δ
 have f4:(4573923408821661840:Int).fdiv (2 ^ min 58 64)=15:=δ
 have f5:ae.wrap 4=4:=δ
 simp only [bk] at f2
 exact γR0 func326 ntmps326 results326 h
theorem tz(w0:World)(hD:A6 w0)(S:List aH)(R:Rt)(h:R (.ret (.int .i64 4)) S):ao prog w0 304 [.int .u64 16] S R:=by
 have ht:=Nt w0 hD
 exact γR1 ht func304 ntmps304 results304 h
theorem Ci{m k:Nat}(hm:m<4294967296)(hk:k≤16):aW.wrap (((ar aW.bits (m:Int) &&& ar aW.bits ((2 ^ k - 1:Nat):Int)).toNat:Nat):Int)=((m % 2 ^ k:Nat):Int):=by
 rw [Fz]
 have h2:2 ^ k≤2 ^ 16:=gM ω hk
 have h0:0<2 ^ k:=Nat.two_pow_pos k
 have e1:(ar aW.bits (m:Int)).toNat=m:=by
  show (ar 64 _).toNat=_
  rw [cH];omega
 have e2:(ar aW.bits ((2 ^ k - 1:Nat):Int)).toNat=2 ^ k - 1:=by
  show (ar 64 _).toNat=_
  rw [cH];omega
 rw [e1,e2,z6 m k]
 have:=eh m h0
 exact iQ _ ω
theorem Nn:Go.Fen.zeroA prog 315=some [.int .u8 0,.int .u8 0,.int .u8 0,.int .u8 0,.int .u8 0,.int .u8 0,.int .u8 0,.int .u8 0,.int .u8 0,.int .u8 0,.int .u8 0,.int .u8 0,.int .u8 0,.int .u8 0,.int .u8 0,.int .u8 0,.int .u8 0,.int .u8 0,.int .u8 0,.int .u8 0,.int .u8 0,.int .u8 0,.int .u8 0,.int .u8 0,.int .u8 0,.int .u8 0,.int .u8 0,.int .u8 0,.int .u8 0,.int .u8 0,.int .u8 0,.int .u8 0,.int .u8 0,.int .u8 0,.int .u8 0,.int .u8 0,.int .u8 0,.int .u8 0,.int .u8 0,.int .u8 0,.int .u8 0,.int .u8 0,.int .u8 0,.int .u8 0,.int .u8 0,.int .u8 0,.int .u8 0,.int .u8 0,.int .u8 0,.int .u8 0,.int .u8 0,.int .u8 0,.int .u8 0,.int .u8 0,.int .u8 0,.int .u8 0,.int .u8 0,.int .u8 0,.int .u8 0,.int .u8 0,.int .u8 0,.int .u8 0,.int .u8 0,.int .u8 0,.int .u8 0]:=by kernel_rfl
theorem qu:∀ d,d<16→([48,49,50,51,52,53,54,55,56,57,97,98,99,100,101,102,103,104,105,106,107,108,109,110,111,112,113,114,115,116,117,118,119,120,121,122]:List UInt8)[d]? = some (eb d):=by decide +kernel
theorem H9(w0:World)(hD:A6 w0)(S:List aH)(m:Nat)(h1:16777216≤m)(h2:m<33554432)(R:Rt)
  (h:∀ v,R (.ret (.tup [v,.str [49,eb (m / 16 / 16 / 16 / 16 / 16 % 16),eb (m / 16 / 16 / 16 / 16 % 16),eb (m / 16 / 16 / 16 % 16),eb (m / 16 / 16 % 16),eb (m / 16 % 16),eb (m % 16)]])) S) :
  ao prog w0 266 [.sval false [],.int .u64 m,.int .i64 16,.bool false,.bool false] S R:=by
 have hp:=MA w0
 have hz:=Nn
 have wk58:ae.wrap 58=58:=δ
 have wk59:ae.wrap 59=59:=δ
 have wk60:ae.wrap 60=60:=δ
 have wk61:ae.wrap 61=61:=δ
 have wk62:ae.wrap 62=62:=δ
 have wk63:ae.wrap 63=63:=δ
 have wk64:ae.wrap 64=64:=δ
 have wk65:ae.wrap 65=65:=δ
 have htz:=tz w0 hD
 have f1:aW.wrap 16=16:=δ
 have f2:aW.wrap 4=4:=δ
 have f3:aW.wrap 15=15:=δ
 obtain⟨u1,hu1⟩:∃ u,u=m / 16:=⟨_,rfl⟩
 obtain⟨u2,hu2⟩:∃ u,u=u1 / 16:=⟨_,rfl⟩
 obtain⟨u3,hu3⟩:∃ u,u=u2 / 16:=⟨_,rfl⟩
 obtain⟨u4,hu4⟩:∃ u,u=u3 / 16:=⟨_,rfl⟩
 obtain⟨u5,hu5⟩:∃ u,u=u4 / 16:=⟨_,rfl⟩
 have g0:decide ((16:Int)≤(m:Int))=true:=κ
 have a0:aW.wrap (((ar aW.bits (m:Int) &&& ar aW.bits 15).toNat:Nat):Int)=((m % 16:Nat):Int):=Ci (m:=m) (k:=4) ω ω
 simp only [bk] at a0
 have x0:=qu (m % 16) ω
 have s0:(m:Int).fdiv (2 ^ min 4 64)=(u1:Int):=by rw [hu1];exact lr m 4 ω
 have g1:decide ((16:Int)≤(u1:Int))=true:=κ
 have a1:aW.wrap (((ar aW.bits (u1:Int) &&& ar aW.bits 15).toNat:Nat):Int)=((u1 % 16:Nat):Int):=Ci (m:=u1) (k:=4) ω ω
 simp only [bk] at a1
 have x1:=qu (u1 % 16) ω
 have s1:(u1:Int).fdiv (2 ^ min 4 64)=(u2:Int):=by rw [hu2];exact lr u1 4 ω
 have g2:decide ((16:Int)≤(u2:Int))=true:=κ
 have a2:aW.wrap (((ar aW.bits (u2:Int) &&& ar aW.bits 15).toNat:Nat):Int)=((u2 % 16:Nat):Int):=Ci (m:=u2) (k:=4) ω ω
 simp only [bk] at a2
 have x2:=qu (u2 % 16) ω
 have s2:(u2:Int).fdiv (2 ^ min 4 64)=(u3:Int):=by rw [hu3];exact lr u2 4 ω
 have g3:decide ((16:Int)≤(u3:Int))=true:=κ
 have a3:aW.wrap (((ar aW.bits (u3:Int) &&& ar aW.bits 15).toNat:Nat):Int)=((u3 % 16:Nat):Int):=Ci (m:=u3) (k:=4) ω ω
 simp only [bk] at a3
 have x3:=qu (u3 % 16) ω
 have s3:(u3:Int).fdiv (2 ^ min 4 64)=(u4:Int):=by rw [hu4];exact lr u3 4 ω
 have g4:decide ((16:Int)≤(u4:Int))=true:=κ
 have a4:aW.wrap (((ar aW.bits (u4:Int) &&& ar aW.bits 15).toNat:Nat):Int)=((u4 % 16:Nat):Int):=Ci (m:=u4) (k:=4) ω ω
 simp only [bk] at a4
 have x4:=qu (u4 % 16) ω
 have s4:(u4:Int).fdiv (2 ^ min 4 64)=(u5:Int):=by rw [hu5];exact lr u4 4 ω
 have g5:decide ((16:Int)≤(u5:Int))=true:=κ
 have a5:aW.wrap (((ar aW.bits (u5:Int) &&& ar aW.bits 15).toNat:Nat):Int)=((u5 % 16:Nat):Int):=Ci (m:=u5) (k:=4) ω ω
 simp only [bk] at a5
 have x5:=qu (u5 % 16) ω
 have s5:(u5:Int).fdiv (2 ^ min 4 64)=1:=by rw [lr u5 4 ω];omega
 rw [← hu1] at h
 rw [← hu2] at h
 rw [← hu3] at h
 rw [← hu4] at h
 rw [← hu5] at h
 generalize eb (m % 16)=c0 at h x0
 generalize m % 16=e0 at a0 x0
 generalize eb (u1 % 16)=c1 at h x1
 generalize u1 % 16=e1 at a1 x1
 generalize eb (u2 % 16)=c2 at h x2
 generalize u2 % 16=e2 at a2 x2
 generalize eb (u3 % 16)=c3 at h x3
 generalize u3 % 16=e3 at a3 x3
 generalize eb (u4 % 16)=c4 at h x4
 generalize u4 % 16=e4 at a4 x4
 generalize eb (u5 % 16)=c5 at h x5
 generalize u5 % 16=e5 at a5 x5
 clear h1 h2 hu1 hu2 hu3 hu4 hu5 hD
 refine eN func266 rfl ntmps266 fun hO=>?_
 repeat' first|refine st ?_|(refine ca ?_;first|apply hp|apply htz)|(refine br ?_ ?_<;>intro hb)|apply cS|apply gn|fail
 refine oT (t:=12) (a:=S.length) (o:=0) ss ss ?_
 simp only [go_sem, *]
 refine CH (i:=58) (kk:=.i64) (e:=5) (m:=65) ss rfl ss ss ss (by show _=AV.int .i64 58;(simp only [go_sem, *];try rfl)) ss δ ss ?_
 simp only [putA]
 repeat' first|apply fX|apply eA|apply dC|apply eB|apply fY|apply b8|apply gh|apply b_|apply bN|apply cM|apply b9|apply bM|apply bv|apply gg|(apply bw;(· rfl))|(apply cK;simp only [bj])|(apply dx;(· rfl);(· simp only [go_sem, *,cw];try rfl);(· rfl);simp only [putA])|(apply eE;simp only [putA])|apply cN|(apply dy;(· simp only [go_sem, *,cw];try rfl);(· rfl);(· simp only [go_sem, *,cw];try rfl))|(apply dM;(iterate 2 (· simp only [go_sem, *,cw];try rfl));(· rfl);simp only [putA])|(apply bL;(· simp only [go_sem, *,cw];try rfl);(· rfl);simp only [putA])|(apply dz;(· simp only [go_sem, *,cw];try rfl))|(apply dB;(· simp only [go_sem, *,cw];try rfl))|(apply cL;(· rfl);(fail_if_success (focus (show _=some true;(· simp only [go_sem, *,cw];try rfl))));(· simp only [go_sem, *,cw];try rfl);all_goals (intro hb;try simp only [ay,aE] at hb))|(apply dA;(· simp only [go_sem, *,cw];try rfl);all_goals (intro hb;try simp only [ay,aE] at hb))|fail
 refine fR results266 ?_
 exact h _
theorem P8{v:Nat}(hv:v<16777216):ae.wrap (((ar ae.bits (v:Int) ||| ar ae.bits 16777216).toNat:Nat):Int)=((v+16777216:Nat):Int):=by
 rw [IU]
 have e2:(ar ae.bits (v:Int)).toNat=v:=by
  show (ar 64 _).toNat=_
  rw [cH];omega
 have e3:(ar ae.bits 16777216).toNat=16777216:=δ
 rw [e2,e3]
 have e4:v ||| 16777216=v+16777216:=by
  have:=Nat.shiftLeft_add_eq_or_of_lt (b:=v) (i:=24) ω 1
  rw [Nat.shiftLeft_eq,Nat.or_comm,show (1:Nat) * 2 ^ 24=16777216 by decide] at this
  omega
 rw [e4]
 exact ai _ ω
theorem MJ(w0:World)(hD:A6 w0)(S:List aH)(m:Nat)(h1:16777216≤m)(h2:m<33554432)(R:Rt)
  (h:R (.ret (.str [49,eb (m / 16 / 16 / 16 / 16 / 16 % 16),eb (m / 16 / 16 / 16 / 16 % 16),eb (m / 16 / 16 / 16 % 16),eb (m / 16 / 16 % 16),eb (m / 16 % 16),eb (m % 16)])) S) :
  ao prog w0 222 [.int .i64 m,.int .i64 16] S R:=by
 have hf:=fun S'=>H9 w0 hD S' m h1 h2
 generalize [49,eb (m / 16 / 16 / 16 / 16 / 16 % 16),eb (m / 16 / 16 / 16 / 16 % 16),eb (m / 16 / 16 / 16 % 16),eb (m / 16 / 16 % 16),eb (m / 16 % 16),eb (m % 16)]=T at hf h
 have w1:aW.wrap (m:Int)=(m:Int):=iQ _ ω
 have d1:decide ((m:Int)<0)=false:=χ
 clear h1 h2 hD
 refine eN func222 rfl ntmps222 fun hO=>?_
 refine ε1 hf ?_
 intro v
 refine ε0 ?_
 refine fR results222 ?_
 exact h
theorem MK(w0:World)(hD:A6 w0)(S:List aH)(m:Nat)(h1:16777216≤m)(h2:m<33554432)(R:Rt)
  (h:R (.ret (.str [49,eb (m / 16 / 16 / 16 / 16 / 16 % 16),eb (m / 16 / 16 / 16 / 16 % 16),eb (m / 16 / 16 / 16 % 16),eb (m / 16 / 16 % 16),eb (m / 16 % 16),eb (m % 16)])) S) :
  ao prog w0 189 [.int .i64 m,.int .i64 16] S R:=by
 have hf:=fun S'=>MJ w0 hD S' m h1 h2
 generalize [49,eb (m / 16 / 16 / 16 / 16 / 16 % 16),eb (m / 16 / 16 / 16 / 16 % 16),eb (m / 16 / 16 / 16 % 16),eb (m / 16 / 16 % 16),eb (m / 16 % 16),eb (m % 16)]=T at hf h
 clear h1 h2 hD
 exact γR1 hf func189 ntmps189 results189 h
theorem Aw{n:Nat}(h:n<16777216):(n+16777216) / 16 / 16 / 16 / 16 / 16 % 16=n / 1048576∧(n+16777216) / 16 / 16 / 16 / 16 % 16=n / 65536 % 16∧(n+16777216) / 16 / 16 / 16 % 16=n / 4096 % 16∧(n+16777216) / 16 / 16 % 16=n / 256 % 16∧(n+16777216) / 16 % 16=n / 16 % 16∧(n+16777216) % 16=n % 16:=by
 omega
theorem Ms(n:Int)(hn:jE 0 n=true)(R:Rt)(h:R (.ret (.tup [.int .i64 0,.bool false])) S):ao prog w0 188 [.agg [.int .i64 0,.int .i64 n]] S R:=by
 have hc:=fun S'=>ir w0 S' 0 n
 rw [hn,if_pos rfl] at hc
 clear hn
 exact γR1 hc func188 ntmps188 results188 h
theorem Mr(w0:World)(hN:Fq w0)(S:List aH)(n:Int)(hn:jE 1 n=true)(R:Rt)(h:∀ v:Nat,v<16777216→R (.ret (.tup [.int .i64 v,.bool true])) S):ao prog w0 188 [.agg [.int .i64 1,.int .i64 n]] S R:=by
 have hc:=fun S'=>ir w0 S' 1 n
 rw [hn,if_pos rfl] at hc
 have hb:0≤n∧n≤255:=by simpa [jE,xH] using hn
 obtain⟨u,rfl⟩:∃ u:Nat,n=u:=⟨n.toNat,ω⟩
 have ha:=fun S'=>Rk w0 hN S' u ω
 clear hn hb
 refine eN func188 rfl ntmps188 fun hO=>?_
 refine ε2 hc ha ?_
 intro v hv
 have hh:=h v hv
 clear h hv
 refine ε0 ?_
 refine fR results188 ?_
 exact hh
def Nc(w0:World)(k n:Int)(v:Nat):Prop:=∀ (S:List aH) (R:Rt),R (.ret (.tup [.int .i64 v,.bool true])) S→ao prog w0 188 [.agg [.int .i64 k,.int .i64 n]] S R
theorem Jc(w0:World)(hD:A6 w0)(S:List aH)(k n:Int)(v:Nat)(hv:v<16777216)(hk:jE k n=true)(hR:Nc w0 k n v)(R:Rt)(h:R (.ret (.tup [.str (kH v),.int .i64 0])) S):ao prog w0 115 [.agg [.int .i64 k,.int .i64 n]] S R:=by
 have hc:=fun S'=>ir w0 S' k n
 rw [hk,if_pos rfl] at hc
 unfold Nc at hR
 have ho:=P8 hv
 have hf:=fun S'=>MK w0 hD S' (v+16777216) ω ω
 obtain⟨g1,g2,g3,g4,g5,g6⟩:=Aw hv
 rw [g1,g2,g3,g4,g5,g6] at hf
 unfold kH at h
 generalize eb (v / 1048576)=c1 at *
 generalize eb (v / 65536 % 16)=c2 at *
 generalize eb (v / 4096 % 16)=c3 at *
 generalize eb (v / 256 % 16)=c4 at *
 generalize eb (v / 16 % 16)=c5 at *
 generalize eb (v % 16)=c6 at *
 generalize v+16777216=m at ho hf
 simp only [bk] at ho
 clear hv hk hD g1 g2 g3 g4 g5 g6
 refine eN func115 rfl ntmps115 fun hO=>?_
 repeat' first|apply fX|apply eA|apply dC|apply eB|apply fY|apply b8|apply gh|apply b_|apply bN|apply cM|apply b9|apply bM|apply bv|apply gg|(apply bw;(· rfl))|(apply cK;simp only [bj])|(apply dx;(· rfl);(· simp only [go_sem, *,ah];try rfl);(· rfl);simp only [putA])|(apply eE;simp only [putA])|apply cN|(apply df [];(· simp only [go_sem, *,ah];try rfl);(· rfl);(· simp only [go_sem, *,ah];try rfl);(· rfl);(iterate 2 (· simp only [go_sem, *,ah];try rfl));(first|apply hc|apply hR|apply hf);simp only [aU,putA])|(apply dy;(· simp only [go_sem, *,ah];try rfl);(· rfl);(· simp only [go_sem, *,ah];try rfl))|(apply dM;(iterate 2 (· simp only [go_sem, *,ah];try rfl));(· rfl);simp only [putA])|(apply bL;(· simp only [go_sem, *,ah];try rfl);(· rfl);simp only [putA])|(apply dz;(· simp only [go_sem, *,ah];try rfl))|(apply dB;(· simp only [go_sem, *,ah];try rfl))|(apply cL;(· rfl);(fail_if_success (focus (show _=some true;(· simp only [go_sem, *,ah];try rfl))));(· simp only [go_sem, *,ah];try rfl);all_goals (intro hb;try simp only [ay,aE] at hb))|(apply dA;(· simp only [go_sem, *,ah];try rfl);all_goals (intro hb;try simp only [ay,aE] at hb))|(apply gy;(· exact mixed);(· simp only [iM,aB,aI,cW];try rfl))|(apply zI;(· decide +kernel))|(apply Fp;(repeat (apply Lz;(· decide +kernel)));apply zV;(· decide +kernel);(· first|exact kf|exact ke|exact qb|assumption);(· rfl);(iterate 3 (· simp only [go_sem, *,ah];try rfl));(· rfl);(· simp only [go_sem, *,ah];try rfl);simp only [putA])|(apply Fp;(repeat (apply Lz;(· decide +kernel)));apply E8;(· decide +kernel);(· first|exact kf|exact ke|exact qb|assumption);(· rfl);(iterate 2 (· simp only [go_sem, *,ah];try rfl));(· rfl);simp only [putA])|(apply Fp;(repeat (apply N6;(· decide +kernel)));apply E9;(· decide +kernel))|(apply vO;(iterate 3 (· simp only [go_sem, *,ah];try rfl));(· rfl);simp only [putA])|(apply D7;(iterate 2 (· simp only [go_sem, *,ah];try rfl));(· rfl);simp only [putA])|apply za|apply vF|apply DZ|apply aw|apply iG|(apply o8;(· decide +kernel))|(apply vI;(· simp only [go_sem, *,ah];try rfl))|(apply je [];(iterate 2 (· simp only [go_sem, *,ah];try rfl));(· rfl);(· simp only [go_sem, *,ah];try rfl);(· rfl);(iterate 2 (· simp only [go_sem, *,ah];try rfl));(first|apply hc|apply hR|apply hf);simp only [cC,putA])|fail
 all_goals refine fR results115 ?_
 all_goals exact h
theorem Ky(w0:World)(hD:A6 w0)(hN:Fq w0)(S:List aH)(n:Int)(hk:jE 1 n=true)(R:Rt)(h:∀ x,R (.ret (.tup [.str x,.int .i64 0])) S):ao prog w0 115 [.agg [.int .i64 1,.int .i64 n]] S R:=by
 have hc:=fun S'=>ir w0 S' 1 n
 rw [hk,if_pos rfl] at hc
 have hR:=fun S'=>Mr w0 hN S' n hk
 have HD:=ab hD
 clear hk hN hD
 refine eN func115 rfl ntmps115 fun hO=>?_
 refine ε2 hc hR ?_
 intro v hv
 have ho:=P8 hv
 have hf:=fun S'=>MK w0 HD.out S' (v+16777216) ω ω
 obtain⟨g1,g2,g3,g4,g5,g6⟩:=Aw hv
 rw [g1,g2,g3,g4,g5,g6] at hf
 generalize eb (v / 1048576)=c1 at *
 generalize eb (v / 65536 % 16)=c2 at *
 generalize eb (v / 4096 % 16)=c3 at *
 generalize eb (v / 256 % 16)=c4 at *
 generalize eb (v / 16 % 16)=c5 at *
 generalize eb (v % 16)=c6 at *
 generalize v+16777216=m at ho hf
 simp only [bk] at ho
 clear hv g1 g2 g3 g4 g5 g6
 repeat' first|apply fX|apply eA|apply dC|apply eB|apply fY|apply b8|apply gh|apply b_|apply bN|apply cM|apply b9|apply bM|apply bv|apply gg|(apply bw;(· rfl))|(apply cK;simp only [bj])|(apply dx;(· rfl);(· simp only [go_sem, *,ah];try rfl);(· rfl);simp only [putA])|(apply eE;simp only [putA])|apply cN|(apply df [];(· simp only [go_sem, *,ah];try rfl);(· rfl);(· simp only [go_sem, *,ah];try rfl);(· rfl);(iterate 2 (· simp only [go_sem, *,ah];try rfl));(first|apply hf);simp only [aU,putA])|(apply dy;(· simp only [go_sem, *,ah];try rfl);(· rfl);(· simp only [go_sem, *,ah];try rfl))|(apply dM;(iterate 2 (· simp only [go_sem, *,ah];try rfl));(· rfl);simp only [putA])|(apply bL;(· simp only [go_sem, *,ah];try rfl);(· rfl);simp only [putA])|(apply dz;(· simp only [go_sem, *,ah];try rfl))|(apply dB;(· simp only [go_sem, *,ah];try rfl))|(apply cL;(· rfl);(fail_if_success (focus (show _=some true;(· simp only [go_sem, *,ah];try rfl))));(· simp only [go_sem, *,ah];try rfl);all_goals (intro hb;try simp only [ay,aE] at hb))|(apply dA;(· simp only [go_sem, *,ah];try rfl);all_goals (intro hb;try simp only [ay,aE] at hb))|(apply gy;(· exact mixed);(· simp only [iM,aB,aI,cW];try rfl))|(apply zI;(· decide +kernel))|(apply Fp;(repeat (apply Lz;(· decide +kernel)));apply zV;(· decide +kernel);(· first|exact kf|exact ke|exact qb|assumption);(· rfl);(iterate 3 (· simp only [go_sem, *,ah];try rfl));(· rfl);(· simp only [go_sem, *,ah];try rfl);simp only [putA])|(apply Fp;(repeat (apply Lz;(· decide +kernel)));apply E8;(· decide +kernel);(· first|exact kf|exact ke|exact qb|assumption);(· rfl);(iterate 2 (· simp only [go_sem, *,ah];try rfl));(· rfl);simp only [putA])|(apply Fp;(repeat (apply N6;(· decide +kernel)));apply E9;(· decide +kernel))|(apply vO;(iterate 3 (· simp only [go_sem, *,ah];try rfl));(· rfl);simp only [putA])|(apply D7;(iterate 2 (· simp only [go_sem, *,ah];try rfl));(· rfl);simp only [putA])|apply za|apply vF|apply DZ|apply aw|apply iG|(apply o8;(· decide +kernel))|(apply vI;(· simp only [go_sem, *,ah];try rfl))|(apply je [];(iterate 2 (· simp only [go_sem, *,ah];try rfl));(· rfl);(· simp only [go_sem, *,ah];try rfl);(· rfl);(iterate 2 (· simp only [go_sem, *,ah];try rfl));(first|apply hf);simp only [cC,putA])|fail
 all_goals refine fR results115 ?_
 all_goals exact h _
theorem Kz(n:Int)(hk:jE 0 n=true)(R:Rt)(h:R (.ret (.tup [.str [],.int .i64 2])) S):ao prog w0 115 [.agg [.int .i64 0,.int .i64 n]] S R:=by
 have hc:=fun S'=>ir w0 S' 0 n
 rw [hk,if_pos rfl] at hc
 have hR:=fun S'=>Ms w0 S' n hk
 clear hk
 exact γR2 hc hR func115 ntmps115 results115 h
theorem Kx(k n:Int)(hk:jE k n=false)(R:Rt)(h:R (.ret (.tup [.str [],.int .i64 130])) S):ao prog w0 115 [.agg [.int .i64 k,.int .i64 n]] S R:=by
 have hc:=fun S'=>ir w0 S' k n
 rw [hk,if_neg δ] at hc
 clear hk
 exact γR1 hc func115 ntmps115 results115 h
theorem Kw(w0:World)(hD:A6 w0)(hN:Fq w0)(S:List aH)(k n:Int)(R:Rt)
  (hG:k=2→jE 2 n=true→R (.ret (.tup [.str (kH n.toNat),.int .i64 0])) S) (hB:∀ x e,¬ (k=2∧jE 2 n=true)→(((e:Int)==0)&&((k:Int)==2))=false→R (.ret (.tup [.str x,.int .i64 e])) S):ao prog w0 115 [.agg [.int .i64 k,.int .i64 n]] S R:=by
 cases hc:jE k n with
 | false=>exact Kx w0 S k n hc R (hB [] 130 (by rintro⟨rfl,e⟩;rw [e] at hc;cases hc) rfl)
 | true =>
  have hk:k=0∨k=1∨k=2:=by
   simp [jE] at hc
   omega
  rcases hk with rfl|rfl|rfl
  ·exact Kz w0 S n hc R (hB _ _ χ rfl)
  ·exact Ky w0 hD hN S n hc R (fun x=>hB x 0 χ rfl)
  ·have hb:0≤n∧n≤16777215:=by simpa [jE,xH] using hc
   obtain⟨v,rfl⟩:∃ v:Nat,n=v:=⟨n.toNat,ω⟩
   exact Jc w0 hD S 2 v v ω hc (fun S' R h=>Mu w0 S' v hc R h) R (hG rfl hc)
theorem wn(l:List UInt8)(c:UInt8):(Lib.countByte l c:Int)=(l.count c:Nat):=rfl
theorem MV(s:List UInt8)(R:Rt)(h:R (.ret (.int .i64 (s.count 47:Nat))) S):ao prog w0 317 [.str s,.str [47]] S R:=by
 refine ao.lib (vs:=[.string ⟨s.toArray⟩,.string ⟨#[47]⟩]) (v:=.int .i64 (s.count 47:Nat)) (c:=.int .i64 (s.count 47:Nat)) (Go.Proofs.enters_of func317 (by kernel_rfl) rfl) rfl rfl ?_ h
 intro w hb
 refine(Go.Proofs.Any.strings_Count_one Go.Proofs.Tryz.lays138 ⟨s.toArray⟩ 47 w).mono ?_
 rintro e w' ⟨rfl,rfl⟩
 refine⟨by rw [← wn],pR _ _⟩
theorem NP(s:List UInt8)(R:Rt)(h:R (.ret (.int .i64 (dd s 47))) S):ao prog w0 307 [.str s,.int .u8 47] S R:=by
 refine ao.lib (vs:=[.string ⟨s.toArray⟩,.int .u8 47]) (v:=.int .i64 (dd s 47)) (c:=.int .i64 (dd s 47)) (Go.Proofs.enters_of func307 (by kernel_rfl) rfl) rfl rfl ?_ h
 intro w hb
 refine(Go.Proofs.Any.stringslite_IndexByte Go.Proofs.Tryz.lays217 ⟨s.toArray⟩ 47 w).mono ?_
 rintro e w' ⟨rfl,rfl⟩
 exact⟨rfl,pR _ _⟩
theorem GW(s:List UInt8)(R:Rt)(h:R (.ret (.int .i64 (dd s 47))) S):ao prog w0 281 [.str s,.str [47]] S R:=by
 have hi:=fun S'=>NP w0 S' s
 by_cases hs:s=[47]
 ·subst hs
  have h:R (.ret (.int .i64 0)) S:=h
  clear hi
  exact γR0 func281 ntmps281 results281 h
 ·have hne:(([47]:List UInt8)==s)=false:=by
   rw [beq_eq_false_iff_ne]
   exact fun e=>hs e.symm
  generalize dd s 47=i at h hi
  clear hs
  exact γR1 hi func281 ntmps281 results281 h
theorem Kq(s:List UInt8)(R:Rt)(h:R (.ret (.int .i64 (dd s 47))) S):ao prog w0 318 [.str s,.str [47]] S R:=by
 have hi:=fun S'=>GW w0 S' s
 generalize dd s 47=i at h hi
 exact γR1 hi func318 ntmps318 results318 h
def fJ:List UInt8→List (List UInt8)
 | []=>[[]]
 | b::r=>if b=47 then []::fJ r else match fJ r with
  | []=>[[b]]
  | w::ws=>(b::w)::ws
theorem C9:∀ s,fJ s≠[]
 | []=>by simp [fJ]
 | b::r=>by
  unfold fJ
  split
  ·simp
  ·split<;>simp
theorem Am:∀ {w r:List UInt8},(∀ b∈w,b≠47)→fJ (w++47::r)=w::fJ r
 | [],r,_=>by simp [fJ]
 | b::w,r,h=>by
  have ih:=Am (w:=w) (r:=r) (fun x hx=>h x (by simp [hx]))
  simp only [fQ]
  rw [fJ,if_neg (h b χ),ih]
theorem Al:∀ {w:List UInt8},w.count 47=0→fJ w=[w]
 | [],_=>rfl
 | b::w,h=>by
  have hb:b≠47:=by rintro rfl;simp at h
  rw [z8 (by simpa using hb)] at h
  rw [fJ,if_neg hb,Al h]
theorem Jf:∀ {s:List UInt8},0<s.count 47→∃ w r,s=w++47::r∧(∀ b∈w,b≠47)∧dd s 47=(w.length:Int)
 | [],h=>by simp at h
 | b::l,h=>by
  by_cases hb:b=47
  ·subst hb
   exact⟨[],l,rfl,χ,by simp [dd]⟩
  ·rw [z8 (by simpa using hb)] at h
   obtain⟨w,r,h1,h2,h3⟩:=Jf h
   refine⟨b::w,r,by rw [h1];rfl, ?_, ?_⟩
   ·intro x hx
    rcases bD.1 hx with rfl|hx
    ·exact hb
    ·exact h2 x hx
   ·have h1':(b==47)=false:=by simpa using hb
    rw [dd,h1',h3]
    simp
    try omega
def mK(D:List (List UInt8))(k:Nat):List AV:=D.map AV.str++a8 k (.str [])
theorem Aq(D:List (List UInt8))(k:Nat):(mK D (k+1))[D.length]? = some (.str []):=by
 unfold mK
 rw [aA χ]
 simp
theorem Ap(D:List (List UInt8))(k:Nat)(w:List UInt8):(mK D (k+1)).set D.length (.str w)=mK (D++[w]) k:=by
 unfold mK
 rw [eI _ _ χ]
 simp [ml]
theorem vq(D:List (List UInt8))(k:Nat):(mK D k).length=D.length+k:=by
 unfold mK;simp
theorem uj(D:List (List UInt8))(k:Nat):plainL (mK D k)=true:=by
 unfold mK
 induction D with
 | nil =>
  simp only [aj,gu]
  induction k with
  | zero=>rfl
  | succ k ih=>rw [ml,plainL,ih];rfl
 | cons d D ih=>simp only [al,fQ,plainL,ih];rfl
theorem KX(s:List UInt8)(hs:s.length≤100000)(R:Rt)(h:∀ b,R (.ret (.sval b ((fJ s).map AV.str))) S):ao prog w0 292 [.str s,.str [47],.int .i64 0,.int .i64 (-1)] S R:=by
 have hct:=fun S'=>MV w0 S' s
 have hcl:s.count 47≤s.length:=List.count_le_length
 obtain⟨c,hc⟩:∃ c,c=s.count 47:=⟨_,rfl⟩
 rw [← hc] at hct
 have w1:ae.wrap ((c:Int)+1)=((c+1:Nat):Int):=by rw [ai _ ω];omega
 have w2:ae.wrap ((s.length:Int)+1)=((s.length+1:Nat):Int):=by rw [ai _ ω];omega
 have hmn:(if ((s.length+1:Nat):Int)<((c+1:Nat):Int) then ((s.length+1:Nat):Int) else ((c+1:Nat):Int))=((c+1:Nat):Int):=by rw [if_neg ω]
 have w3:ae.wrap (((c+1:Nat):Int) - 1)=(c:Int):=by rw [ai _ ω];omega
 have b1:((c+1:Nat):Int) * 16≤140737488355328:=ω
 have b2:((c+1:Nat):Int) * ((16:Nat):Int)≤140737488355328:=ω
 have b3:((c+1:Nat):Int)≤((c+1:Nat):Int):=Fy _
 have hrp:a8 (c+1) (AV.str [])=mK [] (c+1):=rfl
 have H:=ab h
 have Hs:=ab (a7 hs (a7 hcl hc))
 clear h hs hcl hc
 refine eN func292 rfl ntmps292 fun hO=>?_
 refine ε1 hct ?_
 refine cD (fun (p:List (List UInt8) × List UInt8) env S'=>p.1++fJ p.2=fJ s∧p.1.length+p.2.count 47=c∧p.2.length≤s.length∧env 1000000=.dfr []∧env 0=.str p.2∧env 1=.str [47]∧env 2=.int .i64 0∧env 3=.int .i64 c∧env 9=.sown S.length 0 (c+1)∧env 10=.int .i64 (p.1.length:Int) ∧
  S'=S++[aH.arr 9 1 0 0 (mK p.1 (c+1 - p.1.length))]) (fun p=>p.2.length) ([],s) ?_ ?_
 ·obtain⟨hs,hcl,hc⟩:=Hs.out
  exact⟨rfl,by simp [hc],ba _,ss,ss,ss,ss,ss,ss,ss,rfl⟩
 ·rintro⟨D,u⟩ env S' ⟨hD,hDc,hul,e0,f0,f1,f2,f3,f9,f10,rfl⟩ IH
  simp only at hD hDc hul f0 f10
  have HI:=ab IH
  obtain⟨hs,hcl,hc⟩:=Hs.out
  clear IH hct hrp hmn w1 w2 w3
  by_cases hu:0<u.count 47
  ·obtain⟨w,r,hwr,hw47,hix⟩:=Jf hu
   have hix2:=fun S'=>Kq w0 S' u
   rw [hix] at hix2
   have hul2:u.length=w.length+1+r.length:=by rw [hwr];simp;omega
   have hcu:u.count 47=r.count 47+1:=by
    have hw0:w.count 47=0:=List.count_eq_zero.2 (fun hh=>hw47 47 hh rfl)
    rw [hwr,List.count_append,hw0,List.count_cons_self];omega
   have h1:decide ((D.length:Int)<(c:Int))=true:=κ
   have d1:decide ((w.length:Int)<0)=false:=χ
   have k1:ae.wrap ((w.length:Int)+0)=((w.length:Nat):Int):=by rw [ai _ ω];omega
   have k2:ae.wrap ((w.length:Int)+((1:Nat):Int))=((w.length+1:Nat):Int):=by rw [ai _ ω];omega
   have k3:ae.wrap ((D.length:Int)+1)=((D.length+1:Nat):Int):=by rw [ai _ ω];omega
   have l1:((w.length:Nat):Int)≤(u.length:Int):=ω
   have l2:((w.length+1:Nat):Int)≤(u.length:Int):=ω
   have t1:rg w.length u=w:=by rw [hwr];simp
   have t2:List.drop (w.length+1) u=r:=by rw [hwr,← List.drop_drop];simp
   have t3:rg u.length u=u:=bC
   have q1:(D.length:Int)<((c+1:Nat):Int):=ω
   have hk:c+1 - D.length=(c+1 - (D.length+1))+1:=ω
   have hg:=Aq D (c+1 - (D.length+1))
   have hse:=Ap D (c+1 - (D.length+1)) w
   rw [← hk] at hg hse
   have hsl:=vq D (c+1 - D.length)
   rw [show D.length+(c+1 - D.length)=c+1 by omega] at hsl
   have hi1:(D++[w])++fJ r=fJ s:=by rw [← hD,hwr,Am hw47];simp
   have hi2:(D++[w]).length+r.count 47=c:=κ
   have hdl:(D++[w]).length=D.length+1:=χ
   have Hi:=ab (a7 hi1 (a7 hi2 (a7 hdl (show r.length<u.length by omega))))
   have Hul:=ab hul
   simp only
   generalize hE:mK D (c+1 - D.length)=E at *
   generalize hE1:mK (D++[w]) (c+1 - (D.length+1))=E1 at *
   have HE1:=ab hE1
   clear hE hE1 hD hDc hul hs hcl hc hu hwr hw47 hix hul2 hcu hk hi1 hi2 hdl
   refine ε1 hix2 ?_
   obtain⟨hi1,hi2,hdl,hrl⟩:=Hi.out
   rw [← HE1.out]
   refine HI.out (D++[w],r) _ _ hrl ⟨hi1,hi2,by have:=Hul.out;simp only;omega, ?_, ?_, ?_, ?_, ?_, ?_, ?_, ?_⟩
   ·exact ss
   ·exact ss
   ·exact ss
   ·exact ss
   ·exact ss
   ·exact ss
   ·simp only [hdl];(simp only [go_sem, *];try rfl)
   ·simp only [hdl]
  ·have hu0:u.count 47=0:=ω
   have hDl:D.length=c:=ω
   rw [Al hu0] at hD
   have h1:decide ((D.length:Int)<(c:Int))=false:=κ
   have k3:ae.wrap ((D.length:Int)+1)=((D.length+1:Nat):Int):=by rw [ai _ ω];omega
   have q1:(D.length:Int)<((c+1:Nat):Int):=ω
   have hk:c+1 - D.length=0+1:=ω
   have hg:=Aq D 0
   have hse:=Ap D 0 u
   rw [← hk] at hg hse
   have hsl:=vq D (c+1 - D.length)
   rw [show D.length+(c+1 - D.length)=c+1 by omega] at hsl
   have hE2:mK (D++[u]) 0=(fJ s).map AV.str:=by rw [hD];simp [mK]
   rw [hE2] at hse
   have hh:=H.out
   have hpl:plainL ((fJ s).map AV.str)=true:=by rw [← hE2];exact uj _ _
   have hl2:((fJ s).map AV.str).length=c+1:=by rw [← hE2,vq];simp;omega
   have hall:((fJ s).map AV.str).all (fun el=>el.cells.length==1)=true:=by
    rw [aD]
    intro x hx
    obtain⟨y,_,rfl⟩:=aN.1 hx
    rfl
   simp only [AV.cells] at hall
   have q2:((D.length+1:Nat):Int)≤((c+1:Nat):Int):=ω
   have htk:rg (D.length+1) ((fJ s).map AV.str)=(fJ s).map AV.str:=dJ ω
   have hlt:ltL S.length ((fJ s).map AV.str)=true:=c_.2 fun x hx=>by obtain⟨y,_,rfl⟩:=aN.1 hx;rfl
   simp only
   generalize hE:mK D (c+1 - D.length)=E at *
   generalize (fJ s).map AV.str=F at *
   clear hE hE2 hD hDc hul hs hcl hc hu hk HI hu0 hDl
   refine ε0 ?_
   refine mD (t:=62) (a:=S.length) δ ss ss ?_
   refine ε0 ?_
   refine fR results292 ?_
   exact hh _
end Go.Proofs.YthdbijpefkapnaaGreatDoor
