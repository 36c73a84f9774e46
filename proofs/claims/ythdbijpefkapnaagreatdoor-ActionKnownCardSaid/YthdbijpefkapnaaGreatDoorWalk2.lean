/- YthdbijpefkapnaaGreatDoorWalk2. Texts of the proof of a law about texts: a layer of abstract values above the worlds, the types, the walks of the functions that the law reaches, the law and its card. Own work of an AI agent. -/
import Derived.Test.YthdbijpefkapnaaGreatDoorWalk1
import Derived.Shelf.Strings.Repeat
import Derived.Test.YthdbijpefkapnaaGreatDoorShelf
import Derived.Shelf.Strings.SlTrimAscii
import Derived.Test.YthdbijpefkapnaaGreatDoorCore1
import Derived.Shelf.Strings.Count
import Derived.Test.YthdbijpefkapnaaGreatDoorWalk0
import Derived.Shelf.Strconv.ToError
import Derived.Shelf.Strconv.ToErrorRange
import Derived.Shelf.Strconv.Atoi
import Derived.Lib.AtoiErrMem
set_option linter.all false
set_option maxHeartbeats 40000000
open And renaming intro → dw
open Array renaming ext_getElem? → jg, getElem?_eq_getElem → a_, getElem?_eq_none → bS
open BitVec renaming ofInt → ai, toNat_and → Au, toNat_ofInt → bL, toNat_or → Cn
open Bool renaming and_eq_false_iff → fj, and_eq_true → aj, and_self → x_, eq_iff_iff → dX, false_eq_true → bJ, not_eq_false' → aG, not_eq_true' → az, true_and → lX
open Go.IntKind renaming bits → a6, i64 → af, u64 → aO, u8 → aW
open Go.IntWalk renaming i64_in → au, u64_in → eB, u8_in → en
open Go.Lib renaming hid → ae, indexByte → ci, itoa → fJ, repeatL → lW, trimS → hJ
open Go.RowKit renaming Below → ka
open Go.RowKit.Below renaming refl → jR
open Go.World renaming block_lt_of_cell? → eO
open Int renaming le_refl → wA
open List renaming all_cons → lg, all_eq_true → aq, all_reverse → oh, append_assoc → aK, cons_append → cz, count_cons_of_ne → vI, dropLast_concat_getLast → so, eq_nil_of_length_eq_zero → bo, find?_cons → ji, foldl_append → CJ, getElem?_append_left → ap, getElem?_append_right → aw, getElem?_eq_getElem → al, getElem?_eq_none → bz, getElem?_eq_some_iff → ab, getElem?_map → aF, getElem?_toArray → cS, length → dM, length_append → ah, length_cons → aI, length_map → aY, length_nil → aU, length_replicate → x8, map_append → bg, map_cons → aA, map_nil → aC, mem_cons → bA, mem_map → aH, mem_of_find?_eq_some → gw, mem_of_getElem? → ar, mem_range → cP, nil_append → cU, range → bC, replicate → bp, replicate_succ → gk, set_append_right → cZ, size_toArray → eR, take → lm, take_add_one → eP, take_left → kU, take_length → bk, take_of_length_le → cA, toList_toArray → bt
open Nat renaming and_two_pow_sub_one_eq_mod → vH, le_refl → aP, mod_lt → gj, pow_le_pow_right → dL, zero_le → bx
open Option renaming bind_some → Cg, map_eq_some_iff → aJ, map_some → cu
open Option.some renaming injEq → a8
open UInt8 renaming ofNat → aD, ofNat_toNat → bm, toNat → aR
namespace Go.Proofs.YthdbijpefkapnaaGreatDoor
open Go Go.Fen
attribute [local irreducible] aX WP ao er nF dt bK fD
set_option maxRecDepth 8000
theorem sc (w0:World) (S:List ax) (a:Nat) (ad v:AV) (l:Nat) (ha:S[a]? = some (.cells [ad,v] (some 90))) (hv:v=.snil∧l=0∨(∃ g i,v=.sown g i l)) (R:Rt) (h:R (.ret (.int .i64 l)) S):ao Tryz.prog w0 195 [.own a 0] S R:=by
 rcases hv with⟨rfl,rfl⟩ | ⟨g,i,rfl⟩
 ·have h:R (.ret (.int .i64 0)) S:=h
  refine eN Tryz.func195 rfl Tryz.ntmps195 fun hO=>?_
  repeat' first | refine st ?_ | (refine br ?_ ?_<;>intro hb) | fail
  refine fR Tryz.results195 ?_
  exact h
 ·refine eN Tryz.func195 rfl Tryz.ntmps195 fun hO=>?_
  repeat' first | refine st ?_ | (refine br ?_ ?_<;>intro hb) | fail
  refine fR Tryz.results195 ?_
  exact h
theorem FL (w0:World) (X:List ax) (ad:AV) (had:ad=.nilp∨ad=.own X.length 0) (i:Nat) (bs:List UInt8) (fr tz:Int) (hv:AV) (wt rs:Int) (hpos:1≤bs.length) (R:Rt)
  (h:R (.ret (.str bs)) (X++[ax.cells [ad,.sown (X.length+6) i bs.length] (some 90),ax.cells [.int .i64 fr],ax.cells [.int .i64 tz],ax.cells [hv],ax.cells [.int .i64 wt],ax.cells [.int .i64 rs],.dead])) :
  ao Tryz.prog w0 41 [.own X.length 0] (X++dh X.length ad i bs fr tz hv wt rs) R:=by
 refine qC w0 _ X.length (X.length+6) i ad bs ⟨by simp [dh],by rw [aw (by omega)];simp [dh],had⟩ hpos R ?_
 unfold dh
 rw [cZ _ _ (by omega)]
 simpa using h
def fx (s:List UInt8) (k:Nat):lj:=((s.map aR).take k).foldl dq ⟨[],0,0⟩
theorem o_ {s:List UInt8}{k:Nat}{b:UInt8} (h:s[k]? = some b):fx s (k+1)=dq (fx s k) b.toNat:=by
 unfold fx
 have:(s.map aR)[k]? = some b.toNat:=by rw [aF,h];rfl
 rw [eP,this,CJ];rfl
def xR (q:lj):Prop:=(q.wait=0∧q.rest=0)∨(q.wait=2∧q.rest<4)∨(q.wait=4∧q.rest<16)
theorem xn {q:lj}{v:Nat} (h:xR q) (hv:v<256):xR (dq q v)∧(dq q v).out.length≤q.out.length+2:=by
 obtain⟨o,w,r⟩:=q
 unfold xR dq at *
 simp only at *
 rcases h with⟨rfl,rfl⟩ | ⟨rfl,h⟩ | ⟨rfl,h⟩<;>simp<;>omega
theorem wg (s:List UInt8):∀ k,k≤s.length→xR (fx s k)∧(fx s k).out.length≤2 * k
 | 0,_=>by unfold fx xR;simp
 | k+1,h=>by
  obtain⟨h1,h2⟩:=wg s k (by omega)
  have hx:s[k]? = some (s[k]'(by omega)):=al (by omega)
  obtain⟨h3,h4⟩:=xn h1 (s[k]'(by omega)).toNat_lt
  rw [o_ hx]
  exact⟨h3,by omega⟩
theorem xD (s:List UInt8):(jM (fx s s.length)).map bh=gD s:=by
 unfold fx gD
 rw [← zC _ (toNat_lt s)]
 unfold D0
 rw [show s.length=(s.map aR).length by simp,bk]
theorem tP (s:List UInt8):(gD s).length=(8 * s.length+5) / 6:=by unfold gD;simp [rV]
theorem Di (n:Nat):(n+2) / 3 * 4=(8 * n+5) / 6+kB ((8 * n+5) / 6):=by unfold kB;omega
theorem Fp:Go.Proofs.Builder.Extra Tryz.prog Go.Proofs.Tryz.lays105_ren where
 sizeBuilder:=by kernel_rfl
 liesBuilder:=by kernel_rfl
 t5:=Go.Proofs.Tryz.lays105.t5
 a5:=Go.Proofs.Tryz.lays105.a5
 z5:=Go.Proofs.Tryz.lays105.z5
 v5:=Go.Proofs.Tryz.lays105.v5
 infoByte:=by kernel_rfl
 cellsByte:=by kernel_rfl
 sizeByte:=by kernel_rfl
 neB5:=by decide +kernel
theorem v8 (w0:World) (S:List ax) (s:List UInt8) (n:Nat) (hn:n≤9223372036854775807) (hl:s.length * n≤140737488355328) (R:Rt) (h:R (.ret (.str (lW s n))) S):ao Tryz.prog w0 193 [.str s,.int .i64 n] S R:=by
 refine ao.lib (vs:=[.string ⟨s.toArray⟩,.int .i64 n]) (v:=.str (lW s n)) (c:=.string ⟨(lW s n).toArray⟩) (Go.Proofs.enters_of Tryz.func193 (by kernel_rfl) rfl) rfl rfl ?_ h
 intro w hb
 refine(Go.Proofs.Any.strings_Repeat Go.Proofs.Tryz.lays105 Fp ⟨s.toArray⟩ n w hn (by rw [show (⟨s.toArray⟩:ByteArray).size=s.length from rfl];exact hl)).mono ?_
 rintro e w' ⟨rfl,hw⟩
 exact⟨rfl,hw⟩
theorem uK (c:UInt8) (n:Nat):lW [c] n=bp n c:=by
 induction n with
 | zero=>rfl
 | succ n ih=>rw [lW,ih,gk];rfl
theorem y7 (w0:World) (S:List ax) (R:Rt) (h:R (.ret (.tup [.str [],.int .i64 0])) S):ao Tryz.prog w0 117 [.str []] S R:=by
 have hr:=fun S'=>oJ w0 S' 8 6 191 S.length (by decide)
 have hbe:=fun S' ha=>pz w0 S' S.length ha
 have hbl:=fun S' ha=>sc w0 S' S.length .nilp .snil 0 ha (.inl ⟨rfl,rfl⟩)
 have hsz:=fun S' (R:Rt) (h:R (.ret (.int .i64 0)) S')=>CB w0 S' 0 (by decide) R h
 have hre:=fun S' (R:Rt) (h:R (.ret (.str [])) S')=>v8 w0 S' [61] 0 (by decide) (by decide) R h
 have wz:af.wrap 0=0:=by decide
 have h:R (.ret (.tup [.str [],.int .i64 0])) S:=h
 refine eN Tryz.func117 rfl Tryz.ntmps117 fun hO=>?_
 repeat' first | refine st ?_ | (refine ca ?_;first | apply hr | (apply hbe;(· simp only [go_sem, *];try rfl)) | (apply hbl;(· simp only [go_sem, *];try rfl)) | apply hsz | apply hre) | (refine br ?_ ?_<;>intro hb) | apply cR | apply fO | fail
 refine fR Tryz.results117 ?_
 exact h
theorem Bp (w0:World) (S:List ax) (s:List UInt8) (hs:s.length≤4096) (R:Rt) (h:R (.ret (.tup [.str (g9 s),.int .i64 0])) S):ao Tryz.prog w0 117 [.str s] S R:=by
 by_cases hn:s=[]
 ·subst hn
  exact y7 w0 S R h
 have hpos:0<s.length:=List.length_pos_iff.2 hn
 have hr:=fun S'=>oJ w0 S' 8 6 191 S.length (by decide)
 have d0:decide ((4096:Int)<(s.length:Int))=false:=by simp;omega
 have H:=ae h
 clear hn h
 refine eN Tryz.func117 rfl Tryz.ntmps117 fun hO=>?_
 repeat' first | refine st ?_ | (refine ca ?_;apply hr) | (refine br ?_ ?_<;>intro hb) | fail
 refine l5 (a:=S.length) (j:=1) 5 1 ss ss (by decide) ?_
 simp only [go_sem, *]
 refine eJ (fun (p:Nat × Nat × AV) env S'=>p.1≤s.length∧(p.2.2=.nilp∨p.2.2=.own S.length 0)∧env 1000000=.dfr []∧env 0=.str s∧env 4=.own S.length 0∧env 5=.fn (.func 231) [] [.own (S.length+5) 0,.own (S.length+1) 0,.own (S.length+4) 0,.own (S.length+2) 0,.own (S.length+3) 0] ∧
  env 6=.int .i64 ((fx s p.1).wait:Nat)∧env 7=.int .i64 ((fx s p.1).rest:Nat)∧env 15=.int .i64 s.length∧env 16=.int .i64 (p.1:Int) ∧
  S'=S++dh S.length p.2.2 p.2.1 ((fx s p.1).out.map bh) 8 6 (.fn (.func 191) [] [.own S.length 0]) ((fx s p.1).wait:Nat) ((fx s p.1).rest:Nat)) (fun p=>s.length - p.1) (0,0,.nilp) ?_ ?_
 ·exact⟨bx _,.inl rfl,ss,ss,ss,ss,ss,ss,ss,ss,rfl⟩
 ·rintro⟨k,i,ad⟩ env S' ⟨hk,had,e0,f0,f4,f5,f6,f7,f15,f16,rfl⟩ IH
  simp only at hk had f6 f7 f16
  have HI:=ae IH
  obtain⟨hi1,hi2⟩:=wg s k hk
  clear IH
  by_cases hlt:k<s.length
  ·obtain⟨b,hx⟩:∃ b,s[k]? = some b:=⟨_,al hlt⟩
   have h1:decide ((k:Int)<(s.length:Int))=true:=by simpa using hlt
   have hw:af.wrap ((k:Int)+1)=(k:Int)+1:=au _ (by omega)
   have hwb:af.wrap (b.toNat:Int)=(b.toNat:Int):=au _ (by have:=b.toNat_lt;omega)
   have hg:=F3 w0 S hO ad had i (fx s k) b.toNat b.toNat_lt hi1 (by omega)
   rw [← o_ hx] at hg
   generalize hp1:((fx s (k+1)).wait:Int)=p1 at hg
   generalize hp2:((fx s (k+1)).rest:Int)=p2 at hg
   generalize hp3:(fx s (k+1)).out.map bh=p3 at hg
   have Hp:=ae (dw hp1 (dw hp2 hp3))
   clear hp1 hp2 hp3
   unfold dh at hg
   simp only at hg ⊢
   generalize ((fx s k).wait:Int)=q1 at *
   generalize ((fx s k).rest:Int)=q2 at *
   generalize (fx s k).out.map bh=q3 at *
   have Hlt:=ae hlt
   have HO:=ae hO
   clear hlt hk had hpos hs hi1 hi2 hO
   repeat' first | refine st ?_ | (refine ca ?_;apply hg) | (refine br ?_ ?_<;>intro hb) | fail
   intro i'
   repeat' first | refine st ?_ | (refine br ?_ ?_<;>intro hb) | fail
   obtain⟨hp1,hp2,hp3⟩:=Hp.out
   subst hp1 hp2 hp3
   refine HI.out (k+1,i',.own S.length 0) _ _ (by have:=Hlt.out;simp only;omega) ⟨Hlt.out,.inr rfl, ?_, ?_, ?_, ?_, ?_, ?_, ?_, ?_,rfl⟩
   all_goals (simp only [go_sem, *];try rfl)
  ·have hkl:k=s.length:=by omega
   subst hkl
   have h1:decide ((s.length:Int)<(s.length:Int))=false:=by simp
   have hea:=xD s
   have hel:=tP s
   have hpe:=Di s.length
   rw [← hel] at hpe
   have hh:=H.out
   unfold g9 at hh
   have hsz:=fun S'=>CB w0 S' s.length (by omega)
   rw [hpe] at hsz
   have hp4:kB (gD s).length≤3:=by unfold kB;omega
   have hre:=fun S'=>v8 w0 S' [61] (kB (gD s).length) (by omega) (by simp;omega)
   simp only [uK] at hre
   have hwp:af.wrap (((gD s).length+kB (gD s).length:Nat) - ((gD s).length:Int))=((kB (gD s).length:Nat):Int):=by rw [au _ (by omega)];omega
   have hBl:1≤(gD s).length:=by omega
   have hle:(gD s).length+(bp (kB (gD s).length) (61:UInt8)).length≤9223372036854775807:=by simp;omega
   generalize fx s s.length=q at *
   generalize kB (gD s).length=pd at *
   have hBl2:(gD s).length≤100000:=by omega
   clear hel hpe hs hpos hk HI H hp4
   obtain⟨o,w,r⟩:=q
   simp only at f6 f7 hi2 ⊢
   unfold xR at hi1
   simp only at hi1
   generalize gD s=B at *
   rcases hi1 with⟨rfl,rfl⟩ | ⟨rfl,hr2⟩ | ⟨rfl,hr2⟩
   ·have e:o.map bh=B:=by simpa [jM] using hea
    rw [e]
    have hst:=FL w0 S ad had i B 8 6 (.fn (.func 191) [] [.own S.length 0]) 0 0 hBl
    have hln:=fun S' ha=>sc w0 S' S.length ad (.sown (S.length+6) i B.length) B.length ha (.inr ⟨_,_,rfl⟩)
    unfold dh at hst ⊢
    have HO:=ae hO
    clear hea had hO hBl hBl2 hi2 e
    repeat' first | refine st ?_ | (refine ca ?_;first | apply hst | apply hsz | (apply hln;(· simp only [go_sem, *];try rfl)) | apply hre) | (refine br ?_ ?_<;>intro hb) | fail
    refine fR Tryz.results117 ?_
    exact hh
   ·have e:o.map bh++[bh (r * 16)]=B:=by rw [← hea];simp [jM]
    obtain⟨v,hv⟩:∃ v,v=r * 16:=⟨_,rfl⟩
    rw [← hv] at e
    have hsh:af.wrap ((r:Int) * 2 ^ min 4 64)=(v:Int):=by rw [show (2:Int) ^ min 4 64=16 by decide,au _ (by omega)];omega
    have hwd:af.wrap 4=4:=by decide
    have hc2:((2:Nat):Int)=2:=rfl
    have hsg:([65,66,67,68,69,70,71,72,73,74,75,76,77,78,79,80,81,82,83,84,85,86,87,88,89,90,97,98,99,100,101,102,103,104,105,106,107,108,109,110,111,112,113,114,115,116,117,118,119,120,121,122,48,49,50,51,52,53,54,55,56,57,43,47]:List UInt8)[v]? = some (bh v):=by
     have:∀ v,v<64→mU[v]? = some (bh v):=by decide +kernel
     exact this v (by omega)
    have hol:o.length≤1000000:=by have:=congrArg dM e;simp at this;omega
    generalize bh v=c at hsg e
    have hwb:=FF w0 S ad had i (o.map bh) 8 6 (.fn (.func 191) [] [.own S.length 0]) 2 (r:Int) c (by rw [aY];exact hol)
    rw [e] at hwb
    have hst:=FL w0 S (.own S.length 0) (.inr rfl) (i+1) B 8 6 (.fn (.func 191) [] [.own S.length 0]) 2 (r:Int) hBl
    have hln:=fun S' ha=>sc w0 S' S.length (.own S.length 0) (.sown (S.length+6) (i+1) B.length) B.length ha (.inr ⟨_,_,rfl⟩)
    generalize o.map bh=A at *
    unfold dh at hst hwb ⊢
    have HO:=ae hO
    clear hea had hO hBl hBl2 hi2 e hol hr2 hv
    repeat' first | refine st ?_ | (refine ca ?_;first | apply hwb | apply hst | apply hsz | (apply hln;(· simp only [go_sem, *];try rfl)) | apply hre) | (refine br ?_ ?_<;>intro hb) | fail
    refine fR Tryz.results117 ?_
    exact hh
   ·have e:o.map bh++[bh (r * 4)]=B:=by rw [← hea];simp [jM]
    obtain⟨v,hv⟩:∃ v,v=r * 4:=⟨_,rfl⟩
    rw [← hv] at e
    have hsh:af.wrap ((r:Int) * 2 ^ min 2 64)=(v:Int):=by rw [show (2:Int) ^ min 2 64=4 by decide,au _ (by omega)];omega
    have hwd:af.wrap 2=2:=by decide
    have hc2:((4:Nat):Int)=4:=rfl
    have hsg:([65,66,67,68,69,70,71,72,73,74,75,76,77,78,79,80,81,82,83,84,85,86,87,88,89,90,97,98,99,100,101,102,103,104,105,106,107,108,109,110,111,112,113,114,115,116,117,118,119,120,121,122,48,49,50,51,52,53,54,55,56,57,43,47]:List UInt8)[v]? = some (bh v):=by
     have:∀ v,v<64→mU[v]? = some (bh v):=by decide +kernel
     exact this v (by omega)
    have hol:o.length≤1000000:=by have:=congrArg dM e;simp at this;omega
    generalize bh v=c at hsg e
    have hwb:=FF w0 S ad had i (o.map bh) 8 6 (.fn (.func 191) [] [.own S.length 0]) 4 (r:Int) c (by rw [aY];exact hol)
    rw [e] at hwb
    have hst:=FL w0 S (.own S.length 0) (.inr rfl) (i+1) B 8 6 (.fn (.func 191) [] [.own S.length 0]) 4 (r:Int) hBl
    have hln:=fun S' ha=>sc w0 S' S.length (.own S.length 0) (.sown (S.length+6) (i+1) B.length) B.length ha (.inr ⟨_,_,rfl⟩)
    generalize o.map bh=A at *
    unfold dh at hst hwb ⊢
    have HO:=ae hO
    clear hea had hO hBl hBl2 hi2 e hol hr2 hv
    repeat' first | refine st ?_ | (refine ca ?_;first | apply hwb | apply hst | apply hsz | (apply hln;(· simp only [go_sem, *];try rfl)) | apply hre) | (refine br ?_ ?_<;>intro hb) | fail
    refine fR Tryz.results117 ?_
    exact hh
theorem ofNat_toNat {v:Nat} (h:v<256):(aD v).toNat=v:=by simp;omega
theorem zn (w0:World) (X:List ax) (hX:bw X) (ad:AV) (had:ad=.nilp∨ad=.own X.length 0) (i:Nat) (bs:List UInt8) (fr tz:Int) (wt rs:Int) (v:Nat) (hv:v<256) (hlen:bs.length≤1000000) (R:Rt)
  (h:R (.ret (.tup [])) (X++dh X.length (.own X.length 0) (i+1) (bs++[aD v]) fr tz (.fn (.func 252) [] [.own X.length 0]) wt rs)) :
  ao Tryz.prog w0 252 [.int .i64 v,.own X.length 0] (X++dh X.length ad i bs fr tz (.fn (.func 252) [] [.own X.length 0]) wt rs) R:=by
 have hsg:aW.wrap (v:Int)=(((aD v).toNat:Nat):Int):=by rw [ofNat_toNat hv];exact en _ (by omega)
 generalize aD v=c at h hsg
 have hw:=FF w0 X ad had i bs fr tz (.fn (.func 252) [] [.own X.length 0]) wt rs c hlen
 have hok:=Be X hX (.own X.length 0) (.inr rfl) (i+1) (bs++[c]) fr tz 252 wt rs
 generalize hS:X++dh X.length (.own X.length 0) (i+1) (bs++[c]) fr tz (.fn (.func 252) [] [.own X.length 0]) wt rs=S2 at *
 have hl2:S2.length=X.length+7:=by rw [← hS];simp [dh]
 have hl1:(X++dh X.length ad i bs fr tz (.fn (.func 252) [] [.own X.length 0]) wt rs).length=X.length+7:=by simp [dh]
 have hgt:(X++dh X.length ad i bs fr tz (.fn (.func 252) [] [.own X.length 0]) wt rs)[X.length]? = some (ax.cells [ad,.sown (X.length+6) i bs.length] (some 90)):=by simp [dh]
 generalize X++dh X.length ad i bs fr tz (.fn (.func 252) [] [.own X.length 0]) wt rs=S1 at *
 clear hX had hlen hS hv
 have Hok:=ae hok
 clear hok
 refine eN Tryz.func252 rfl Tryz.ntmps252 fun hO=>?_
 repeat' first | refine st ?_ | (refine ca ?_;apply hw) | (refine br ?_ ?_<;>intro hb) | fail
 refine El Tryz.results252 ?_ ?_ ?_
 ·exact Hok.out
 ·rw [hl1,hl2]
 ·exact h
theorem F4 (w0:World) (X:List ax) (hX:bw X) (ad:AV) (had:ad=.nilp∨ad=.own X.length 0) (i:Nat) (q:lj) (n:Nat) (hn:n<64) (hq:vF q) (hlen:q.out.length≤100000) (R:Rt)
  (h:∀ ad' i',(ad'=.nilp∨ad'=.own X.length 0)→R (.ret (.tup [.int .i64 ((cY q n).wait:Nat),.int .i64 ((cY q n).rest:Nat)])) (X++dh X.length ad' i' ((cY q n).out.map aD) 6 8 (.fn (.func 252) [] [.own X.length 0]) ((cY q n).wait:Nat) ((cY q n).rest:Nat))) :
  ao Tryz.prog w0 231 [.int .i64 n,.own (X.length+5) 0,.own (X.length+1) 0,.own (X.length+4) 0,.own (X.length+2) 0,.own (X.length+3) 0] (X++dh X.length ad i (q.out.map aD) 6 8 (.fn (.func 252) [] [.own X.length 0]) (q.wait:Nat) (q.rest:Nat)) R:=by
 obtain⟨o,w,r⟩:=q
 unfold vF at hq
 have wz0:af.wrap 0=0:=by decide
 have w2:af.wrap 2=2:=by decide
 have w4:af.wrap 4=4:=by decide
 have w6:af.wrap 6=6:=by decide
 have w8:af.wrap 8=8:=by decide
 have w10:af.wrap 10=10:=by decide
 have w12:af.wrap 12=12:=by decide
 have c0:((0:Nat):Int)=0:=rfl
 have c2:((2:Nat):Int)=2:=rfl
 have c4:((4:Nat):Int)=4:=rfl
 have c6:((6:Nat):Int)=6:=rfl
 simp only at hq hlen
 obtain⟨m,hmm⟩:∃ m,m=r * 64+n:=⟨_,rfl⟩
 have hor:=Gd (a:=r) (b:=n) (k:=6) (by omega) (by omega) (by omega)
 have hmp:r * 2 ^ 6+n=m:=by omega
 rw [hmp] at hor
 simp only [a6] at hor
 clear hmp
 have hm:m<64 * 2 ^ w:=by rcases hq with⟨rfl,hr⟩ | ⟨rfl,hr⟩ | ⟨rfl,hr⟩ | ⟨rfl,hr⟩<;>omega
 rcases hq with⟨rfl,hr⟩ | ⟨rfl,hr⟩ | ⟨rfl,hr⟩ | ⟨rfl,hr⟩
 ·have e:cY ⟨o,0,r⟩ n=⟨o,6,m⟩:=by rw [hmm];rfl
  rw [e] at h
  have hok:=fun B=>Be X hX ad had i B 6 8 252 6 (m:Int)
  have h:=h ad i had
  simp only at h ⊢
  generalize o.map aD=A at h ⊢
  unfold dh at h hok ⊢
  have Hok:=ae (hok A)
  clear hX had hn hr e hm hmm hlen hok
  refine eN Tryz.func231 rfl Tryz.ntmps231 fun hO=>?_
  repeat' first | refine st ?_ | (refine br ?_ ?_<;>intro hb) | apply cR | apply fO | refine sd ?_ | apply aB | (apply aL;(· decide +kernel)) | refine bd ?_ ?_ | fail
  refine BP Tryz.results231 ?_ ?_ ?_
  ·exact Hok.out
  ·simp
  ·exact h
 ·have e:cY ⟨o,6,r⟩ n=⟨o++[m / 16],4,m % 16⟩:=by rw [hmm];rfl
  rw [e] at h
  have hv:m / 16<256:=by omega
  have h3:af.wrap (af.wrap (1 * 2 ^ min 4 64) - 1)=15:=by decide
  have h1:(m:Int).fdiv (2 ^ min 4 64)=((m / 16:Nat):Int):=jn m 4 (by omega)
  have h2:af.wrap (((ai af.bits (m:Int) &&& ai af.bits 15).toNat:Nat):Int)=((m % 16:Nat):Int):=vD (m:=m) (k:=4) (by omega) (by omega)
  simp only [a6] at h2
  have hp:=zn w0 X hX ad had i (o.map aD) 6 8 4 m (m / 16) hv (by rw [aY];omega)
  have hok:=fun B=>Be X hX (.own X.length 0) (.inr rfl) (i+1) B 6 8 252 4 ((m % 16:Nat):Int)
  simp only [bg,aA,aC] at h
  generalize o.map aD++[aD (m / 16)]=B at h hp
  generalize o.map aD=A at h hp ⊢
  have h:=h (.own X.length 0) (i+1) (.inr rfl)
  unfold dh at h hp hok ⊢
  simp only at h hp hok ⊢
  have Hok:=ae (hok B)
  clear hX had hn hr e hm hmm hv hlen hok
  refine eN Tryz.func231 rfl Tryz.ntmps231 fun hO=>?_
  repeat' first | refine st ?_ | (refine ca ?_;apply hp) | (refine br ?_ ?_<;>intro hb) | apply cR | apply fO | refine sd ?_ | apply aB | (apply aL;(· decide +kernel)) | refine bd ?_ ?_ | (refine cd ?_;apply hp) | fail
  ·repeat' first | exact aB | refine fY ?_ | refine fu (by decide +kernel) ?_
  refine BP Tryz.results231 ?_ ?_ ?_
  ·exact Hok.out
  ·simp
  ·exact h
 ·have e:cY ⟨o,4,r⟩ n=⟨o++[m / 4],2,m % 4⟩:=by rw [hmm];rfl
  rw [e] at h
  have hv:m / 4<256:=by omega
  have h3:af.wrap (af.wrap (1 * 2 ^ min 2 64) - 1)=3:=by decide
  have h1:(m:Int).fdiv (2 ^ min 2 64)=((m / 4:Nat):Int):=jn m 2 (by omega)
  have h2:af.wrap (((ai af.bits (m:Int) &&& ai af.bits 3).toNat:Nat):Int)=((m % 4:Nat):Int):=vD (m:=m) (k:=2) (by omega) (by omega)
  simp only [a6] at h2
  have hp:=zn w0 X hX ad had i (o.map aD) 6 8 2 m (m / 4) hv (by rw [aY];omega)
  have hok:=fun B=>Be X hX (.own X.length 0) (.inr rfl) (i+1) B 6 8 252 2 ((m % 4:Nat):Int)
  simp only [bg,aA,aC] at h
  generalize o.map aD++[aD (m / 4)]=B at h hp
  generalize o.map aD=A at h hp ⊢
  have h:=h (.own X.length 0) (i+1) (.inr rfl)
  unfold dh at h hp hok ⊢
  simp only at h hp hok ⊢
  have Hok:=ae (hok B)
  clear hX had hn hr e hm hmm hv hlen hok
  refine eN Tryz.func231 rfl Tryz.ntmps231 fun hO=>?_
  repeat' first | refine st ?_ | (refine ca ?_;apply hp) | (refine br ?_ ?_<;>intro hb) | apply cR | apply fO | refine sd ?_ | apply aB | (apply aL;(· decide +kernel)) | refine bd ?_ ?_ | (refine cd ?_;apply hp) | fail
  ·repeat' first | exact aB | refine fY ?_ | refine fu (by decide +kernel) ?_
  refine BP Tryz.results231 ?_ ?_ ?_
  ·exact Hok.out
  ·simp
  ·exact h
 ·have e:cY ⟨o,2,r⟩ n=⟨o++[m],0,0⟩:=by rw [hmm];rfl
  rw [e] at h
  have hv:m<256:=by omega
  have h3:af.wrap (af.wrap (1 * 2 ^ min 0 64) - 1)=0:=by decide
  have h1:(m:Int).fdiv (2 ^ min 0 64)=(m:Int):=by have:=jn m 0 (by omega);simpa using this
  have h2:=vD (m:=m) (k:=0) (by omega) (by omega)
  have h2:af.wrap (((ai af.bits (m:Int) &&& ai af.bits 0).toNat:Nat):Int)=0:=by rw [Nat.pow_zero,Nat.mod_one] at h2;exact h2
  simp only [a6] at h2
  have hp:=zn w0 X hX ad had i (o.map aD) 6 8 0 m m hv (by rw [aY];omega)
  have hok:=fun B=>Be X hX (.own X.length 0) (.inr rfl) (i+1) B 6 8 252 0 0
  simp only [bg,aA,aC] at h
  generalize o.map aD++[aD m]=B at h hp
  generalize o.map aD=A at h hp ⊢
  have h:=h (.own X.length 0) (i+1) (.inr rfl)
  unfold dh at h hp hok ⊢
  simp only at h hp hok ⊢
  have Hok:=ae (hok B)
  clear hX had hn hr e hm hmm hv hlen hok
  refine eN Tryz.func231 rfl Tryz.ntmps231 fun hO=>?_
  repeat' first | refine st ?_ | (refine ca ?_;apply hp) | (refine br ?_ ?_<;>intro hb) | apply cR | apply fO | refine sd ?_ | apply aB | (apply aL;(· decide +kernel)) | refine bd ?_ ?_ | (refine cd ?_;apply hp) | fail
  ·repeat' first | exact aB | refine fY ?_ | refine fu (by decide +kernel) ?_
  refine BP Tryz.results231 ?_ ?_ ?_
  ·exact Hok.out
  ·simp
  ·exact h
theorem wK (w0:World) (S:List ax) (s:List UInt8) (hs:s.length≤1000000000) (R:Rt) (h:R (.ret (.str (fU s))) S):ao Tryz.prog w0 251 [.str s,.str [61]] S R:=by
 refine ao.lib (vs:=[.string ⟨s.toArray⟩,.string ⟨#[61]⟩]) (v:=.str (fU s)) (c:=.string ⟨(fU s).toArray⟩) (Go.Proofs.enters_of Tryz.func251 (by kernel_rfl) rfl) rfl rfl ?_ h
 intro w hb
 refine(Go.Proofs.Any.strings_TrimRight_one Go.Proofs.Tryz.lays162 ⟨s.toArray⟩ 61 (by decide) w ?_).mono ?_
 ·show s.toArray.size≤_
  simp;omega
 ·rintro e w' ⟨rfl,rfl⟩
  refine⟨?_,jR _ _⟩
  rfl
def sF (v:Nat):AV × AV:=(.int .u8 ((bh v).toNat:Int),.int .i64 (v:Int))
def d_ (k:Nat):List (AV × AV):=(bC k).map sF
theorem uA (k:Nat):d_ (k+1)=d_ k++[sF k]:=by
 unfold d_
 rw [List.range_succ,bg]
 rfl
theorem yC:∀ v,v<64→∀ u,u<v→(((bh v).toNat:Int)==((bh u).toNat:Int))=false:=by decide +kernel
theorem BG {c:UInt8}{u:Nat}:jb (.int .u8 (c.toNat:Int)) (sF u).1=((c.toNat:Int)==((bh u).toNat:Int)):=rfl
theorem yl {k:Nat} (hk:k<64):(d_ k).any (fun e=>jb (.int .u8 ((bh k).toNat:Int)) e.1)=false:=by
 rw [List.any_eq_false]
 intro e he
 obtain⟨u,hu,rfl⟩:=aH.1 he
 rw [BG,yC k hk u (cP.1 hu)]
 simp
theorem sB (k:Nat):((d_ k).all fun e=>dW Tryz.prog 5 e.1)=true:=by
 rw [aq]
 intro e he
 obtain⟨u,hu,rfl⟩:=aH.1 he
 unfold sF
 simp only [dW,go_sem]
theorem Aw {k:Nat} (hk:k<64):h_ (.int .u8 ((bh k).toNat:Int)) (.int .i64 (k:Int)) (d_ k)=d_ (k+1):=by
 unfold h_
 rw [yl hk,uA]
 rfl
theorem EZ (S:List ax){k:Nat} (hk:k<64):em Tryz.prog (S++[ax.mp false (d_ k)]) 204 (.mown S.length) (.int .u8 ((bh k).toNat:Int)) (.int .i64 (k:Int))=some (S++[ax.mp false (d_ (k+1))]):=by
 have hg:(S++[ax.mp false (d_ k)])[S.length]? = some (ax.mp false (d_ k)):=by simp
 have hkk:dW Tryz.prog 5 (.int .u8 ((bh k).toNat:Int))=true:=by simp only [dW,go_sem]
 unfold em
 rw [show Tryz.prog.underlying 204=some (.map 5 3) by simp only [go_sem]]
 simp only [hg,hkk,sB,Aw hk,x_,if_true]
 simp
theorem xJ (S:List ax) (fr:Nat→Bool) (d k:Nat):((d_ k).map fun e=>(e.1,conv S fr d e.2))=d_ k:=by
 refine(List.map_congr_left fun e he=>?_).trans (List.map_id _)
 obtain⟨u,hu,rfl⟩:=aH.1 he
 unfold sF
 cases d<;>rfl
theorem Bt (n k:Nat):(AV.mval (d_ k)).lt n=true:=by
 have:∀ l:List Nat,lh n (l.map sF)=true:=by
  intro l
  induction l with
  | nil=>rfl
  | cons a l ih=>simp only [aA,sF,lh,AV.lt,lX];exact ih
 exact this _
theorem zP (S:List ax) (k:Nat):conv (S++[ax.mp false (d_ k)]) (fun a=>decide (S.length≤a)) 4 (.mown S.length)=.mval (d_ k):=by
 have hg:(S++[ax.mp false (d_ k)])[S.length]? = some (ax.mp false (d_ k)):=by simp
 have hd:decide (S.length≤S.length)=true:=by simp
 rw [conv]
 simp only [AV.plain,hd,hg,bJ,if_false,if_true]
 rw [xJ]
theorem Az {P:Program}{S S':List ax}{ρ:Operand→AV}{t:TypeId}{m k v:Operand} (h:em P S t (ρ m) (ρ k) (ρ v)=some S'):dc P S ρ (.mapUpdate t m k v)=some (.tup [],S'):=by
 simp only [dc,h]
theorem zr (c:UInt8):(d_ 64).find? (fun e=>jb (.int .u8 (c.toNat:Int)) e.1)=(j7 c).map sF:=by
 have:∀ n:Nat,n<256→((bC 64).find? (fun u=>((aD n).toNat:Int)==((bh u).toNat:Int)))=j7 (aD n):=by decide +kernel
 have h:=this c.toNat c.toNat_lt
 rw [bm] at h
 unfold d_
 rw [List.find?_map,← h]
 rfl
theorem Bf (w0:World) (S:List ax) (R:Rt) (h:R (.ret (.mval (d_ 64))) S):ao Tryz.prog w0 253 [] S R:=by
 refine eN Tryz.func253 rfl Tryz.ntmps253 fun hO=>?_
 repeat' first | refine st ?_ | (refine br ?_ ?_<;>intro hb) | fail
 refine eJ (fun (k:Nat) env S'=>k≤64∧env 1000000=.dfr []∧env 1=.mown S.length∧env 4=.int .i64 (k:Int)∧S'=S++[ax.mp false (d_ k)]) (fun k=>64 - k) 0 ?_ ?_
 ·exact⟨by omega,ss,ss,ss,rfl⟩
 ·rintro k env S' ⟨hk,e0,f1,f4,rfl⟩ IH
  have HI:=ae IH
  clear IH
  by_cases hlt:k<64
  ·have h1:decide ((k:Int)<64)=true:=by simp;omega
   have hw:af.wrap ((k:Int)+1)=(k:Int)+1:=au _ (by omega)
   have hsg:([65,66,67,68,69,70,71,72,73,74,75,76,77,78,79,80,81,82,83,84,85,86,87,88,89,90,97,98,99,100,101,102,103,104,105,106,107,108,109,110,111,112,113,114,115,116,117,118,119,120,121,122,48,49,50,51,52,53,54,55,56,57,43,47]:List UInt8)[k]? = some (bh k):=by
    have:∀ v,v<64→mU[v]? = some (bh v):=by decide +kernel
    exact this k hlt
   have hup:=EZ S hlt
   have Hlt:=ae hlt
   clear hlt hk
   generalize hc:bh k=c at hsg hup
   generalize hM1:d_ k=M at hup ⊢
   generalize hM:d_ (k+1)=M1 at hup
   have HM:=ae hM
   clear hM hM1 hc
   have Hup:=ae hup
   clear hup
   repeat' first | refine st ?_ | (refine br ?_ ?_<;>intro hb) | fail
   refine dF (v:=.tup []) (S':=S++[ax.mp false M1]) ss (Az Hup.out) ss ?_
   simp only [putA]
   repeat' first | refine st ?_ | (refine br ?_ ?_<;>intro hb) | fail
   rw [← HM.out]
   refine HI.out (k+1) _ _ (by have:=Hlt.out;omega) ⟨Hlt.out, ?_, ?_, ?_,rfl⟩
   all_goals (simp only [go_sem, *];try rfl)
  ·have hk64:k=64:=by omega
   subst hk64
   have h1:decide ((64:Int)<64)=false:=by decide
   have hc64:((64:Nat):Int)=64:=rfl
   have hcv:=zP S 64
   have hlt4:=Bt S.length 64
   have hok:=f_ S [ax.mp false (d_ 64)]
   have htk:(S++[ax.mp false (d_ 64)]).take S.length=S:=kU
   generalize d_ 64=M at h hcv hlt4 hok htk ⊢
   clear hlt hk HI
   repeat' first | refine st ?_ | (refine br ?_ ?_<;>intro hb) | fail
   exact wm (vs:=[.mown S.length]) ss ss (by (simp only [go_sem, *,Tryz.results253];try rfl)) hok hcv hlt4 htk h
theorem vR {P:Program}{S:List ax}{ρ:Operand→AV}{t:TypeId}{x k:Operand}{ok:Bool}{y:AV} (h:gK P S t (ρ x) (ρ k) ok=some y):dc P S ρ (.lookup t x k ok)=some (y,S):=by
 simp [dc,ez,h]
def Gk:Option Nat→AV
 | some v=>.tup [.int .i64 v,.bool true]
 | none=>.tup [.int .i64 0,.bool false]
theorem Kc (S:List ax) (c:UInt8):gK Tryz.prog S 204 (.mval (d_ 64)) (.int .u8 (c.toNat:Int)) true=some (Gk (j7 c)):=by
 have hkk:dW Tryz.prog 5 (.int .u8 (c.toNat:Int))=true:=by simp only [dW,go_sem]
 have hz:kj Tryz.prog 3=some (.int .i64 0):=by simp only [go_sem]
 unfold gK
 rw [show Tryz.prog.underlying 204=some (.map 5 3) by simp only [go_sem]]
 simp only [kI]
 unfold wk
 simp only [hkk,sB,x_,if_true,hz,zr]
 cases j7 c<;>rfl
def jW (V:List Nat):lj:=V.foldl cY ⟨[],0,0⟩
theorem sL (V:List Nat) (v:Nat):jW (V++[v])=cY (jW V) v:=by unfold jW;rw [CJ];rfl
theorem sM (V:List Nat) (h:∀ v∈V,v<64):jW V=cM V:=by
 unfold jW
 rw [tQ V [] h]
 rfl
theorem wH (l:List UInt8) (c:UInt8):ft (l++[c])=(ft l).bind fun V=>(j7 c).map fun v=>V++[v]:=by
 induction l with
 | nil=>cases h:j7 c<;>simp [ft,h]
 | cons b l ih =>
  simp only [cz,ft]
  cases hb:j7 b with
  | none=>rfl
  | some v=>rw [ih];cases h1:ft l<;>cases h2:j7 c<;>rfl
theorem sC:∀ {l:List UInt8}{k:Nat}{c:UInt8},l[k]? = some c→j7 c=none→ft l=none
 | [],k,c,h,_=>by simp at h
 | b::l,0,c,h,hc=>by
  simp at h;subst h
  simp [ft,hc]
 | b::l,k+1,c,h,hc=>by
  have:=sC (l:=l) (by simpa using h) hc
  simp only [ft,this]
  cases j7 b<;>rfl
theorem vS:∀ (n:Nat) (V:List Nat),V.length=n→(∀ v∈V,v<64)→vF (jW V)∧(jW V).out.length≤V.length
 | 0,V,hn,_=>by
  have:V=[]:=bo hn
  subst this
  unfold jW vF;simp
 | n+1,V,hn,h=>by
  obtain⟨W,v,rfl⟩:∃ W v,V=W++[v]:=by
   have hne:V≠[]:=by rintro rfl;simp at hn
   exact⟨V.dropLast,V.getLast hne,(so hne).symm⟩
  obtain⟨h1,h2⟩:=vS n W (by simpa using hn) (fun x hx=>h x (by simp [hx]))
  obtain⟨h3,h4⟩:=zl h1 (h v (by simp))
  rw [sL]
  refine⟨h3, ?_⟩
  rw [ah]
  simp only [aI,aU]
  omega
theorem yw (s:List UInt8):(fU s).length≤s.length:=by
 obtain⟨k,hk⟩:=oA s
 have:=congrArg dM hk
 simp at this
 omega
def D3:Option (List UInt8)→AV
 | some c=>.tup [.str c,.int .i64 0]
 | none=>.tup [.str [],.int .i64 6]
theorem pj:∀ V:List Nat,(cM V).out.length=V.length * 3 / 4
 | []=>by simp [cM]
 | [_]=>by simp [cM]
 | [_,_]=>by simp [cM]
 | [_,_,_]=>by simp [cM]
 | a::b::c::d::r=>by
  have ih:=pj r
  simp only [cM,aI]
  omega
theorem Bq (w0:World) (S:List ax) (s:List UInt8) (hs:s.length≤8192) (R:Rt) (h:R (.ret (D3 (pk s))) S):ao Tryz.prog w0 209 [.str s] S R:=by
 have hr:=fun S'=>oJ w0 S' 6 8 252 S.length (by decide)
 have d0:decide ((8192:Int)<(s.length:Int))=false:=by simp;omega
 have htr:=fun S'=>wK w0 S' s (by omega)
 have hva:=Bf w0
 have htl:=yw s
 have hmm:(s.length:Int).tmod 4=((s.length % 4:Nat):Int):=FW s.length 4
 have hwd:af.wrap ((s.length:Int) - ((fU s).length:Int))=((s.length - (fU s).length:Nat):Int):=by rw [au _ (by omega)];omega
 have hlk:=fun S' c=>Kc S' c
 unfold pk at h
 have bad:((fU s).length≠s.length∧(s.length % 4≠0∨2<s.length - (fU s).length))→R (.ret (.tup [.str [],.int .i64 6])) S:=fun e=>by rw [if_pos e] at h;exact h
 have good:¬ ((fU s).length≠s.length∧(s.length % 4≠0∨2<s.length - (fU s).length))→R (.ret (D3 (match ft (fU s) with | none=>none | some V=>if (cM V).wait=6∨(cM V).rest≠0 then none else some ((cM V).out.map aD)))) S:=fun e=>by rw [if_neg e] at h;exact h
 clear h
 generalize fU s=t at *
 generalize d_ 64=M at hva hlk
 have Bad:=ae bad
 have Good:=ae good
 have Hlk:=ae hlk
 have Hva:=ae hva
 have Hr:=ae hr
 clear bad good hlk hva hr
 by_cases hA:(t.length≠s.length∧(s.length % 4≠0∨2<s.length - t.length))
 ·have hh:=Bad.out hA
  have b1:((t.length:Int) != (s.length:Int))=true:=by rw [bne_iff_ne];omega
  by_cases hB:s.length % 4=0
  ·have b2:(((s.length % 4:Nat):Int) != 0)=false:=by rw [hB];rfl
   have b3:decide ((2:Int)<((s.length - t.length:Nat):Int))=true:=by simp;omega
   clear hA hB hs htl
   refine eN Tryz.func209 rfl Tryz.ntmps209 fun hO=>?_
   repeat' first | refine st ?_ | (refine ca ?_;apply htr) | (refine br ?_ ?_<;>intro hb) | fail
   refine fR Tryz.results209 ?_
   exact hh
  ·have b2:(((s.length % 4:Nat):Int) != 0)=true:=by rw [bne_iff_ne];omega
   clear hA hB hs htl
   refine eN Tryz.func209 rfl Tryz.ntmps209 fun hO=>?_
   repeat' first | refine st ?_ | (refine ca ?_;apply htr) | (refine br ?_ ?_<;>intro hb) | fail
   refine fR Tryz.results209 ?_
   exact hh
 have good:=Good.out hA
 clear Bad Good
 by_cases ht0:t=[]
 ·subst ht0
  have good:R (.ret (.tup [.str [],.int .i64 0])) S:=good
  have hbe:=fun S' ha=>pz w0 S' S.length ha
  have hva:=Hva.out
  have hr:=Hr.out
  have hc0:((0:Nat):Int)=0:=rfl
  by_cases hs0:s.length=0
  ·have b1:((0:Int) != (s.length:Int))=false:=by rw [hs0];rfl
   clear hA hs0 hs htl
   refine eN Tryz.func209 rfl Tryz.ntmps209 fun hO=>?_
   repeat' first | refine st ?_ | (refine ca ?_;first | apply htr | apply hr | apply hva | (apply hbe;(· simp only [go_sem, *];try rfl))) | (refine br ?_ ?_<;>intro hb) | apply cR | apply fO | fail
   refine fR Tryz.results209 ?_
   exact good
  ·have b1:((0:Int) != (s.length:Int))=true:=by rw [bne_iff_ne];omega
   simp at hA
   have b2:(((s.length % 4:Nat):Int) != 0)=false:=by rw [bne_eq_false_iff_eq];omega
   have b3:decide ((2:Int)<((s.length - ([]:List UInt8).length:Nat):Int))=false:=by simp;omega
   exfalso
   omega
 have Good:=ae good
 have hpos:0<t.length:=List.length_pos_iff.2 ht0
 clear good ht0
 have HA:=ae (dw hA (dw hs htl))
 have Hpos:=ae hpos
 clear hA hs htl hpos
 refine eN Tryz.func209 rfl Tryz.ntmps209 fun hO=>?_
 refine share ?K1 ?hK1 fun key1=>?main
 case main =>
  have hva:=Hva.out
  have hr:=Hr.out
  replace key1:=ae key1
  obtain⟨hA,hs,htl⟩:=HA.out
  by_cases h1:t.length=s.length
  ·have b1:((t.length:Int) != (s.length:Int))=false:=by rw [h1];simp
   clear hA h1 hs htl
   repeat' first | refine st ?_ | (refine ca ?_;first | apply htr | apply hr | apply hva) | (refine br ?_ ?_<;>intro hb) | fail
   refine jV [1000000,4,5,6,7,8,9,41,42] ?_
   simp only [fH,go_sem]
   exact key1.out
  ·have b1:((t.length:Int) != (s.length:Int))=true:=by rw [bne_iff_ne];omega
   have b2:(((s.length % 4:Nat):Int) != 0)=false:=by rw [bne_eq_false_iff_eq];omega
   have b3:decide ((2:Int)<((s.length - t.length:Nat):Int))=false:=by simp;omega
   clear hA h1 hs htl
   repeat' first | refine st ?_ | (refine ca ?_;first | apply htr | apply hr | apply hva) | (refine br ?_ ?_<;>intro hb) | fail
   refine jV [1000000,4,5,6,7,8,9,41,42] ?_
   simp only [fH,go_sem]
   exact key1.out
 case hK1 =>
  rintro env ⟨e0,f4,f5,f6,f7,f8,f9,f41,f42⟩
  clear htr
  refine l5 (a:=S.length) (j:=1) 5 1 ss ss (by decide) ?_
  simp only [go_sem, *]
  refine eJ (fun (p:Nat × Nat × AV × List Nat) env S'=>p.1≤t.length∧(p.2.2.1=.nilp∨p.2.2.1=.own S.length 0)∧ft (t.take p.1)=some p.2.2.2∧env 1000000=.dfr []∧env 4=.str t∧env 5=.own S.length 0∧env 6=.fn (.func 231) [] [.own (S.length+5) 0,.own (S.length+1) 0,.own (S.length+4) 0,.own (S.length+2) 0,.own (S.length+3) 0] ∧
   env 7=.mval M∧env 8=.int .i64 ((jW p.2.2.2).wait:Nat)∧env 9=.int .i64 ((jW p.2.2.2).rest:Nat)∧env 41=.int .i64 t.length∧env 42=.int .i64 (p.1:Int) ∧
   S'=S++dh S.length p.2.2.1 p.2.1 ((jW p.2.2.2).out.map aD) 6 8 (.fn (.func 252) [] [.own S.length 0]) ((jW p.2.2.2).wait:Nat) ((jW p.2.2.2).rest:Nat)) (fun p=>t.length - p.1) (0,0,.nilp,[]) ?_ ?_
  ·exact⟨bx _,.inl rfl,rfl,ss,ss,ss,ss,ss,ss,ss,ss,ss,rfl⟩
  ·clear e0 f4 f5 f6 f7 f8 f9 f41 f42
   rintro⟨k,i,ad,V⟩ env S' ⟨hk,had,hV,e0,f4,f5,f6,f7,f8,f9,f41,f42,rfl⟩ IH
   simp only at hk had hV f8 f9 f42
   have HI:=ae IH
   obtain⟨hVm,hV64⟩:=mR hV
   have hVl:V.length=k:=by have:=congrArg dM hVm;simp at this;omega
   obtain⟨hi1,hi2⟩:=vS V.length V rfl hV64
   obtain⟨hA,hs,htl⟩:=HA.out
   clear IH hVm
   by_cases hlt:k<t.length
   ·obtain⟨c,hx⟩:∃ c,t[k]? = some c:=⟨_,al hlt⟩
    have h1:decide ((k:Int)<(t.length:Int))=true:=by simpa using hlt
    have hw:af.wrap ((k:Int)+1)=(k:Int)+1:=au _ (by omega)
    have hlk:=fun S'=>Hlk.out S' c
    cases hc:j7 c with
    | none =>
     have hbad:ft t=none:=sC hx hc
     have hh:=Good.out
     rw [hbad] at hh
     have hh:R (.ret (.tup [.str [],.int .i64 6])) S:=hh
     simp only [hc,Gk] at hlk
     have Hlk2:=ae hlk
     clear hlk hbad hc hlt hk had hV hs htl hA hi1 hi2 hVl hV64 HI
     unfold dh
     repeat' first | refine st ?_ | (refine br ?_ ?_<;>intro hb) | fail
     refine dF (v:=.tup [.int .i64 0,.bool false]) ss (vR (Hlk2.out _)) ss ?_
     simp only [putA]
     repeat' first | refine st ?_ | (refine br ?_ ?_<;>intro hb) | fail
     refine fR Tryz.results209 ?_
     exact hh
    | some v =>
     have hv:v<64:=(sD hc).1
     have hV2:ft (t.take (k+1))=some (V++[v]):=by
      rw [eP,hx]
      show ft (t.take k++[c])=_
      rw [wH,hV,hc]
      rfl
     simp only [hc,Gk] at hlk
     have hg:=F4 w0 S hO ad had i (jW V) v hv hi1 (by omega)
     rw [← sL] at hg
     generalize hp1:((jW (V++[v])).wait:Int)=p1 at hg
     generalize hp2:((jW (V++[v])).rest:Int)=p2 at hg
     generalize hp3:(jW (V++[v])).out.map aD=p3 at hg
     have Hp:=ae (dw hp1 (dw hp2 hp3))
     clear hp1 hp2 hp3
     unfold dh at hg
     simp only at hg ⊢
     generalize ((jW V).wait:Int)=q1 at *
     generalize ((jW V).rest:Int)=q2 at *
     generalize (jW V).out.map aD=q3 at *
     have Hlt:=ae hlt
     have HO:=ae hO
     have Hlk2:=ae hlk
     have HV2:=ae hV2
     clear hlk hc hlt hk had hV hs htl hA hi1 hi2 hVl hV64 hO hv hV2
     unfold dh
     repeat' first | refine st ?_ | (refine br ?_ ?_<;>intro hb) | fail
     refine dF (v:=.tup [.int .i64 v,.bool true]) ss (vR (Hlk2.out _)) ss ?_
     simp only [putA]
     repeat' first | refine st ?_ | (refine ca ?_;apply hg) | (refine br ?_ ?_<;>intro hb) | fail
     intro ad' i' had'
     have Had:=ae had'
     clear had'
     repeat' first | refine st ?_ | (refine br ?_ ?_<;>intro hb) | fail
     obtain⟨hp1,hp2,hp3⟩:=Hp.out
     subst hp1 hp2 hp3
     refine HI.out (k+1,i',ad',V++[v]) _ _ (by have:=Hlt.out;simp only;omega) ⟨Hlt.out,Had.out,HV2.out, ?_, ?_, ?_, ?_, ?_, ?_, ?_, ?_, ?_,rfl⟩
     all_goals (simp only [go_sem, *];try rfl)
   ·have hkl:k=t.length:=by omega
    subst hkl
    have h1:decide ((t.length:Int)<(t.length:Int))=false:=by simp
    rw [bk] at hV
    have hh:=Good.out
    rw [hV] at hh
    simp only at hh
    rw [← sM V hV64] at hh
    have hol:=pj V
    have hwi:=pi V
    rw [← sM V hV64] at hol hwi
    have hp:=Hpos.out
    simp only
    by_cases hw6:(jW V).wait=6
    ·rw [if_pos (.inl hw6)] at hh
     have hh:R (.ret (.tup [.str [],.int .i64 6])) S:=hh
     have d1:(((jW V).wait:Int)==6)=true:=by rw [hw6];rfl
     clear hk had hV hs htl hA hi1 hi2 hVl hV64 HI hw6 hol hwi hp hlt
     unfold dh
     generalize ((jW V).wait:Int)=q1 at *
     generalize ((jW V).rest:Int)=q2 at *
     repeat' first | refine st ?_ | (refine br ?_ ?_<;>intro hb) | fail
     refine fR Tryz.results209 ?_
     exact hh
    ·have d1:(((jW V).wait:Int)==6)=false:=by rw [beq_eq_false_iff_ne];omega
     by_cases hr0:(jW V).rest=0
     ·rw [if_neg (by omega)] at hh
      have hh:R (.ret (.tup [.str ((jW V).out.map aD),.int .i64 0])) S:=hh
      have d2:(((jW V).rest:Int) != 0)=false:=by rw [hr0];rfl
      have hbl:1≤((jW V).out.map aD).length:=by rw [aY];omega
      have hst:=FL w0 S ad had i ((jW V).out.map aD) 6 8 (.fn (.func 252) [] [.own S.length 0]) ((jW V).wait:Nat) ((jW V).rest:Nat) hbl
      have HO:=ae hO
      clear hk had hV hs htl hA hi1 hi2 hVl hV64 HI hw6 hol hwi hp hlt hr0 hbl hO
      generalize ((jW V).wait:Int)=q1 at *
      generalize ((jW V).rest:Int)=q2 at *
      generalize (jW V).out.map aD=q3 at *
      unfold dh at hst ⊢
      repeat' first | refine st ?_ | (refine ca ?_;apply hst) | (refine br ?_ ?_<;>intro hb) | fail
      refine fR Tryz.results209 ?_
      exact hh
     ·rw [if_pos (.inr hr0)] at hh
      have hh:R (.ret (.tup [.str [],.int .i64 6])) S:=hh
      have d2:(((jW V).rest:Int) != 0)=true:=by rw [bne_iff_ne];omega
      clear hk had hV hs htl hA hi1 hi2 hVl hV64 HI hw6 hol hwi hp hlt hr0
      generalize ((jW V).wait:Int)=q1 at *
      generalize ((jW V).rest:Int)=q2 at *
      unfold dh
      repeat' first | refine st ?_ | (refine br ?_ ?_<;>intro hb) | fail
      refine fR Tryz.results209 ?_
      exact hh
def wu (w0:World):Prop:=gl w0 11=.pro [.int .u8 0,.int .u8 1,.int .u8 56,.int .u8 2,.int .u8 57,.int .u8 49,.int .u8 28,.int .u8 3,.int .u8 61,.int .u8 58,.int .u8 42,.int .u8 50,.int .u8 38,.int .u8 29,.int .u8 17,.int .u8 4,.int .u8 62,.int .u8 47,.int .u8 59,.int .u8 36,.int .u8 45,.int .u8 43,.int .u8 51,.int .u8 22,.int .u8 53,.int .u8 39,.int .u8 33,.int .u8 30,.int .u8 24,.int .u8 18,.int .u8 12,.int .u8 5,.int .u8 63,.int .u8 55,.int .u8 48,.int .u8 27,.int .u8 60,.int .u8 41,.int .u8 37,.int .u8 16,.int .u8 46,.int .u8 35,.int .u8 44,.int .u8 21,.int .u8 52,.int .u8 32,.int .u8 23,.int .u8 11,.int .u8 54,.int .u8 26,.int .u8 40,.int .u8 15,.int .u8 34,.int .u8 20,.int .u8 31,.int .u8 10,.int .u8 25,.int .u8 14,.int .u8 19,.int .u8 9,.int .u8 13,.int .u8 8,.int .u8 7,.int .u8 6]
def Al (w0:World):Prop:=gl w0 2=.pro [.int .i64 0,.int .i64 13434880,.int .i64 52480,.int .i64 13487360,.int .i64 238,.int .i64 13435085,.int .i64 52685,.int .i64 15066597,.int .i64 8355711,.int .i64 16711680,.int .i64 65280,.int .i64 16776960,.int .i64 6053119,.int .i64 16711935,.int .i64 65535,.int .i64 16777215]
def xf:List Nat:=[0,13434880,52480,13487360,238,13435085,52685,15066597,8355711,16711680,65280,16776960,6053119,16711935,65535,16777215]
theorem DG:∀ n,n<16→∃ v rr,List.drop (n * 1) ([.int .i64 0,.int .i64 13434880,.int .i64 52480,.int .i64 13487360,.int .i64 238,.int .i64 13435085,.int .i64 52685,.int .i64 15066597,.int .i64 8355711,.int .i64 16711680,.int .i64 65280,.int .i64 16776960,.int .i64 6053119,.int .i64 16711935,.int .i64 65535,.int .i64 16777215]:List AV)=.int .i64 (v:Nat)::rr∧v≤16777215:=by
 intro n hn
 have h1:(xf.map (fun v:Nat=>AV.int .i64 (v:Int)))=([.int .i64 0,.int .i64 13434880,.int .i64 52480,.int .i64 13487360,.int .i64 238,.int .i64 13435085,.int .i64 52685,.int .i64 15066597,.int .i64 8355711,.int .i64 16711680,.int .i64 65280,.int .i64 16776960,.int .i64 6053119,.int .i64 16711935,.int .i64 65535,.int .i64 16777215]:List AV):=rfl
 have h2:∀ n,n<16→∃ v,xf[n]? = some v∧v≤16777215:=by
  have:∀ n,n<16→xf.getD n 99999999≤16777215∧n<xf.length:=by decide
  intro n hn
  obtain⟨h1,h2⟩:=this n hn
  refine⟨xf[n],al h2, ?_⟩
  rwa [List.getD_eq_getElem?_getD,al h2] at h1
 obtain⟨v,hv,hvl⟩:=h2 n hn
 refine⟨v,(xf.map (fun v:Nat=>AV.int .i64 (v:Int))).drop (n+1), ?_,hvl⟩
 have hl:=(ab.1 hv)
 rw [Nat.mul_one,← h1,List.drop_eq_getElem_cons (by simpa using hl.1)]
 simp [hl.2]
theorem uX (w0:World) (S:List ax) (n:Nat) (hn:n<6) (R:Rt) (h:R (.ret (.int .i64 (if n=0 then 0 else (55+40 * n:Nat):Nat))) S):ao Tryz.prog w0 271 [.int .i64 n] S R:=by
 by_cases h0:n=0
 ·subst h0
  have h:R (.ret (.int .i64 0)) S:=h
  refine eN Tryz.func271 rfl Tryz.ntmps271 fun hO=>?_
  repeat' first | refine st ?_ | (refine br ?_ ?_<;>intro hb) | fail
  refine fR Tryz.results271 ?_
  exact h
 ·rw [if_neg h0] at h
  have d1:((n:Int)==0)=false:=by rw [beq_eq_false_iff_ne];omega
  have w1:af.wrap (40 * (n:Int))=((40 * n:Nat):Int):=by rw [au _ (by omega)];omega
  have w2:af.wrap (55+((40 * n:Nat):Int))=((55+40 * n:Nat):Int):=by rw [au _ (by omega)];omega
  clear hn h0
  refine eN Tryz.func271 rfl Tryz.ntmps271 fun hO=>?_
  repeat' first | refine st ?_ | (refine br ?_ ?_<;>intro hb) | fail
  refine fR Tryz.results271 ?_
  exact h
def CC (n:Nat):Nat:=if n=0 then 0 else 55+40 * n
theorem uZ {n:Nat} (h:n<6):CC n<256:=by unfold CC;split<;>omega
theorem IU {a b:Nat} (ha:a<16777216) (hb:b<16777216):af.wrap (((ai af.bits (a:Int) ||| ai af.bits (b:Int)).toNat:Nat):Int)=((a ||| b:Nat):Int)∧a ||| b<16777216:=by
 have hl:a ||| b<2 ^ 24:=Nat.or_lt_two_pow ha hb
 refine⟨?_,hl⟩
 rw [Cn]
 have e2:(ai af.bits (a:Int)).toNat=a:=by
  show (ai 64 _).toNat=_
  rw [bL];omega
 have e3:(ai af.bits (b:Int)).toNat=b:=by
  show (ai 64 _).toNat=_
  rw [bL];omega
 rw [e2,e3]
 exact au _ (by omega)
theorem Ew {a k:Nat} (ha:a<65536) (hk:k≤16):af.wrap ((a:Int) * 2 ^ min k 64)=((a * 2 ^ k:Nat):Int):=by
 have h2:2 ^ k≤2 ^ 16:=dL (by omega) hk
 have h3:a * 2 ^ k≤65536 * 65536:=Nat.mul_le_mul (by omega) h2
 rw [Nat.min_eq_left (by omega),show ((a:Int) * 2 ^ k)=((a * 2 ^ k:Nat):Int) by simp]
 exact au _ (by omega)
theorem Kb (w0:World) (hN:Al w0) (S:List ax) (n:Nat) (hn:n<256) (R:Rt) (h:∀ v:Nat,v<16777216→R (.ret (.int .i64 v)) S):ao Tryz.prog w0 230 [.int .i64 n] S R:=by
 unfold Al at hN
 by_cases h16:n<16
 ·have d1:decide ((n:Int)<16)=true:=by simp;omega
  have hk6:(n:Int)<((16:Nat):Int):=by omega
  obtain⟨v,rr,hv,hvl⟩:=DG n h16
  have hh:=h v (by omega)
  clear h hn h16 hvl
  refine eN Tryz.func230 rfl Tryz.ntmps230 fun hO=>?_
  repeat' first | refine st ?_ | (refine br ?_ ?_<;>intro hb) | fail
  refine fR Tryz.results230 ?_
  exact hh
 have d1:decide ((n:Int)<16)=false:=by simp;omega
 by_cases h232:232≤n
 ·have d2:decide ((232:Int)≤(n:Int))=true:=by simp;omega
  have w1:af.wrap ((n:Int) - 232)=((n - 232:Nat):Int):=by rw [au _ (by omega)];omega
  have w2:af.wrap (10 * ((n - 232:Nat):Int))=((10 * (n - 232):Nat):Int):=by rw [au _ (by omega)];omega
  have w3:af.wrap (8+((10 * (n - 232):Nat):Int))=((8+10 * (n - 232):Nat):Int):=by rw [au _ (by omega)];omega
  have w4:af.wrap (((8+10 * (n - 232):Nat):Int) * 65793)=(((8+10 * (n - 232)) * 65793:Nat):Int):=by rw [au _ (by omega)];omega
  have hh:=h ((8+10 * (n - 232)) * 65793) (by omega)
  clear h hn h16 h232 hN
  refine eN Tryz.func230 rfl Tryz.ntmps230 fun hO=>?_
  repeat' first | refine st ?_ | (refine br ?_ ?_<;>intro hb) | fail
  refine fR Tryz.results230 ?_
  exact hh
 ·have d2:decide ((232:Int)≤(n:Int))=false:=by simp;omega
  obtain⟨m,hm⟩:∃ m,m=n - 16:=⟨_,rfl⟩
  have w1:af.wrap ((n:Int) - 16)=(m:Int):=by rw [au _ (by omega)];omega
  have k1:af.wrap ((m:Int).tdiv 36)=((m / 36:Nat):Int):=FX m 36 (by omega)
  have k2:af.wrap ((m:Int).tdiv 6)=((m / 6:Nat):Int):=FX m 6 (by omega)
  have k3:((m / 6:Nat):Int).tmod 6=((m / 6 % 6:Nat):Int):=FW (m / 6) 6
  have k4:(m:Int).tmod 6=((m % 6:Nat):Int):=FW m 6
  have l1:=fun S'=>uX w0 S' (m / 36) (by omega)
  have l2:=fun S'=>uX w0 S' (m / 6 % 6) (by omega)
  have l3:=fun S'=>uX w0 S' (m % 6) (by omega)
  have b1:=uZ (n:=m / 36) (by omega)
  have b2:=uZ (n:=m / 6 % 6) (by omega)
  have b3:=uZ (n:=m % 6) (by omega)
  rw [show (if m / 36=0 then 0 else (55+40 * (m / 36):Nat))=CC (m / 36) from rfl] at l1
  rw [show (if m / 6 % 6=0 then 0 else (55+40 * (m / 6 % 6):Nat))=CC (m / 6 % 6) from rfl] at l2
  rw [show (if m % 6=0 then 0 else (55+40 * (m % 6):Nat))=CC (m % 6) from rfl] at l3
  generalize CC (m / 36)=L1 at *
  generalize CC (m / 6 % 6)=L2 at *
  generalize CC (m % 6)=L3 at *
  have s1:=Ew (a:=L1) (k:=16) (by omega) (by omega)
  have s2:=Ew (a:=L2) (k:=8) (by omega) (by omega)
  obtain⟨a1,ha1⟩:∃ a1,a1=L1 * 2 ^ 16:=⟨_,rfl⟩
  obtain⟨a2,ha2⟩:∃ a2,a2=L2 * 2 ^ 8:=⟨_,rfl⟩
  rw [← ha1] at s1
  rw [← ha2] at s2
  obtain⟨o1,q1⟩:=IU (a:=a1) (b:=a2) (by omega) (by omega)
  obtain⟨o2,q2⟩:=IU (a:=a1 ||| a2) (b:=L3) q1 (by omega)
  simp only [a6] at o1 o2
  have hh:=h _ q2
  generalize a1 ||| a2=a3 at *
  generalize a3 ||| L3=a4 at *
  clear h hn h16 h232 hm b1 b2 b3 ha1 ha2 q1 q2 hN
  refine eN Tryz.func230 rfl Tryz.ntmps230 fun hO=>?_
  repeat' first | refine st ?_ | (refine ca ?_;first | apply l1 | apply l2 | apply l3) | (refine br ?_ ?_<;>intro hb) | fail
  refine fR Tryz.results230 ?_
  exact hh
theorem E5 (w0:World) (S:List ax) (R:Rt) (h:R (.ret (.bool true)) S):ao Tryz.prog w0 303 [.int .i64 16] S R:=by
 have f1:af.wrap 15=15:=by decide
 have f2:af.wrap (((ai af.bits 16 &&& ai af.bits 15).toNat:Nat):Int)=0:=by decide
 simp only [a6] at f2
 refine eN Tryz.func303 rfl Tryz.ntmps303 fun hO=>?_
 repeat' first | refine st ?_ | (refine br ?_ ?_<;>intro hb) | fail
 refine fR Tryz.results303 ?_
 exact h
theorem FV (w0:World) (hD:wu w0) (S:List ax) (R:Rt) (h:R (.ret (.int .i64 4)) S):ao Tryz.prog w0 326 [.int .u64 16] S R:=by
 unfold wu at hD
 have f1:aO.wrap (-16)=18446744073709551600:=by decide
 have f2:aO.wrap (((ai aO.bits 16 &&& ai aO.bits 18446744073709551600).toNat:Nat):Int)=16:=by decide
 have f3:aO.wrap (16 * 285870213051353865)=4573923408821661840:=by decide
 have f4:(4573923408821661840:Int).fdiv (2 ^ min 58 64)=15:=by decide
 have f5:af.wrap 4=4:=by decide
 simp only [a6] at f2
 refine eN Tryz.func326 rfl Tryz.ntmps326 fun hO=>?_
 repeat' first | refine st ?_ | (refine br ?_ ?_<;>intro hb) | fail
 refine fR Tryz.results326 ?_
 exact h
theorem tz (w0:World) (hD:wu w0) (S:List ax) (R:Rt) (h:R (.ret (.int .i64 4)) S):ao Tryz.prog w0 304 [.int .u64 16] S R:=by
 have ht:=FV w0 hD
 refine eN Tryz.func304 rfl Tryz.ntmps304 fun hO=>?_
 repeat' first | refine st ?_ | (refine ca ?_;apply ht) | (refine br ?_ ?_<;>intro hb) | fail
 refine fR Tryz.results304 ?_
 exact h
theorem xO {m k:Nat} (hm:m<4294967296) (hk:k≤16):aO.wrap (((ai aO.bits (m:Int) &&& ai aO.bits ((2 ^ k - 1:Nat):Int)).toNat:Nat):Int)=((m % 2 ^ k:Nat):Int):=by
 rw [Au]
 have h2:2 ^ k≤2 ^ 16:=dL (by omega) hk
 have h0:0<2 ^ k:=Nat.two_pow_pos k
 have e1:(ai aO.bits (m:Int)).toNat=m:=by
  show (ai 64 _).toNat=_
  rw [bL];omega
 have e2:(ai aO.bits ((2 ^ k - 1:Nat):Int)).toNat=2 ^ k - 1:=by
  show (ai 64 _).toNat=_
  rw [bL];omega
 rw [e1,e2,vH m k]
 have:=gj m h0
 exact eB _ (by omega)
theorem FN:Go.Fen.zeroA Tryz.prog 315=some [.int .u8 0,.int .u8 0,.int .u8 0,.int .u8 0,.int .u8 0,.int .u8 0,.int .u8 0,.int .u8 0,.int .u8 0,.int .u8 0,.int .u8 0,.int .u8 0,.int .u8 0,.int .u8 0,.int .u8 0,.int .u8 0,.int .u8 0,.int .u8 0,.int .u8 0,.int .u8 0,.int .u8 0,.int .u8 0,.int .u8 0,.int .u8 0,.int .u8 0,.int .u8 0,.int .u8 0,.int .u8 0,.int .u8 0,.int .u8 0,.int .u8 0,.int .u8 0,.int .u8 0,.int .u8 0,.int .u8 0,.int .u8 0,.int .u8 0,.int .u8 0,.int .u8 0,.int .u8 0,.int .u8 0,.int .u8 0,.int .u8 0,.int .u8 0,.int .u8 0,.int .u8 0,.int .u8 0,.int .u8 0,.int .u8 0,.int .u8 0,.int .u8 0,.int .u8 0,.int .u8 0,.int .u8 0,.int .u8 0,.int .u8 0,.int .u8 0,.int .u8 0,.int .u8 0,.int .u8 0,.int .u8 0,.int .u8 0,.int .u8 0,.int .u8 0,.int .u8 0]:=by kernel_rfl
theorem m9:∀ d,d<16→([48,49,50,51,52,53,54,55,56,57,97,98,99,100,101,102,103,104,105,106,107,108,109,110,111,112,113,114,115,116,117,118,119,120,121,122]:List UInt8)[d]? = some (cT d):=by decide +kernel
theorem BM (w0:World) (hD:wu w0) (S:List ax) (m:Nat) (h1:16777216≤m) (h2:m<33554432) (R:Rt)
  (h:∀ v,R (.ret (.tup [v,.str [49,cT (m / 16 / 16 / 16 / 16 / 16 % 16),cT (m / 16 / 16 / 16 / 16 % 16),cT (m / 16 / 16 / 16 % 16),cT (m / 16 / 16 % 16),cT (m / 16 % 16),cT (m % 16)]])) S) :
  ao Tryz.prog w0 266 [.sval false [],.int .u64 m,.int .i64 16,.bool false,.bool false] S R:=by
 have hp:=E5 w0
 have hz:=FN
 have wk58:af.wrap 58=58:=by decide
 have wk59:af.wrap 59=59:=by decide
 have wk60:af.wrap 60=60:=by decide
 have wk61:af.wrap 61=61:=by decide
 have wk62:af.wrap 62=62:=by decide
 have wk63:af.wrap 63=63:=by decide
 have wk64:af.wrap 64=64:=by decide
 have wk65:af.wrap 65=65:=by decide
 have htz:=tz w0 hD
 have f1:aO.wrap 16=16:=by decide
 have f2:aO.wrap 4=4:=by decide
 have f3:aO.wrap 15=15:=by decide
 obtain⟨u1,hu1⟩:∃ u,u=m / 16:=⟨_,rfl⟩
 obtain⟨u2,hu2⟩:∃ u,u=u1 / 16:=⟨_,rfl⟩
 obtain⟨u3,hu3⟩:∃ u,u=u2 / 16:=⟨_,rfl⟩
 obtain⟨u4,hu4⟩:∃ u,u=u3 / 16:=⟨_,rfl⟩
 obtain⟨u5,hu5⟩:∃ u,u=u4 / 16:=⟨_,rfl⟩
 have g0:decide ((16:Int)≤(m:Int))=true:=by simp;omega
 have a0:aO.wrap (((ai aO.bits (m:Int) &&& ai aO.bits 15).toNat:Nat):Int)=((m % 16:Nat):Int):=xO (m:=m) (k:=4) (by omega) (by omega)
 simp only [a6] at a0
 have x0:=m9 (m % 16) (by omega)
 have s0:(m:Int).fdiv (2 ^ min 4 64)=(u1:Int):=by rw [hu1];exact jn m 4 (by omega)
 have g1:decide ((16:Int)≤(u1:Int))=true:=by simp;omega
 have a1:aO.wrap (((ai aO.bits (u1:Int) &&& ai aO.bits 15).toNat:Nat):Int)=((u1 % 16:Nat):Int):=xO (m:=u1) (k:=4) (by omega) (by omega)
 simp only [a6] at a1
 have x1:=m9 (u1 % 16) (by omega)
 have s1:(u1:Int).fdiv (2 ^ min 4 64)=(u2:Int):=by rw [hu2];exact jn u1 4 (by omega)
 have g2:decide ((16:Int)≤(u2:Int))=true:=by simp;omega
 have a2:aO.wrap (((ai aO.bits (u2:Int) &&& ai aO.bits 15).toNat:Nat):Int)=((u2 % 16:Nat):Int):=xO (m:=u2) (k:=4) (by omega) (by omega)
 simp only [a6] at a2
 have x2:=m9 (u2 % 16) (by omega)
 have s2:(u2:Int).fdiv (2 ^ min 4 64)=(u3:Int):=by rw [hu3];exact jn u2 4 (by omega)
 have g3:decide ((16:Int)≤(u3:Int))=true:=by simp;omega
 have a3:aO.wrap (((ai aO.bits (u3:Int) &&& ai aO.bits 15).toNat:Nat):Int)=((u3 % 16:Nat):Int):=xO (m:=u3) (k:=4) (by omega) (by omega)
 simp only [a6] at a3
 have x3:=m9 (u3 % 16) (by omega)
 have s3:(u3:Int).fdiv (2 ^ min 4 64)=(u4:Int):=by rw [hu4];exact jn u3 4 (by omega)
 have g4:decide ((16:Int)≤(u4:Int))=true:=by simp;omega
 have a4:aO.wrap (((ai aO.bits (u4:Int) &&& ai aO.bits 15).toNat:Nat):Int)=((u4 % 16:Nat):Int):=xO (m:=u4) (k:=4) (by omega) (by omega)
 simp only [a6] at a4
 have x4:=m9 (u4 % 16) (by omega)
 have s4:(u4:Int).fdiv (2 ^ min 4 64)=(u5:Int):=by rw [hu5];exact jn u4 4 (by omega)
 have g5:decide ((16:Int)≤(u5:Int))=true:=by simp;omega
 have a5:aO.wrap (((ai aO.bits (u5:Int) &&& ai aO.bits 15).toNat:Nat):Int)=((u5 % 16:Nat):Int):=xO (m:=u5) (k:=4) (by omega) (by omega)
 simp only [a6] at a5
 have x5:=m9 (u5 % 16) (by omega)
 have s5:(u5:Int).fdiv (2 ^ min 4 64)=1:=by rw [jn u5 4 (by omega)];omega
 rw [← hu1] at h
 rw [← hu2] at h
 rw [← hu3] at h
 rw [← hu4] at h
 rw [← hu5] at h
 generalize cT (m % 16)=c0 at h x0
 generalize m % 16=e0 at a0 x0
 generalize cT (u1 % 16)=c1 at h x1
 generalize u1 % 16=e1 at a1 x1
 generalize cT (u2 % 16)=c2 at h x2
 generalize u2 % 16=e2 at a2 x2
 generalize cT (u3 % 16)=c3 at h x3
 generalize u3 % 16=e3 at a3 x3
 generalize cT (u4 % 16)=c4 at h x4
 generalize u4 % 16=e4 at a4 x4
 generalize cT (u5 % 16)=c5 at h x5
 generalize u5 % 16=e5 at a5 x5
 clear h1 h2 hu1 hu2 hu3 hu4 hu5 hD
 refine eN Tryz.func266 rfl Tryz.ntmps266 fun hO=>?_
 repeat' first | refine st ?_ | (refine ca ?_;first | apply hp | apply htz) | (refine br ?_ ?_<;>intro hb) | apply cR | apply fO | fail
 refine l7 (t:=12) (a:=S.length) (o:=0) ss ss ?_
 simp only [go_sem, *]
 refine yf (i:=58) (kk:=.i64) (e:=5) (m:=65) ss rfl ss ss ss (by show _=AV.int .i64 58;(simp only [go_sem, *];try rfl)) ss (by decide) ss ?_
 simp only [putA]
 repeat' first | apply gp | apply eT | apply dU | apply eU | apply gq | apply cG | apply gu | apply cI | apply ct | apply dd | apply cH | apply cr | apply bU | apply gr | (apply bV;(· rfl)) | (apply da;simp only [bt]) | (apply dN;(· rfl);(· simp only [go_sem, *,bm];try rfl);(· rfl);simp only [putA]) | (apply eZ;simp only [putA]) | apply de | (apply dP;(· simp only [go_sem, *,bm];try rfl);(· rfl);(· simp only [go_sem, *,bm];try rfl)) | (apply dF;(iterate 2 (· simp only [go_sem, *,bm];try rfl));(· rfl);simp only [putA]) | (apply cq;(· simp only [go_sem, *,bm];try rfl);(· rfl);simp only [putA]) | (apply dQ;(· simp only [go_sem, *,bm];try rfl)) | (apply dS;(· simp only [go_sem, *,bm];try rfl)) | (apply db;(· rfl);(fail_if_success (focus (show _=some true;(· simp only [go_sem, *,bm];try rfl))));(· simp only [go_sem, *,bm];try rfl);all_goals (intro hb;try simp only [az,aG] at hb)) | (apply dR;(· simp only [go_sem, *,bm];try rfl);all_goals (intro hb;try simp only [az,aG] at hb)) | fail
 refine fR Tryz.results266 ?_
 exact h _
theorem IV {v:Nat} (hv:v<16777216):af.wrap (((ai af.bits (v:Int) ||| ai af.bits 16777216).toNat:Nat):Int)=((v+16777216:Nat):Int):=by
 rw [Cn]
 have e2:(ai af.bits (v:Int)).toNat=v:=by
  show (ai 64 _).toNat=_
  rw [bL];omega
 have e3:(ai af.bits 16777216).toNat=16777216:=by decide
 rw [e2,e3]
 have e4:v ||| 16777216=v+16777216:=by
  have:=Nat.shiftLeft_add_eq_or_of_lt (b:=v) (i:=24) (by omega) 1
  rw [Nat.shiftLeft_eq,Nat.or_comm,show (1:Nat) * 2 ^ 24=16777216 by decide] at this
  omega
 rw [e4]
 exact au _ (by omega)
theorem Fc (w0:World) (hD:wu w0) (S:List ax) (m:Nat) (h1:16777216≤m) (h2:m<33554432) (R:Rt)
  (h:R (.ret (.str [49,cT (m / 16 / 16 / 16 / 16 / 16 % 16),cT (m / 16 / 16 / 16 / 16 % 16),cT (m / 16 / 16 / 16 % 16),cT (m / 16 / 16 % 16),cT (m / 16 % 16),cT (m % 16)])) S) :
  ao Tryz.prog w0 222 [.int .i64 m,.int .i64 16] S R:=by
 have hf:=fun S'=>BM w0 hD S' m h1 h2
 generalize [49,cT (m / 16 / 16 / 16 / 16 / 16 % 16),cT (m / 16 / 16 / 16 / 16 % 16),cT (m / 16 / 16 / 16 % 16),cT (m / 16 / 16 % 16),cT (m / 16 % 16),cT (m % 16)]=T at hf h
 have w1:aO.wrap (m:Int)=(m:Int):=eB _ (by omega)
 have d1:decide ((m:Int)<0)=false:=by simp
 clear h1 h2 hD
 refine eN Tryz.func222 rfl Tryz.ntmps222 fun hO=>?_
 repeat' first | refine st ?_ | (refine ca ?_;apply hf) | (refine br ?_ ?_<;>intro hb) | fail
 intro v
 repeat' first | refine st ?_ | (refine br ?_ ?_<;>intro hb) | fail
 refine fR Tryz.results222 ?_
 exact h
theorem Fd (w0:World) (hD:wu w0) (S:List ax) (m:Nat) (h1:16777216≤m) (h2:m<33554432) (R:Rt)
  (h:R (.ret (.str [49,cT (m / 16 / 16 / 16 / 16 / 16 % 16),cT (m / 16 / 16 / 16 / 16 % 16),cT (m / 16 / 16 / 16 % 16),cT (m / 16 / 16 % 16),cT (m / 16 % 16),cT (m % 16)])) S) :
  ao Tryz.prog w0 189 [.int .i64 m,.int .i64 16] S R:=by
 have hf:=fun S'=>Fc w0 hD S' m h1 h2
 generalize [49,cT (m / 16 / 16 / 16 / 16 / 16 % 16),cT (m / 16 / 16 / 16 / 16 % 16),cT (m / 16 / 16 / 16 % 16),cT (m / 16 / 16 % 16),cT (m / 16 % 16),cT (m % 16)]=T at hf h
 clear h1 h2 hD
 refine eN Tryz.func189 rfl Tryz.ntmps189 fun hO=>?_
 repeat' first | refine st ?_ | (refine ca ?_;apply hf) | (refine br ?_ ?_<;>intro hb) | fail
 refine fR Tryz.results189 ?_
 exact h
theorem v7 {n:Nat} (h:n<16777216):(n+16777216) / 16 / 16 / 16 / 16 / 16 % 16=n / 1048576∧(n+16777216) / 16 / 16 / 16 / 16 % 16=n / 65536 % 16∧(n+16777216) / 16 / 16 / 16 % 16=n / 4096 % 16∧(n+16777216) / 16 / 16 % 16=n / 256 % 16∧(n+16777216) / 16 % 16=n / 16 % 16∧(n+16777216) % 16=n % 16:=by
 omega
theorem EV (w0:World) (S:List ax) (n:Int) (hn:iD 0 n=true) (R:Rt) (h:R (.ret (.tup [.int .i64 0,.bool false])) S):ao Tryz.prog w0 188 [.agg [.int .i64 0,.int .i64 n]] S R:=by
 have hc:=fun S'=>fK w0 S' 0 n
 rw [hn,if_pos rfl] at hc
 clear hn
 refine eN Tryz.func188 rfl Tryz.ntmps188 fun hO=>?_
 repeat' first | refine st ?_ | (refine ca ?_;apply hc) | (refine br ?_ ?_<;>intro hb) | fail
 refine fR Tryz.results188 ?_
 exact h
theorem EU (w0:World) (hN:Al w0) (S:List ax) (n:Int) (hn:iD 1 n=true) (R:Rt) (h:∀ v:Nat,v<16777216→R (.ret (.tup [.int .i64 v,.bool true])) S):ao Tryz.prog w0 188 [.agg [.int .i64 1,.int .i64 n]] S R:=by
 have hc:=fun S'=>fK w0 S' 1 n
 rw [hn,if_pos rfl] at hc
 have hb:0≤n∧n≤255:=by simpa [iD,u0] using hn
 obtain⟨u,rfl⟩:∃ u:Nat,n=u:=⟨n.toNat,by omega⟩
 have ha:=fun S'=>Kb w0 hN S' u (by omega)
 clear hn hb
 refine eN Tryz.func188 rfl Tryz.ntmps188 fun hO=>?_
 repeat' first | refine st ?_ | (refine ca ?_;first | apply hc | apply ha) | (refine br ?_ ?_<;>intro hb) | fail
 intro v hv
 have hh:=h v hv
 clear h hv
 repeat' first | refine st ?_ | (refine br ?_ ?_<;>intro hb) | fail
 refine fR Tryz.results188 ?_
 exact hh
def FE (w0:World) (k n:Int) (v:Nat):Prop:=∀ (S:List ax) (R:Rt),R (.ret (.tup [.int .i64 v,.bool true])) S→ao Tryz.prog w0 188 [.agg [.int .i64 k,.int .i64 n]] S R
theorem CA (w0:World) (hD:wu w0) (S:List ax) (k n:Int) (v:Nat) (hv:v<16777216) (hk:iD k n=true) (hR:FE w0 k n v) (R:Rt) (h:R (.ret (.tup [.str (kv v),.int .i64 0])) S):ao Tryz.prog w0 115 [.agg [.int .i64 k,.int .i64 n]] S R:=by
 have hc:=fun S'=>fK w0 S' k n
 rw [hk,if_pos rfl] at hc
 unfold FE at hR
 have ho:=IV hv
 have hf:=fun S'=>Fd w0 hD S' (v+16777216) (by omega) (by omega)
 obtain⟨g1,g2,g3,g4,g5,g6⟩:=v7 hv
 rw [g1,g2,g3,g4,g5,g6] at hf
 unfold kv at h
 generalize cT (v / 1048576)=c1 at *
 generalize cT (v / 65536 % 16)=c2 at *
 generalize cT (v / 4096 % 16)=c3 at *
 generalize cT (v / 256 % 16)=c4 at *
 generalize cT (v / 16 % 16)=c5 at *
 generalize cT (v % 16)=c6 at *
 generalize v+16777216=m at ho hf
 simp only [a6] at ho
 clear hv hk hD g1 g2 g3 g4 g5 g6
 refine eN Tryz.func115 rfl Tryz.ntmps115 fun hO=>?_
 repeat' first | apply gp | apply eT | apply dU | apply eU | apply gq | apply cG | apply gu | apply cI | apply ct | apply dd | apply cH | apply cr | apply bU | apply gr | (apply bV;(· rfl)) | (apply da;simp only [bt]) | (apply dN;(· rfl);(· simp only [go_sem, *,ah];try rfl);(· rfl);simp only [putA]) | (apply eZ;simp only [putA]) | apply de | (apply dT [];(· simp only [go_sem, *,ah];try rfl);(· rfl);(· simp only [go_sem, *,ah];try rfl);(· rfl);(iterate 2 (· simp only [go_sem, *,ah];try rfl));(first | apply hc | apply hR | apply hf);simp only [bK,putA]) | (apply dP;(· simp only [go_sem, *,ah];try rfl);(· rfl);(· simp only [go_sem, *,ah];try rfl)) | (apply dF;(iterate 2 (· simp only [go_sem, *,ah];try rfl));(· rfl);simp only [putA]) | (apply cq;(· simp only [go_sem, *,ah];try rfl);(· rfl);simp only [putA]) | (apply dQ;(· simp only [go_sem, *,ah];try rfl)) | (apply dS;(· simp only [go_sem, *,ah];try rfl)) | (apply db;(· rfl);(fail_if_success (focus (show _=some true;(· simp only [go_sem, *,ah];try rfl))));(· simp only [go_sem, *,ah];try rfl);all_goals (intro hb;try simp only [az,aG] at hb)) | (apply dR;(· simp only [go_sem, *,ah];try rfl);all_goals (intro hb;try simp only [az,aG] at hb)) | (apply eY;(· exact mixed);(· simp only [eR,aI,aU,Nat.reduceAdd];try rfl)) | (apply vn;(· decide +kernel)) | (apply Ak;(repeat (apply Ee;(· decide +kernel)));apply vE;(· decide +kernel);(· first | exact ii | exact ig | exact mY | assumption);(· rfl);(iterate 3 (· simp only [go_sem, *,ah];try rfl));(· rfl);(· simp only [go_sem, *,ah];try rfl);simp only [putA]) | (apply Ak;(repeat (apply Ee;(· decide +kernel)));apply zW;(· decide +kernel);(· first | exact ii | exact ig | exact mY | assumption);(· rfl);(iterate 2 (· simp only [go_sem, *,ah];try rfl));(· rfl);simp only [putA]) | (apply Ak;(repeat (apply Gu;(· decide +kernel)));apply zX;(· decide +kernel)) | (apply ry;(iterate 3 (· simp only [go_sem, *,ah];try rfl));(· rfl);simp only [putA]) | (apply y4;(iterate 2 (· simp only [go_sem, *,ah];try rfl));(· rfl);simp only [putA]) | apply uO | apply rl | apply yT | apply aB | apply fY | (apply mi;(· decide +kernel)) | (apply ro;(· simp only [go_sem, *,ah];try rfl)) | (apply uW [];(iterate 2 (· simp only [go_sem, *,ah];try rfl));(· rfl);(· simp only [go_sem, *,ah];try rfl);(· rfl);(iterate 2 (· simp only [go_sem, *,ah];try rfl));(first | apply hc | apply hR | apply hf);simp only [fD,putA]) | fail
 all_goals refine fR Tryz.results115 ?_
 all_goals exact h
theorem Du (w0:World) (hD:wu w0) (hN:Al w0) (S:List ax) (n:Int) (hk:iD 1 n=true) (R:Rt) (h:∀ x,R (.ret (.tup [.str x,.int .i64 0])) S):ao Tryz.prog w0 115 [.agg [.int .i64 1,.int .i64 n]] S R:=by
 have hc:=fun S'=>fK w0 S' 1 n
 rw [hk,if_pos rfl] at hc
 have hR:=fun S'=>EU w0 hN S' n hk
 have HD:=ae hD
 clear hk hN hD
 refine eN Tryz.func115 rfl Tryz.ntmps115 fun hO=>?_
 repeat' first | refine st ?_ | (refine ca ?_;first | apply hc | apply hR) | (refine br ?_ ?_<;>intro hb) | fail
 intro v hv
 have ho:=IV hv
 have hf:=fun S'=>Fd w0 HD.out S' (v+16777216) (by omega) (by omega)
 obtain⟨g1,g2,g3,g4,g5,g6⟩:=v7 hv
 rw [g1,g2,g3,g4,g5,g6] at hf
 generalize cT (v / 1048576)=c1 at *
 generalize cT (v / 65536 % 16)=c2 at *
 generalize cT (v / 4096 % 16)=c3 at *
 generalize cT (v / 256 % 16)=c4 at *
 generalize cT (v / 16 % 16)=c5 at *
 generalize cT (v % 16)=c6 at *
 generalize v+16777216=m at ho hf
 simp only [a6] at ho
 clear hv g1 g2 g3 g4 g5 g6
 repeat' first | apply gp | apply eT | apply dU | apply eU | apply gq | apply cG | apply gu | apply cI | apply ct | apply dd | apply cH | apply cr | apply bU | apply gr | (apply bV;(· rfl)) | (apply da;simp only [bt]) | (apply dN;(· rfl);(· simp only [go_sem, *,ah];try rfl);(· rfl);simp only [putA]) | (apply eZ;simp only [putA]) | apply de | (apply dT [];(· simp only [go_sem, *,ah];try rfl);(· rfl);(· simp only [go_sem, *,ah];try rfl);(· rfl);(iterate 2 (· simp only [go_sem, *,ah];try rfl));(first | apply hf);simp only [bK,putA]) | (apply dP;(· simp only [go_sem, *,ah];try rfl);(· rfl);(· simp only [go_sem, *,ah];try rfl)) | (apply dF;(iterate 2 (· simp only [go_sem, *,ah];try rfl));(· rfl);simp only [putA]) | (apply cq;(· simp only [go_sem, *,ah];try rfl);(· rfl);simp only [putA]) | (apply dQ;(· simp only [go_sem, *,ah];try rfl)) | (apply dS;(· simp only [go_sem, *,ah];try rfl)) | (apply db;(· rfl);(fail_if_success (focus (show _=some true;(· simp only [go_sem, *,ah];try rfl))));(· simp only [go_sem, *,ah];try rfl);all_goals (intro hb;try simp only [az,aG] at hb)) | (apply dR;(· simp only [go_sem, *,ah];try rfl);all_goals (intro hb;try simp only [az,aG] at hb)) | (apply eY;(· exact mixed);(· simp only [eR,aI,aU,Nat.reduceAdd];try rfl)) | (apply vn;(· decide +kernel)) | (apply Ak;(repeat (apply Ee;(· decide +kernel)));apply vE;(· decide +kernel);(· first | exact ii | exact ig | exact mY | assumption);(· rfl);(iterate 3 (· simp only [go_sem, *,ah];try rfl));(· rfl);(· simp only [go_sem, *,ah];try rfl);simp only [putA]) | (apply Ak;(repeat (apply Ee;(· decide +kernel)));apply zW;(· decide +kernel);(· first | exact ii | exact ig | exact mY | assumption);(· rfl);(iterate 2 (· simp only [go_sem, *,ah];try rfl));(· rfl);simp only [putA]) | (apply Ak;(repeat (apply Gu;(· decide +kernel)));apply zX;(· decide +kernel)) | (apply ry;(iterate 3 (· simp only [go_sem, *,ah];try rfl));(· rfl);simp only [putA]) | (apply y4;(iterate 2 (· simp only [go_sem, *,ah];try rfl));(· rfl);simp only [putA]) | apply uO | apply rl | apply yT | apply aB | apply fY | (apply mi;(· decide +kernel)) | (apply ro;(· simp only [go_sem, *,ah];try rfl)) | (apply uW [];(iterate 2 (· simp only [go_sem, *,ah];try rfl));(· rfl);(· simp only [go_sem, *,ah];try rfl);(· rfl);(iterate 2 (· simp only [go_sem, *,ah];try rfl));(first | apply hf);simp only [fD,putA]) | fail
 all_goals refine fR Tryz.results115 ?_
 all_goals exact h _
theorem Dv (w0:World) (S:List ax) (n:Int) (hk:iD 0 n=true) (R:Rt) (h:R (.ret (.tup [.str [],.int .i64 2])) S):ao Tryz.prog w0 115 [.agg [.int .i64 0,.int .i64 n]] S R:=by
 have hc:=fun S'=>fK w0 S' 0 n
 rw [hk,if_pos rfl] at hc
 have hR:=fun S'=>EV w0 S' n hk
 clear hk
 refine eN Tryz.func115 rfl Tryz.ntmps115 fun hO=>?_
 repeat' first | refine st ?_ | (refine ca ?_;first | apply hc | apply hR) | (refine br ?_ ?_<;>intro hb) | fail
 refine fR Tryz.results115 ?_
 exact h
theorem Dt (w0:World) (S:List ax) (k n:Int) (hk:iD k n=false) (R:Rt) (h:R (.ret (.tup [.str [],.int .i64 130])) S):ao Tryz.prog w0 115 [.agg [.int .i64 k,.int .i64 n]] S R:=by
 have hc:=fun S'=>fK w0 S' k n
 rw [hk,if_neg (by decide)] at hc
 clear hk
 refine eN Tryz.func115 rfl Tryz.ntmps115 fun hO=>?_
 repeat' first | refine st ?_ | (refine ca ?_;apply hc) | (refine br ?_ ?_<;>intro hb) | fail
 refine fR Tryz.results115 ?_
 exact h
theorem Ds (w0:World) (hD:wu w0) (hN:Al w0) (S:List ax) (k n:Int) (R:Rt)
  (hG:k=2→iD 2 n=true→R (.ret (.tup [.str (kv n.toNat),.int .i64 0])) S) (hB:∀ x e,¬ (k=2∧iD 2 n=true)→(((e:Int)==0)&&((k:Int)==2))=false→R (.ret (.tup [.str x,.int .i64 e])) S):ao Tryz.prog w0 115 [.agg [.int .i64 k,.int .i64 n]] S R:=by
 cases hc:iD k n with
 | false=>exact Dt w0 S k n hc R (hB [] 130 (by rintro⟨rfl,e⟩;rw [e] at hc;cases hc) rfl)
 | true =>
  have hk:k=0∨k=1∨k=2:=by
   simp [iD] at hc
   omega
  rcases hk with rfl | rfl | rfl
  ·exact Dv w0 S n hc R (hB _ _ (by simp) rfl)
  ·exact Du w0 hD hN S n hc R (fun x=>hB x 0 (by simp) rfl)
  ·have hb:0≤n∧n≤16777215:=by simpa [iD,u0] using hc
   obtain⟨v,rfl⟩:∃ v:Nat,n=v:=⟨n.toNat,by omega⟩
   exact CA w0 hD S 2 v v (by omega) hc (fun S' R h=>EW w0 S' v hc R h) R (hG rfl hc)
theorem r9 (l:List UInt8) (c:UInt8):(Lib.countByte l c:Int)=(l.count c:Nat):=rfl
theorem Fl (w0:World) (S:List ax) (s:List UInt8) (R:Rt) (h:R (.ret (.int .i64 (s.count 47:Nat))) S):ao Tryz.prog w0 317 [.str s,.str [47]] S R:=by
 refine ao.lib (vs:=[.string ⟨s.toArray⟩,.string ⟨#[47]⟩]) (v:=.int .i64 (s.count 47:Nat)) (c:=.int .i64 (s.count 47:Nat)) (Go.Proofs.enters_of Tryz.func317 (by kernel_rfl) rfl) rfl rfl ?_ h
 intro w hb
 refine(Go.Proofs.Any.strings_Count_one Go.Proofs.Tryz.lays138 ⟨s.toArray⟩ 47 w).mono ?_
 rintro e w' ⟨rfl,rfl⟩
 refine⟨by rw [← r9],jR _ _⟩
theorem Gc (w0:World) (S:List ax) (s:List UInt8) (R:Rt) (h:R (.ret (.int .i64 (ci s 47))) S):ao Tryz.prog w0 307 [.str s,.int .u8 47] S R:=by
 refine ao.lib (vs:=[.string ⟨s.toArray⟩,.int .u8 47]) (v:=.int .i64 (ci s 47)) (c:=.int .i64 (ci s 47)) (Go.Proofs.enters_of Tryz.func307 (by kernel_rfl) rfl) rfl rfl ?_ h
 intro w hb
 refine(Go.Proofs.Any.stringslite_IndexByte Go.Proofs.Tryz.lays217 ⟨s.toArray⟩ 47 w).mono ?_
 rintro e w' ⟨rfl,rfl⟩
 exact⟨rfl,jR _ _⟩
theorem Ba (w0:World) (S:List ax) (s:List UInt8) (R:Rt) (h:R (.ret (.int .i64 (ci s 47))) S):ao Tryz.prog w0 281 [.str s,.str [47]] S R:=by
 have hi:=fun S'=>Gc w0 S' s
 by_cases hs:s=[47]
 ·subst hs
  have h:R (.ret (.int .i64 0)) S:=h
  clear hi
  refine eN Tryz.func281 rfl Tryz.ntmps281 fun hO=>?_
  repeat' first | refine st ?_ | (refine br ?_ ?_<;>intro hb) | fail
  refine fR Tryz.results281 ?_
  exact h
 ·have hne:(([47]:List UInt8)==s)=false:=by
   rw [beq_eq_false_iff_ne]
   exact fun e=>hs e.symm
  generalize ci s 47=i at h hi
  clear hs
  refine eN Tryz.func281 rfl Tryz.ntmps281 fun hO=>?_
  repeat' first | refine st ?_ | (refine ca ?_;apply hi) | (refine br ?_ ?_<;>intro hb) | fail
  refine fR Tryz.results281 ?_
  exact h
theorem Dm (w0:World) (S:List ax) (s:List UInt8) (R:Rt) (h:R (.ret (.int .i64 (ci s 47))) S):ao Tryz.prog w0 318 [.str s,.str [47]] S R:=by
 have hi:=fun S'=>Ba w0 S' s
 generalize ci s 47=i at h hi
 refine eN Tryz.func318 rfl Tryz.ntmps318 fun hO=>?_
 repeat' first | refine st ?_ | (refine ca ?_;apply hi) | (refine br ?_ ?_<;>intro hb) | fail
 refine fR Tryz.results318 ?_
 exact h
def eh:List UInt8→List (List UInt8)
 | []=>[[]]
 | b::r=>if b=47 then []::eh r else match eh r with
  | []=>[[b]]
  | w::ws=>(b::w)::ws
theorem yB:∀ s,eh s≠[]
 | []=>by simp [eh]
 | b::r=>by
  unfold eh
  split
  ·simp
  ·split<;>simp
theorem vU:∀ {w r:List UInt8},(∀ b∈w,b≠47)→eh (w++47::r)=w::eh r
 | [],r,_=>by simp [eh]
 | b::w,r,h=>by
  have ih:=vU (w:=w) (r:=r) (fun x hx=>h x (by simp [hx]))
  simp only [cz]
  rw [eh,if_neg (h b (by simp)),ih]
theorem vT:∀ {w:List UInt8},w.count 47=0→eh w=[w]
 | [],_=>rfl
 | b::w,h=>by
  have hb:b≠47:=by rintro rfl;simp at h
  rw [vI (by simpa using hb)] at h
  rw [eh,if_neg hb,vT h]
theorem CD:∀ {s:List UInt8},0<s.count 47→∃ w r,s=w++47::r∧(∀ b∈w,b≠47)∧ci s 47=(w.length:Int)
 | [],h=>by simp at h
 | b::l,h=>by
  by_cases hb:b=47
  ·subst hb
   exact⟨[],l,rfl,by simp,by simp [ci]⟩
  ·rw [vI (by simpa using hb)] at h
   obtain⟨w,r,h1,h2,h3⟩:=CD h
   refine⟨b::w,r,by rw [h1];rfl, ?_, ?_⟩
   ·intro x hx
    rcases bA.1 hx with rfl | hx
    ·exact hb
    ·exact h2 x hx
   ·have h1':(b==47)=false:=by simpa using hb
    rw [ci,h1',h3]
    simp
    try omega
def ku (D:List (List UInt8)) (k:Nat):List AV:=D.map AV.str++bp k (.str [])
theorem vX (D:List (List UInt8)) (k:Nat):(ku D (k+1))[D.length]? = some (.str []):=by
 unfold ku
 rw [aw (by simp)]
 simp
theorem vW (D:List (List UInt8)) (k:Nat) (w:List UInt8):(ku D (k+1)).set D.length (.str w)=ku (D++[w]) k:=by
 unfold ku
 rw [cZ _ _ (by simp)]
 simp [gk]
theorem q_ (D:List (List UInt8)) (k:Nat):(ku D k).length=D.length+k:=by
 unfold ku;simp
theorem p9 (D:List (List UInt8)) (k:Nat):plainL (ku D k)=true:=by
 unfold ku
 induction D with
 | nil =>
  simp only [aC,cU]
  induction k with
  | zero=>rfl
  | succ k ih=>rw [gk,plainL,ih];rfl
 | cons d D ih=>simp only [aA,cz,plainL,ih];rfl
theorem DT (w0:World) (S:List ax) (s:List UInt8) (hs:s.length≤100000) (R:Rt) (h:∀ b,R (.ret (.sval b ((eh s).map AV.str))) S):ao Tryz.prog w0 292 [.str s,.str [47],.int .i64 0,.int .i64 (-1)] S R:=by
 have hct:=fun S'=>Fl w0 S' s
 have hcl:s.count 47≤s.length:=List.count_le_length
 obtain⟨c,hc⟩:∃ c,c=s.count 47:=⟨_,rfl⟩
 rw [← hc] at hct
 have w1:af.wrap ((c:Int)+1)=((c+1:Nat):Int):=by rw [au _ (by omega)];omega
 have w2:af.wrap ((s.length:Int)+1)=((s.length+1:Nat):Int):=by rw [au _ (by omega)];omega
 have hmn:(if ((s.length+1:Nat):Int)<((c+1:Nat):Int) then ((s.length+1:Nat):Int) else ((c+1:Nat):Int))=((c+1:Nat):Int):=by rw [if_neg (by omega)]
 have w3:af.wrap (((c+1:Nat):Int) - 1)=(c:Int):=by rw [au _ (by omega)];omega
 have b1:((c+1:Nat):Int) * 16≤140737488355328:=by omega
 have b2:((c+1:Nat):Int) * ((16:Nat):Int)≤140737488355328:=by omega
 have b3:((c+1:Nat):Int)≤((c+1:Nat):Int):=wA _
 have hrp:bp (c+1) (AV.str [])=ku [] (c+1):=rfl
 have H:=ae h
 have Hs:=ae (dw hs (dw hcl hc))
 clear h hs hcl hc
 refine eN Tryz.func292 rfl Tryz.ntmps292 fun hO=>?_
 repeat' first | refine st ?_ | (refine ca ?_;apply hct) | (refine br ?_ ?_<;>intro hb) | fail
 refine eJ (fun (p:List (List UInt8) × List UInt8) env S'=>p.1++eh p.2=eh s∧p.1.length+p.2.count 47=c∧p.2.length≤s.length∧env 1000000=.dfr []∧env 0=.str p.2∧env 1=.str [47]∧env 2=.int .i64 0∧env 3=.int .i64 c∧env 9=.sown S.length 0 (c+1)∧env 10=.int .i64 (p.1.length:Int) ∧
  S'=S++[ax.arr 9 1 0 0 (ku p.1 (c+1 - p.1.length))]) (fun p=>p.2.length) ([],s) ?_ ?_
 ·obtain⟨hs,hcl,hc⟩:=Hs.out
  exact⟨rfl,by simp [hc],aP _,ss,ss,ss,ss,ss,ss,ss,rfl⟩
 ·rintro⟨D,u⟩ env S' ⟨hD,hDc,hul,e0,f0,f1,f2,f3,f9,f10,rfl⟩ IH
  simp only at hD hDc hul f0 f10
  have HI:=ae IH
  obtain⟨hs,hcl,hc⟩:=Hs.out
  clear IH hct hrp hmn w1 w2 w3
  by_cases hu:0<u.count 47
  ·obtain⟨w,r,hwr,hw47,hix⟩:=CD hu
   have hix2:=fun S'=>Dm w0 S' u
   rw [hix] at hix2
   have hul2:u.length=w.length+1+r.length:=by rw [hwr];simp;omega
   have hcu:u.count 47=r.count 47+1:=by
    have hw0:w.count 47=0:=List.count_eq_zero.2 (fun hh=>hw47 47 hh rfl)
    rw [hwr,List.count_append,hw0,List.count_cons_self];omega
   have h1:decide ((D.length:Int)<(c:Int))=true:=by simp;omega
   have d1:decide ((w.length:Int)<0)=false:=by simp
   have k1:af.wrap ((w.length:Int)+0)=((w.length:Nat):Int):=by rw [au _ (by omega)];omega
   have k2:af.wrap ((w.length:Int)+((1:Nat):Int))=((w.length+1:Nat):Int):=by rw [au _ (by omega)];omega
   have k3:af.wrap ((D.length:Int)+1)=((D.length+1:Nat):Int):=by rw [au _ (by omega)];omega
   have l1:((w.length:Nat):Int)≤(u.length:Int):=by omega
   have l2:((w.length+1:Nat):Int)≤(u.length:Int):=by omega
   have t1:lm w.length u=w:=by rw [hwr];simp
   have t2:List.drop (w.length+1) u=r:=by rw [hwr,← List.drop_drop];simp
   have t3:lm u.length u=u:=bk
   have q1:(D.length:Int)<((c+1:Nat):Int):=by omega
   have hk:c+1 - D.length=(c+1 - (D.length+1))+1:=by omega
   have hg:=vX D (c+1 - (D.length+1))
   have hse:=vW D (c+1 - (D.length+1)) w
   rw [← hk] at hg hse
   have hsl:=q_ D (c+1 - D.length)
   rw [show D.length+(c+1 - D.length)=c+1 by omega] at hsl
   have hi1:(D++[w])++eh r=eh s:=by rw [← hD,hwr,vU hw47];simp
   have hi2:(D++[w]).length+r.count 47=c:=by simp;omega
   have hdl:(D++[w]).length=D.length+1:=by simp
   have Hi:=ae (dw hi1 (dw hi2 (dw hdl (show r.length<u.length by omega))))
   have Hul:=ae hul
   simp only
   generalize hE:ku D (c+1 - D.length)=E at *
   generalize hE1:ku (D++[w]) (c+1 - (D.length+1))=E1 at *
   have HE1:=ae hE1
   clear hE hE1 hD hDc hul hs hcl hc hu hwr hw47 hix hul2 hcu hk hi1 hi2 hdl
   repeat' first | refine st ?_ | (refine ca ?_;apply hix2) | (refine br ?_ ?_<;>intro hb) | fail
   obtain⟨hi1,hi2,hdl,hrl⟩:=Hi.out
   rw [← HE1.out]
   refine HI.out (D++[w],r) _ _ hrl ⟨hi1,hi2,by have:=Hul.out;simp only;omega, ?_, ?_, ?_, ?_, ?_, ?_, ?_, ?_⟩
   ·(simp only [go_sem, *];try rfl)
   ·(simp only [go_sem, *];try rfl)
   ·(simp only [go_sem, *];try rfl)
   ·(simp only [go_sem, *];try rfl)
   ·(simp only [go_sem, *];try rfl)
   ·(simp only [go_sem, *];try rfl)
   ·simp only [hdl];(simp only [go_sem, *];try rfl)
   ·simp only [hdl]
  ·have hu0:u.count 47=0:=by omega
   have hDl:D.length=c:=by omega
   rw [vT hu0] at hD
   have h1:decide ((D.length:Int)<(c:Int))=false:=by simp;omega
   have k3:af.wrap ((D.length:Int)+1)=((D.length+1:Nat):Int):=by rw [au _ (by omega)];omega
   have q1:(D.length:Int)<((c+1:Nat):Int):=by omega
   have hk:c+1 - D.length=0+1:=by omega
   have hg:=vX D 0
   have hse:=vW D 0 u
   rw [← hk] at hg hse
   have hsl:=q_ D (c+1 - D.length)
   rw [show D.length+(c+1 - D.length)=c+1 by omega] at hsl
   have hE2:ku (D++[u]) 0=(eh s).map AV.str:=by rw [hD];simp [ku]
   rw [hE2] at hse
   have hh:=H.out
   have hpl:plainL ((eh s).map AV.str)=true:=by rw [← hE2];exact p9 _ _
   have hl2:((eh s).map AV.str).length=c+1:=by rw [← hE2,q_];simp;omega
   have hall:((eh s).map AV.str).all (fun el=>el.cells.length==1)=true:=by
    rw [aq]
    intro x hx
    obtain⟨y,_,rfl⟩:=aH.1 hx
    rfl
   simp only [AV.cells] at hall
   have q2:((D.length+1:Nat):Int)≤((c+1:Nat):Int):=by omega
   have htk:lm (D.length+1) ((eh s).map AV.str)=(eh s).map AV.str:=cA (by omega)
   have hlt:ltL S.length ((eh s).map AV.str)=true:=cw.2 fun x hx=>by obtain⟨y,_,rfl⟩:=aH.1 hx;rfl
   simp only
   generalize hE:ku D (c+1 - D.length)=E at *
   generalize (eh s).map AV.str=F at *
   clear hE hE2 hD hDc hul hs hcl hc hu hk HI hu0 hDl
   repeat' first | refine st ?_ | (refine br ?_ ?_<;>intro hb) | fail
   refine ot (t:=62) (a:=S.length) (by decide) ss ss ?_
   repeat' first | refine st ?_ | (refine br ?_ ?_<;>intro hb) | fail
   refine fR Tryz.results292 ?_
   exact hh _
def Gx (w0:World):Prop:=∀ (S:List ax) (b1 b2:UInt8) (R:Rt),(∀ v,ia b1 b2=some v→R (.ret (.tup [.int .u64 v,.inil])) S)→(ia b1 b2=none→∀ t x,R (.ret (.tup [.int .u64 0,.ifc t x])) S) →
 ao Tryz.prog w0 250 [.str [b1,b2],.int .i64 16,.int .i64 8] S R
theorem Gf (c:UInt8):aW.wrap (↑(ai aW.bits (c.toNat:Int) ||| ai aW.bits 32).toNat)=(((c ||| 32).toNat:Nat):Int):=by
 have:∀ n:Nat,n<256→aW.wrap (↑(ai aW.bits (n:Int) ||| ai aW.bits 32).toNat)=(((aD n ||| 32).toNat:Nat):Int):=by decide +kernel
 have h:=this c.toNat c.toNat_lt
 rwa [bm] at h
theorem E0 (w0:World) (S:List ax) (c:UInt8) (R:Rt) (h:R (.ret (.int .u8 ((c ||| 32).toNat:Nat))) S):ao Tryz.prog w0 319 [.int .u8 c.toNat] S R:=by
 have g:=Gf c
 simp only [a6] at g
 refine eN Tryz.func319 rfl Tryz.ntmps319 fun hO=>?_
 repeat' first | refine st ?_ | (refine br ?_ ?_<;>intro hb) | fail
 refine fR Tryz.results319 ?_
 exact h
def ff (b:UInt8):Nat:=(b ||| 32).toNat
def dv (b:UInt8):Option Nat:=if 48≤b.toNat∧b.toNat≤57 then some (b.toNat - 48) else if 97≤ff b∧ff b≤122 then some (ff b - 87) else none
theorem D1 (b:UInt8):gV b=(dv b).bind fun d=>if d<16 then some d else none:=by
 have:∀ n:Nat,n<256→gV (aD n)=(dv (aD n)).bind fun d=>if d<16 then some d else none:=by decide +kernel
 have h:=this b.toNat b.toNat_lt
 rwa [bm] at h
theorem zh (w0:World) (S:List ax) (c:UInt8) (R:Rt) (h:R (.ret (.int .u8 (ff c:Nat))) S):ao Tryz.prog w0 319 [.int .u8 c.toNat] S R:=E0 w0 S c R h
def nI:AV:=.ifc 299 (.int .i64 2)
def IP (b1 b2:UInt8) (i acc:Nat):Prop:=(i=0∧acc=0)∨(i=1∧gV b1=some acc)∨(i=2∧ia b1 b2=some acc)
theorem A4 {b1 b2:UInt8}{i acc:Nat} (hp:(i=0∧acc=0)∨(i=1∧gV b1=some acc)):∃ b:UInt8,[AV.int .u8 b1.toNat,AV.int .u8 b2.toNat][i]? = some (.int .u8 b.toNat)∧i<2∧acc<16∧(gV b=none→ia b1 b2=none)∧(∀ d,gV b=some d→IP b1 b2 (i+1) (acc * 16+d)):=by
 rcases hp with⟨rfl,rfl⟩ | ⟨rfl,ha⟩
 ·exact⟨b1,rfl,by omega,by omega,fun h=>by simp [ia,h],fun d h=>.inr (.inl ⟨rfl,by simpa using h⟩)⟩
 ·refine⟨b2,rfl,by omega,oY ha,fun h=>by simp [ia,ha,h],fun d h=>.inr (.inr ⟨rfl, ?_⟩)⟩
  simp [ia,ha,h];try omega
theorem EI (w0:World) (S:List ax) (b1 b2:UInt8) (R:Rt) (h:R (.ret (match ia b1 b2 with | some v=>.tup [.int .u64 v,.inil] | none=>.tup [.int .u64 0,nI])) S) :
  ao Tryz.prog w0 293 [.str [b1,b2],.int .i64 16,.int .i64 8] S R:=by
 refine eN Tryz.func293 rfl Tryz.ntmps293 fun hO=>?_
 repeat' first | refine st ?_ | (refine br ?_ ?_<;>intro hb) | fail
 apply l8
 ·(simp only [go_sem, *];try rfl)
 ·rfl
 ·(simp only [go_sem, *];try rfl)
 ·(simp only [go_sem, *];try rfl)
 ·(simp only [go_sem, *];try rfl)
 ·(simp only [go_sem, *];try rfl)
 ·rfl
 simp only [putA,aA,aC,gG]
 repeat' first | refine st ?_ | (refine br ?_ ?_<;>intro hb) | fail
 have hffw:aO.wrap (aO.wrap (1 * 2 ^ min (aO.wrap 8).toNat 64) - 1)=255:=by decide +kernel
 refine eJ (fun (p:Nat × Nat) env S'=>IP b1 b2 p.1 p.2∧env 1000000=.dfr []∧env 1=.int .i64 16∧env 8=.bool false∧env 9=.str [b1,b2]∧env 10=.int .u64 1152921504606846976∧env 11=.int .u64 255∧env 12=.bool false∧env 13=.int .u64 p.2 ∧
  env 99=.sval false [.int .u8 b1.toNat,.int .u8 b2.toNat]∧env 100=.int .i64 2∧env 101=.int .i64 p.1∧S'=S) (fun p=>2 - p.1) (0,0) ?_ ?_
 ·exact⟨.inl ⟨rfl,rfl⟩,ss,ss,ss,ss,ss,ss,ss,ss,ss,ss,ss,rfl⟩
 ·rintro⟨i,acc⟩ env S' ⟨hp,e0,f1,f8,f9,f10,f11,f12,f13,f99,f100,f101,rfl⟩ IH
  have HI:=ae IH
  have hw16:aW.wrap 16=16:=by decide
  have hw16':aO.wrap 16=16:=by decide
  have hlw:=zh w0
  clear IH hffw
  simp only at f13 f101
  rcases or_assoc.2 hp with hp | ⟨rfl,ha⟩
  ·have hps:=A4 (b2:=b2) hp
   clear hp
   obtain⟨b,hb,hlt,hacc,hnone,hsome⟩:=hps
   have h1:decide ((i:Int)<2)=true:=by simp;omega
   have hwi:af.wrap ((i:Int)+1)=((i+1:Nat):Int):=by rw [au _ (by omega)];rfl
   have Hlt:=ae hlt
   have d5:decide ((1152921504606846976:Int)≤(acc:Int))=false:=by simp;omega
   have w5:aO.wrap ((acc:Int) * 16)=((acc * 16:Nat):Int):=by rw [eB _ (by omega)];omega
   have key:∀ d:Nat,d<16→aO.wrap (d:Int)=(d:Int)∧aO.wrap (((acc * 16:Nat):Int)+(d:Int))=((acc * 16+d:Nat):Int)∧decide (((acc * 16+d:Nat):Int)<((acc * 16:Nat):Int))=false∧decide ((255:Int)<((acc * 16+d:Nat):Int))=false:=by
    intro d hd
    refine⟨eB _ (by omega),by rw [eB _ (by omega)];omega,by simp;omega,by simp;omega⟩
   clear hlt hacc
   have Hnone:=ae hnone
   have Hsome:=ae hsome
   clear hnone hsome
   have Key:=ae key
   clear key
   have hdv:=D1 b
   by_cases c1:48≤b.toNat∧b.toNat≤57
   ·have d1:decide ((48:Int)≤(b.toNat:Int))=true:=by simp;omega
    have d2:decide ((b.toNat:Int)≤57)=true:=by simp;omega
    have d3:((b.toNat:Int)==95)=false:=by simp;omega
    have w1:aW.wrap ((b.toNat:Int) - 48)=((b.toNat - 48:Nat):Int):=by rw [en _ (by omega)];omega
    have hd:gV b=some (b.toNat - 48):=by rw [hdv];simp [dv,c1];omega
    have hd16:b.toNat - 48<16:=by omega
    have d4:decide ((16:Int)≤((b.toNat - 48:Nat):Int))=false:=by simp;omega
    clear hdv c1
    generalize hdd:b.toNat - 48=d at *
    obtain⟨k1,k2,k3,k4⟩:=Key.out d hd16
    have Hd:=ae hd
    clear hdd hd hd16
    repeat' first | refine st ?_ | (refine ca ?_;apply hlw) | (refine br ?_ ?_<;>intro hb) | fail
    refine HI.out (i+1,acc * 16+d) _ _ (by have:=Hlt.out;simp only;omega) ⟨Hsome.out d Hd.out, ?_, ?_, ?_, ?_, ?_, ?_, ?_, ?_, ?_, ?_, ?_,rfl⟩
    all_goals (simp only [go_sem, *];try rfl)
   ·have hnd:(decide ((48:Int)≤(b.toNat:Int))&&decide ((b.toNat:Int)≤57))=false:=by
     rw [fj];simp;omega
    by_cases c2:97≤ff b∧ff b≤122
    ·have e1:decide ((97:Int)≤(ff b:Int))=true:=by simp;omega
     have e2:decide ((ff b:Int)≤122)=true:=by simp;omega
     have w1:aW.wrap ((ff b:Int) - 97)=((ff b - 97:Nat):Int):=by rw [en _ (by omega)];omega
     have w2:aW.wrap (((ff b - 97:Nat):Int)+10)=((ff b - 87:Nat):Int):=by rw [en _ (by omega)];omega
     have hd:gV b=if ff b - 87<16 then some (ff b - 87) else none:=by rw [hdv];simp only [dv,c1,c2,and_self,if_false,if_true,Cg]
     clear hdv c1 c2
     generalize ff b - 87=d at *
     generalize ff b - 97=e at *
     by_cases hd16:d<16
     ·rw [if_pos hd16] at hd
      have d4:decide ((16:Int)≤(d:Int))=false:=by simp;omega
      obtain⟨k1,k2,k3,k4⟩:=Key.out d hd16
      have Hd:=ae hd
      clear hd hd16
      cases q1:decide ((48:Int)≤(b.toNat:Int))<;>cases q2:decide ((b.toNat:Int)≤57)<;>cases q3:((b.toNat:Int)==95)<;>simp only [q1,q2] at hnd<;>try (exfalso;cases hnd;done)
      all_goals clear hnd
      all_goals
       repeat' first | refine st ?_ | (refine ca ?_;apply hlw) | (refine br ?_ ?_<;>intro hb) | fail
       refine HI.out (i+1,acc * 16+d) _ _ (by have:=Hlt.out;simp only;omega) ⟨Hsome.out d Hd.out, ?_, ?_, ?_, ?_, ?_, ?_, ?_, ?_, ?_, ?_, ?_,rfl⟩
       all_goals (simp only [go_sem, *];try rfl)
     ·rw [if_neg hd16] at hd
      have d4:decide ((16:Int)≤(d:Int))=true:=by simp;omega
      rw [Hnone.out hd] at h
      clear hd hd16
      cases q1:decide ((48:Int)≤(b.toNat:Int))<;>cases q2:decide ((b.toNat:Int)≤57)<;>cases q3:((b.toNat:Int)==95)<;>simp only [q1,q2] at hnd<;>try (exfalso;cases hnd;done)
      all_goals clear hnd
      all_goals
       repeat' first | refine st ?_ | (refine ca ?_;apply hlw) | (refine br ?_ ?_<;>intro hb) | fail
       refine fR Tryz.results293 ?_
       exact h
    ·have hd:gV b=none:=by
      rw [hdv];unfold dv;rw [if_neg c1,if_neg c2];rfl
     rw [Hnone.out hd] at h
     have hle:(decide ((97:Int)≤(ff b:Int))&&decide ((ff b:Int)≤122))=false:=by
      rw [fj];simp;omega
     clear hd hdv c1 c2
     cases q1:decide ((48:Int)≤(b.toNat:Int))<;>cases q2:decide ((b.toNat:Int)≤57)<;>cases q3:((b.toNat:Int)==95)<;>simp only [q1,q2] at hnd<;>try (exfalso;cases hnd;done)
     all_goals clear hnd
     all_goals
      cases q4:decide ((97:Int)≤(ff b:Int))<;>cases q5:decide ((ff b:Int)≤122)<;>simp only [q4,q5] at hle<;>try (exfalso;cases hle;done)
     all_goals clear hle
     all_goals
      repeat' first | refine st ?_ | (refine ca ?_;apply hlw) | (refine br ?_ ?_<;>intro hb) | fail
      refine fR Tryz.results293 ?_
      exact h
  ·simp only at ha
   rw [ha] at h
   clear ha
   repeat' first | refine st ?_ | (refine br ?_ ?_<;>intro hb) | fail
   refine fR Tryz.results293 ?_
   exact h
def z_ (w0:World):Prop:=∃ ev,w0.cell? ⟨6,0,none⟩=some ev∧(ev=.nilIface∨∃ te pe,ev=.iface te pe)
theorem Es (w0:World) (hS:z_ w0) (S:List ax) (s:List UInt8) (hs:s.length≤1000) (R:Rt) (h:∀ v:Value,R (.ret (.ifc 302 (.val v))) S) :
  ao Tryz.prog w0 247 [.str [80,97,114,115,101,85,105,110,116],.str s,.int .i64 16,.int .i64 8,nI] S R:=by
 refine ao.libR (vs:=[.string ⟨#[80,97,114,115,101,85,105,110,116]⟩,.string ⟨s.toArray⟩,.int .i64 16,.int .i64 8,.iface 299 (.int .i64 2)]) (Go.Proofs.enters_of Tryz.func247 (by kernel_rfl) rfl) rfl ?_
 intro w hb
 obtain⟨ev,hv,hev⟩:=hS
 refine(Go.Proofs.Any.strconv_toError_syntax Go.Proofs.Tryz.laysC245 ⟨#[80,97,114,115,101,85,105,110,116]⟩ ⟨s.toArray⟩ 16 8 ev w ?_ ?_ hev).mono ?_
 ·show s.toArray.size≤_
  simp;omega
 ·exact(hb.cell (eO _ _ hv)).trans hv
 ·rintro e w' ⟨N,rfl,hN,hc,hbw⟩
  exact⟨_,rfl,hbw,.ifc 302 (.val (.pointer (some ⟨N,0,none⟩))),fun ι ψ=>.ifc _ _ _ (.val _ rfl),h _⟩
theorem qg (w0:World) (hS:z_ w0):Gx w0:=by
 intro S b1 b2 R h1 h2
 have hte:=fun S'=>Es w0 hS S' [b1,b2] (by simp)
 cases hh:ia b1 b2 with
 | some v =>
  have hpu:=fun S' (R:Rt) (h:R (.ret (.tup [.int .u64 v,.inil])) S')=>EI w0 S' b1 b2 R (by rw [hh];exact h)
  have h:=h1 v hh
  clear hte h1 h2 hh
  refine eN Tryz.func250 rfl Tryz.ntmps250 fun hO=>?_
  repeat' first | refine st ?_ | (refine ca ?_;apply hpu) | (refine br ?_ ?_<;>intro hb) | fail
  refine fR Tryz.results250 ?_
  exact h
 | none =>
  have hpu:=fun S' (R:Rt) (h:R (.ret (.tup [.int .u64 0,nI])) S')=>EI w0 S' b1 b2 R (by rw [hh];exact h)
  have h:=h2 hh
  clear h1 h2 hh
  unfold nI at hpu hte
  refine eN Tryz.func250 rfl Tryz.ntmps250 fun hO=>?_
  repeat' first | refine st ?_ | (refine ca ?_;first | apply hpu | apply hte) | (refine br ?_ ?_<;>intro hb) | fail
  intro v
  repeat' first | refine st ?_ | (refine br ?_ ?_<;>intro hb) | fail
  refine fR Tryz.results250 ?_
  exact h _ _
def yQ:AV:=.ifc 299 (.int .i64 1)
theorem B2 {s:List UInt8}{i:Nat}{b:UInt8} (h:s[i]? = some b):(s.map gG)[i]? = some (.int .u8 (b.toNat:Int)):=by rw [aF,h];rfl
theorem F6 (w0:World) (S:List ax) (R:Rt) (h2:R (.ret (.tup [.int .u64 0,nI])) S):ao Tryz.prog w0 293 [.str [],.int .i64 16,.int .i64 8] S R:=by
 unfold nI at h2
 refine eN Tryz.func293 rfl Tryz.ntmps293 fun hO=>?_
 repeat' first | refine st ?_ | (refine br ?_ ?_<;>intro hb) | fail
 refine fR Tryz.results293 ?_
 exact h2
theorem J5 (w0:World) (S:List ax) (s:List UInt8) (hne:s≠[]) (hs:s.length≤100000) (R:Rt) (h1:∀ v:Nat,R (.ret (.tup [.int .u64 v,.inil])) S) (h2:R (.ret (.tup [.int .u64 0,nI])) S) (h3:R (.ret (.tup [.int .u64 255,yQ])) S) :
  ao Tryz.prog w0 293 [.str s,.int .i64 16,.int .i64 8] S R:=by
 have hn0:(s==[])=false:=by simpa using hne
 have Hs:=ae hs
 clear hne hs
 unfold nI at h2
 unfold yQ at h3
 have H1:=ae h1
 have H2:=ae h2
 have H3:=ae h3
 clear h1 h2 h3
 refine eN Tryz.func293 rfl Tryz.ntmps293 fun hO=>?_
 repeat' first | refine st ?_ | (refine br ?_ ?_<;>intro hb) | fail
 apply l8
 ·(simp only [go_sem, *];try rfl)
 ·rfl
 ·(simp only [go_sem, *];try rfl)
 ·(simp only [go_sem, *];try rfl)
 ·(simp only [go_sem, *];try rfl)
 ·(simp only [go_sem, *];try rfl)
 ·rfl
 simp only [putA]
 repeat' first | refine st ?_ | (refine br ?_ ?_<;>intro hb) | fail
 have hffw:aO.wrap (aO.wrap (1 * 2 ^ min (aO.wrap 8).toNat 64) - 1)=255:=by decide +kernel
 have hlm:(s.map gG).length=s.length:=aY _
 refine eJ (fun (p:Nat × Nat) env S'=>p.1≤s.length∧p.2≤255∧env 1000000=.dfr []∧env 1=.int .i64 16∧env 8=.bool false∧env 9=.str s∧env 10=.int .u64 1152921504606846976∧env 11=.int .u64 255∧env 12=.bool false∧env 13=.int .u64 p.2 ∧
  env 99=.sval false (s.map gG)∧env 100=.int .i64 s.length∧env 101=.int .i64 p.1∧S'=S) (fun p=>s.length - p.1) (0,0) ?_ ?_
 ·exact⟨bx _,by omega,ss,ss,ss,ss,ss,ss,ss,ss,ss,ss,ss,rfl⟩
 ·rintro⟨i,acc⟩ env S' ⟨hi,hacc,e0,f1,f8,f9,f10,f11,f12,f13,f99,f100,f101,rfl⟩ IH
  have HI:=ae IH
  have hw16:aW.wrap 16=16:=by decide
  have hw16':aO.wrap 16=16:=by decide
  have hlw:=zh w0
  clear IH hffw hlm
  simp only at f13 f101 hi hacc
  have hs:=Hs.out
  by_cases hlt:i<s.length
  ·obtain⟨b,hx⟩:∃ b,s[i]? = some b:=⟨_,al hlt⟩
   have hb:=B2 hx
   clear hx
   have h1:decide ((i:Int)<(s.length:Int))=true:=by simpa using hlt
   have hwi:af.wrap ((i:Int)+1)=((i+1:Nat):Int):=by rw [au _ (by omega)];rfl
   have Hlt:=ae hlt
   have d5:decide ((1152921504606846976:Int)≤(acc:Int))=false:=by simp;omega
   have w5:aO.wrap ((acc:Int) * 16)=((acc * 16:Nat):Int):=by rw [eB _ (by omega)];omega
   have key:∀ d:Nat,d<16→aO.wrap (d:Int)=(d:Int)∧aO.wrap (((acc * 16:Nat):Int)+(d:Int))=((acc * 16+d:Nat):Int)∧decide (((acc * 16+d:Nat):Int)<((acc * 16:Nat):Int))=false:=by
    intro d hd
    refine⟨eB _ (by omega),by rw [eB _ (by omega)];omega,by simp;omega⟩
   clear hlt hacc hi hs
   have Key:=ae key
   clear key
   generalize s.map gG=B at *
   by_cases c1:48≤b.toNat∧b.toNat≤57
   ·have d1:decide ((48:Int)≤(b.toNat:Int))=true:=by simp;omega
    have d2:decide ((b.toNat:Int)≤57)=true:=by simp;omega
    have d3:((b.toNat:Int)==95)=false:=by simp;omega
    have w1:aW.wrap ((b.toNat:Int) - 48)=((b.toNat - 48:Nat):Int):=by rw [en _ (by omega)];omega
    have hd16:b.toNat - 48<16:=by omega
    have d4:decide ((16:Int)≤((b.toNat - 48:Nat):Int))=false:=by simp;omega
    clear c1
    generalize hdd:b.toNat - 48=d at *
    obtain⟨k1,k2,k3⟩:=Key.out d hd16
    clear hdd hd16
    by_cases hm:acc * 16+d≤255
    ·have k4:decide ((255:Int)<((acc * 16+d:Nat):Int))=false:=by simp;omega
     have Hm:=ae hm
     clear hm
     repeat' first | refine st ?_ | (refine ca ?_;apply hlw) | (refine br ?_ ?_<;>intro hb) | fail
     refine HI.out (i+1,acc * 16+d) _ _ (by have:=Hlt.out;simp only;omega) ⟨Hlt.out,Hm.out, ?_, ?_, ?_, ?_, ?_, ?_, ?_, ?_, ?_, ?_, ?_,rfl⟩
     all_goals (simp only [go_sem, *];try rfl)
    ·have k4:decide ((255:Int)<((acc * 16+d:Nat):Int))=true:=by simp;omega
     have h3:=H3.out
     clear hm
     repeat' first | refine st ?_ | (refine ca ?_;apply hlw) | (refine br ?_ ?_<;>intro hb) | fail
     refine fR Tryz.results293 ?_
     exact h3
   ·have hnd:(decide ((48:Int)≤(b.toNat:Int))&&decide ((b.toNat:Int)≤57))=false:=by
     rw [fj];simp;omega
    by_cases c2:97≤ff b∧ff b≤122
    ·have e1:decide ((97:Int)≤(ff b:Int))=true:=by simp;omega
     have e2:decide ((ff b:Int)≤122)=true:=by simp;omega
     have w1:aW.wrap ((ff b:Int) - 97)=((ff b - 97:Nat):Int):=by rw [en _ (by omega)];omega
     have w2:aW.wrap (((ff b - 97:Nat):Int)+10)=((ff b - 87:Nat):Int):=by rw [en _ (by omega)];omega
     clear c1 c2
     generalize ff b - 87=d at *
     generalize ff b - 97=e at *
     by_cases hd16:d<16
     ·have d4:decide ((16:Int)≤(d:Int))=false:=by simp;omega
      obtain⟨k1,k2,k3⟩:=Key.out d hd16
      clear hd16
      cases q1:decide ((48:Int)≤(b.toNat:Int))<;>cases q2:decide ((b.toNat:Int)≤57)<;>cases q3:((b.toNat:Int)==95)<;>simp only [q1,q2] at hnd<;>try (exfalso;cases hnd;done)
      all_goals clear hnd
      all_goals
       by_cases hm:acc * 16+d≤255
       ·have k4:decide ((255:Int)<((acc * 16+d:Nat):Int))=false:=by simp;omega
        have Hm:=ae hm
        clear hm
        repeat' first | refine st ?_ | (refine ca ?_;apply hlw) | (refine br ?_ ?_<;>intro hb) | fail
        refine HI.out (i+1,acc * 16+d) _ _ (by have:=Hlt.out;simp only;omega) ⟨Hlt.out,Hm.out, ?_, ?_, ?_, ?_, ?_, ?_, ?_, ?_, ?_, ?_, ?_,rfl⟩
        all_goals (simp only [go_sem, *];try rfl)
       ·have k4:decide ((255:Int)<((acc * 16+d:Nat):Int))=true:=by simp;omega
        have h3:=H3.out
        clear hm
        repeat' first | refine st ?_ | (refine ca ?_;apply hlw) | (refine br ?_ ?_<;>intro hb) | fail
        refine fR Tryz.results293 ?_
        exact h3
     ·have d4:decide ((16:Int)≤(d:Int))=true:=by simp;omega
      have h2:=H2.out
      clear hd16
      cases q1:decide ((48:Int)≤(b.toNat:Int))<;>cases q2:decide ((b.toNat:Int)≤57)<;>cases q3:((b.toNat:Int)==95)<;>simp only [q1,q2] at hnd<;>try (exfalso;cases hnd;done)
      all_goals clear hnd
      all_goals
       repeat' first | refine st ?_ | (refine ca ?_;apply hlw) | (refine br ?_ ?_<;>intro hb) | fail
       refine fR Tryz.results293 ?_
       exact h2
    ·have hle:(decide ((97:Int)≤(ff b:Int))&&decide ((ff b:Int)≤122))=false:=by
      rw [fj];simp;omega
     have h2:=H2.out
     clear c1 c2
     cases q1:decide ((48:Int)≤(b.toNat:Int))<;>cases q2:decide ((b.toNat:Int)≤57)<;>cases q3:((b.toNat:Int)==95)<;>simp only [q1,q2] at hnd<;>try (exfalso;cases hnd;done)
     all_goals clear hnd
     all_goals
      cases q4:decide ((97:Int)≤(ff b:Int))<;>cases q5:decide ((ff b:Int)≤122)<;>simp only [q4,q5] at hle<;>try (exfalso;cases hle;done)
     all_goals clear hle
     all_goals
      repeat' first | refine st ?_ | (refine ca ?_;apply hlw) | (refine br ?_ ?_<;>intro hb) | fail
      refine fR Tryz.results293 ?_
      exact h2
  ·have hil:i=s.length:=by omega
   subst hil
   have h1:decide ((s.length:Int)<(s.length:Int))=false:=by simp
   have hh:=H1.out acc
   clear hlt hi hacc hs
   repeat' first | refine st ?_ | (refine br ?_ ?_<;>intro hb) | fail
   refine fR Tryz.results293 ?_
   exact hh
def Eh (w0:World):Prop:=∃ ev,w0.cell? ⟨7,0,none⟩=some ev∧(ev=.nilIface∨∃ te pe,ev=.iface te pe)
theorem C4 (w0:World) (hS:Eh w0) (S:List ax) (s:List UInt8) (hs:s.length≤100000) (R:Rt) (h:∀ v:Value,R (.ret (.ifc 302 (.val v))) S) :
  ao Tryz.prog w0 247 [.str [80,97,114,115,101,85,105,110,116],.str s,.int .i64 16,.int .i64 8,yQ] S R:=by
 refine ao.libR (vs:=[.string ⟨#[80,97,114,115,101,85,105,110,116]⟩,.string ⟨s.toArray⟩,.int .i64 16,.int .i64 8,.iface 299 (.int .i64 1)]) (Go.Proofs.enters_of Tryz.func247 (by kernel_rfl) rfl) rfl ?_
 intro w hb
 obtain⟨ev,hv,hev⟩:=hS
 refine(Go.Proofs.Any.strconv_toError_range Go.Proofs.Tryz.laysC245 ⟨#[80,97,114,115,101,85,105,110,116]⟩ ⟨s.toArray⟩ 16 8 ev w ?_ ?_ hev).mono ?_
 ·show s.toArray.size≤_
  simp;omega
 ·exact(hb.cell (eO _ _ hv)).trans hv
 ·rintro e w' ⟨N,rfl,hN,hc,hbw⟩
  exact⟨_,rfl,hbw,.ifc 302 (.val (.pointer (some ⟨N,0,none⟩))),fun ι ψ=>.ifc _ _ _ (.val _ rfl),h _⟩
theorem C3 (w0:World) (hS:z_ w0) (S:List ax) (s:List UInt8) (hs:s.length≤100000) (R:Rt) (h:∀ v:Value,R (.ret (.ifc 302 (.val v))) S) :
  ao Tryz.prog w0 247 [.str [80,97,114,115,101,85,105,110,116],.str s,.int .i64 16,.int .i64 8,nI] S R:=by
 refine ao.libR (vs:=[.string ⟨#[80,97,114,115,101,85,105,110,116]⟩,.string ⟨s.toArray⟩,.int .i64 16,.int .i64 8,.iface 299 (.int .i64 2)]) (Go.Proofs.enters_of Tryz.func247 (by kernel_rfl) rfl) rfl ?_
 intro w hb
 obtain⟨ev,hv,hev⟩:=hS
 refine(Go.Proofs.Any.strconv_toError_syntax Go.Proofs.Tryz.laysC245 ⟨#[80,97,114,115,101,85,105,110,116]⟩ ⟨s.toArray⟩ 16 8 ev w ?_ ?_ hev).mono ?_
 ·show s.toArray.size≤_
  simp;omega
 ·exact(hb.cell (eO _ _ hv)).trans hv
 ·rintro e w' ⟨N,rfl,hN,hc,hbw⟩
  exact⟨_,rfl,hbw,.ifc 302 (.val (.pointer (some ⟨N,0,none⟩))),fun ι ψ=>.ifc _ _ _ (.val _ rfl),h _⟩
theorem J7 (w0:World) (hS:z_ w0) (S:List ax) (a b:UInt8) (v:Nat) (hv:ia a b=some v) (R:Rt) (h:R (.ret (.tup [.int .u64 v,.inil])) S):ao Tryz.prog w0 250 [.str [a,b],.int .i64 16,.int .i64 8] S R :=
 qg w0 hS S a b R (fun v' hv'=>by rw [hv] at hv';cases hv';exact h) (fun e=>by rw [hv] at e;cases e)
theorem Gb (w0:World) (hS:z_ w0) (S:List ax) (a b:UInt8) (hv:ia a b=none) (R:Rt) (h:∀ t x,R (.ret (.tup [.int .u64 0,.ifc t x])) S):ao Tryz.prog w0 250 [.str [a,b],.int .i64 16,.int .i64 8] S R :=
 qg w0 hS S a b R (fun v' hv'=>by rw [hv] at hv';cases hv') (fun _=>h)
theorem J6 (w0:World) (hS:z_ w0) (hG:Eh w0) (S:List ax) (s:List UInt8) (hs:s.length≤100000) (R:Rt) (h1:∀ v:Nat,R (.ret (.tup [.int .u64 v,.inil])) S) (h2:∀ (v:Nat) t x,R (.ret (.tup [.int .u64 v,.ifc t x])) S):ao Tryz.prog w0 250 [.str s,.int .i64 16,.int .i64 8] S R:=by
 have heS:=fun S'=>C3 w0 hS S' s hs
 have heR:=fun S'=>C4 w0 hG S' s hs
 have hc0:((0:Nat):Int)=0:=rfl
 have h20:∀ t x,R (.ret (.tup [.int .u64 0,.ifc t x])) S:=h2 0
 have h21:∀ t x,R (.ret (.tup [.int .u64 255,.ifc t x])) S:=h2 255
 unfold nI at heS
 unfold yQ at heR
 by_cases hn:s=[]
 ·subst hn
  have hp:=F6 w0
  unfold nI at hp
  clear hS hG h1 h2 h21 heR
  refine eN Tryz.func250 rfl Tryz.ntmps250 fun hO=>?_
  repeat' first | refine st ?_ | (refine ca ?_;first | apply hp | apply heS) | (refine br ?_ ?_<;>intro hb) | fail
  intro v
  repeat' first | refine st ?_ | (refine br ?_ ?_<;>intro hb) | fail
  refine fR Tryz.results250 ?_
  exact h20 _ _
 ·have hp:=fun S'=>J5 w0 S' s hn hs
  unfold nI yQ at hp
  clear hS hG h2 hs hn
  refine eN Tryz.func250 rfl Tryz.ntmps250 fun hO=>?_
  repeat' first | refine st ?_ | (refine ca ?_;apply hp) | (refine br ?_ ?_<;>intro hb) | fail
  ·intro v
   repeat' first | refine st ?_ | (refine br ?_ ?_<;>intro hb) | fail
   refine fR Tryz.results250 ?_
   exact h1 _
  ·repeat' first | refine st ?_ | (refine ca ?_;apply heS) | (refine br ?_ ?_<;>intro hb) | fail
   intro v
   repeat' first | refine st ?_ | (refine br ?_ ?_<;>intro hb) | fail
   refine fR Tryz.results250 ?_
   exact h20 _ _
  ·repeat' first | refine st ?_ | (refine ca ?_;apply heR) | (refine br ?_ ?_<;>intro hb) | fail
   intro v
   repeat' first | refine st ?_ | (refine br ?_ ?_<;>intro hb) | fail
   refine fR Tryz.results250 ?_
   exact h21 _ _
theorem y6 (w0:World) (S:List ax) (s:List UInt8) (hs:s.length≤100000) (R:Rt) (h:∀ b,R (.ret (.sval b ((eh s).map AV.str))) S):ao Tryz.prog w0 249 [.str s,.str [47]] S R:=by
 have hg:=fun S'=>DT w0 S' s hs
 have hlt:ltL S.length ((eh s).map AV.str)=true:=cw.2 fun x hx=>by obtain⟨y,_,rfl⟩:=aH.1 hx;rfl
 have hpl:plainL ((eh s).map AV.str)=true:=by
  have:=p9 (eh s) 0
  simpa [ku] using this
 generalize (eh s).map AV.str=F at h hg hlt hpl
 clear hs
 refine eN Tryz.func249 rfl Tryz.ntmps249 fun hO=>?_
 repeat' first | refine st ?_ | (refine ca ?_;apply hg) | (refine br ?_ ?_<;>intro hb) | fail
 intro b
 cases b
 all_goals
  repeat' first | refine st ?_ | (refine br ?_ ?_<;>intro hb) | fail
  refine fR Tryz.results249 ?_
  exact h _
def pQ (s:List UInt8):Bool:=decide (4≤s.length)&&(s.take 4==[114,103,98,58])
theorem DR (w0:World) (S:List ax) (s:List UInt8) (R:Rt) (h:R (.ret (.bool (pQ s))) S):ao Tryz.prog w0 274 [.str s,.str [114,103,98,58]] S R:=by
 unfold pQ at h
 by_cases hl:4≤s.length
 ·have d1:decide ((4:Int)≤(s.length:Int))=true:=by simp;omega
  have hk:((4:Nat):Int)≤(s.length:Int):=by omega
  have hk2:(4:Int)≤(s.length:Int):=by omega
  have hc4:((4:Nat):Int)=4:=rfl
  have d2:decide (((4:Nat):Int)≤(s.length:Int))=true:=by simp;omega
  rw [decide_eq_true hl,lX] at h
  clear hl
  refine eN Tryz.func274 rfl Tryz.ntmps274 fun hO=>?_
  repeat' first | refine st ?_ | (refine br ?_ ?_<;>intro hb) | fail
  refine fR Tryz.results274 ?_
  exact h
 ·have d1:decide ((4:Int)≤(s.length:Int))=false:=by simp;omega
  have d2:decide (((4:Nat):Int)≤(s.length:Int))=false:=by simp;omega
  rw [decide_eq_false hl,Bool.false_and] at h
  clear hl
  refine eN Tryz.func274 rfl Tryz.ntmps274 fun hO=>?_
  repeat' first | refine st ?_ | (refine br ?_ ?_<;>intro hb) | fail
  refine fR Tryz.results274 ?_
  exact h
def tT (s:List UInt8):AV:=if pQ s then .tup [.str (s.drop 4),.bool true] else .tup [.str s,.bool false]
theorem Fi (w0:World) (S:List ax) (s:List UInt8) (R:Rt) (h:R (.ret (tT s)) S):ao Tryz.prog w0 291 [.str s,.str [114,103,98,58]] S R:=by
 have hp:=fun S'=>DR w0 S' s
 unfold tT at h
 cases hb:pQ s with
 | false =>
  rw [hb] at h hp
  have h:R (.ret (.tup [.str s,.bool false])) S:=h
  clear hb
  refine eN Tryz.func291 rfl Tryz.ntmps291 fun hO=>?_
  repeat' first | refine st ?_ | (refine ca ?_;apply hp) | (refine br ?_ ?_<;>intro hb) | fail
  refine fR Tryz.results291 ?_
  exact h
 | true =>
  have hl:4≤s.length:=by unfold pQ at hb;simp at hb;exact hb.1
  have hk:((4:Nat):Int)≤(s.length:Int):=by omega
  have hts:lm s.length s=s:=bk
  rw [hb] at h hp
  have h:R (.ret (.tup [.str (s.drop 4),.bool true])) S:=h
  clear hb hl
  refine eN Tryz.func291 rfl Tryz.ntmps291 fun hO=>?_
  repeat' first | refine st ?_ | (refine ca ?_;apply hp) | (refine br ?_ ?_<;>intro hb) | fail
  refine fR Tryz.results291 ?_
  exact h
theorem Gm (w0:World) (S:List ax) (s:List UInt8) (R:Rt) (h:R (.ret (tT s)) S):ao Tryz.prog w0 248 [.str s,.str [114,103,98,58]] S R:=by
 have hp:=fun S'=>Fi w0 S' s
 unfold tT at h hp
 cases hb:pQ s with
 | false =>
  rw [hb] at h hp
  have h:R (.ret (.tup [.str s,.bool false])) S:=h
  have hp:∀ S' (R:Rt),R (.ret (.tup [.str s,.bool false])) S'→ao Tryz.prog w0 291 [.str s,.str [114,103,98,58]] S' R:=hp
  clear hb
  refine eN Tryz.func248 rfl Tryz.ntmps248 fun hO=>?_
  repeat' first | refine st ?_ | (refine ca ?_;apply hp) | (refine br ?_ ?_<;>intro hb) | fail
  refine fR Tryz.results248 ?_
  exact h
 | true =>
  rw [hb] at h hp
  have h:R (.ret (.tup [.str (s.drop 4),.bool true])) S:=h
  have hp:∀ S' (R:Rt),R (.ret (.tup [.str (s.drop 4),.bool true])) S'→ao Tryz.prog w0 291 [.str s,.str [114,103,98,58]] S' R:=hp
  clear hb
  generalize s.drop 4=d at h hp
  refine eN Tryz.func248 rfl Tryz.ntmps248 fun hO=>?_
  repeat' first | refine st ?_ | (refine ca ?_;apply hp) | (refine br ?_ ?_<;>intro hb) | fail
  refine fR Tryz.results248 ?_
  exact h
def qq:List UInt8→Option Nat
 | [a,b]=>ia a b
 | _=>none
def lU:Nat→List (List UInt8)→Option Nat
 | n,[]=>some n
 | n,p::ps=>match qq p with | some k=>lU (n * 256+k) ps | none=>none
def qp:List (List UInt8)→List UInt8
 | []=>[]
 | [w]=>w
 | w::ws=>w++47::qp ws
theorem oE:∀ s,qp (eh s)=s
 | []=>rfl
 | b::r=>by
  have ih:=oE r
  unfold eh
  split
  ·next h =>
   subst h
   cases hs:eh r with
   | nil=>exact absurd hs (yB r)
   | cons w ws=>rw [hs] at ih;simp [qp,ih]
  ·split
   ·next e=>exact absurd e (yB r)
   ·next w ws e =>
    rw [e] at ih
    cases ws with
    | nil=>simp only [qp] at ih ⊢;rw [ih]
    | cons w2 ws=>simp only [qp,cz] at ih ⊢;rw [ih]
theorem wh {b:UInt8}{x:Nat} (h:gV b=some x):b≠47∧b≠43∧b≠95:=by
 have:∀ n:Nat,n<256→(gV (aD n)).isSome=true→aD n≠47∧aD n≠43∧aD n≠95:=by decide +kernel
 have h2:=this b.toNat b.toNat_lt
 rw [bm] at h2
 exact h2 (by rw [h];rfl)
theorem jJ {a b:UInt8}{x:Nat} (h:ia a b=some x):(a≠47∧a≠43∧a≠95)∧(b≠47∧b≠43∧b≠95):=by
 unfold ia at h
 cases h1:gV a with
 | none=>rw [h1] at h;simp at h
 | some u =>
  cases h2:gV b with
  | none=>rw [h1,h2] at h;simp at h
  | some v=>exact⟨wh h1,wh h2⟩
theorem wP {a b c d e f:UInt8} (ha:a≠47) (hb:b≠47) (hc:c≠47) (hd:d≠47) (he:e≠47) (hf:f≠47):eh [a,b,47,c,d,47,e,f]=[[a,b],[c,d],[e,f]]:=by
 simp [eh,ha,hb,hc,hd,he,hf]
theorem pq {s:List UInt8}{n:Nat} (h:jr s=some n):pQ s=true∧∃ p q r,eh (s.drop 4)=[p,q,r]∧lU 0 [p,q,r]=some n:=by
 unfold jr at h
 split at h
 ·next p0 p1 p2 p3 a b q c d r e f =>
  split at h
  ·next hp =>
   obtain⟨rfl,rfl,rfl,rfl,rfl,rfl⟩:=hp
   split at h
   ·next x y z hx hy hz =>
    cases h
    refine⟨rfl,[a,b],[c,d],[e,f], ?_, ?_⟩
    ·exact wP (jJ hx).1.1 (jJ hx).2.1 (jJ hy).1.1 (jJ hy).2.1 (jJ hz).1.1 (jJ hz).2.1
    ·simp only [lU,qq,hx,hy,hz]
     congr 1
     omega
   ·cases h
  ·cases h
 ·cases h
theorem mv {p:List UInt8}{k:Nat} (h:qq p=some k):∃ a b,p=[a,b]∧ia a b=some k:=by
 unfold qq at h
 split at h
 ·exact⟨_,_,rfl,h⟩
 ·cases h
theorem xP {p q r:List UInt8}{n:Nat} (h:lU 0 [p,q,r]=some n):∃ a b c d e f x y z,p=[a,b]∧q=[c,d]∧r=[e,f]∧ia a b=some x∧ia c d=some y∧ia e f=some z∧n=x * 65536+y * 256+z:=by
 simp only [lU] at h
 cases h1:qq p with
 | none=>rw [h1] at h;cases h
 | some x =>
  cases h2:qq q with
  | none=>rw [h1,h2] at h;cases h
  | some y =>
   cases h3:qq r with
   | none=>rw [h1,h2,h3] at h;cases h
   | some z =>
    rw [h1,h2,h3] at h
    simp only [a8] at h
    obtain⟨a,b,rfl,e1⟩:=mv h1
    obtain⟨c,d,rfl,e2⟩:=mv h2
    obtain⟨e,f,rfl,e3⟩:=mv h3
    exact⟨a,b,c,d,e,f,x,y,z,rfl,rfl,rfl,e1,e2,e3,by omega⟩
theorem D8 {s p q r:List UInt8}{n:Nat} (hp:pQ s=true) (hs:eh (s.drop 4)=[p,q,r]) (h:lU 0 [p,q,r]=some n):jr s=some n:=by
 obtain⟨a,b,c,d,e,f,x,y,z,rfl,rfl,rfl,e1,e2,e3,rfl⟩:=xP h
 have hj:=oE (s.drop 4)
 rw [hs] at hj
 unfold pQ at hp
 simp at hp
 have hsp:s=[114,103,98,58,a,b,47,c,d,47,e,f]:=by
  rw [← List.take_append_drop 4 s,hp.2,← hj]
  rfl
 rw [hsp]
 unfold jr
 simp only
 rw [if_pos (by simp),e1,e2,e3]
theorem zQ {s p q r:List UInt8} (hs:eh (s.drop 4)=[p,q,r]) (h:lU 0 [p,q,r]=none):jr s=none:=by
 cases hc:jr s with
 | none=>rfl
 | some n =>
  obtain⟨_,p',q',r',h1,h2⟩:=pq hc
  rw [hs] at h1
  cases h1
  rw [h] at h2;cases h2
def Fj:Option Nat→AV
 | some n=>.tup [.agg [.int .i64 2,.int .i64 n],.int .i64 0]
 | none=>.tup [.agg [.int .i64 0,.int .i64 0],.int .i64 6]
theorem xd (w0:World) (hS:z_ w0) (hG:Eh w0) (S:List ax) (s:List UInt8) (hs:s.length≤10000) (R:Rt) (h:R (.ret (Fj (jr s))) S):ao Tryz.prog w0 207 [.str s] S R:=by
 have hcut:=fun S'=>Gm w0 S' s
 unfold tT at hcut
 have bad:jr s=none→R (.ret (.tup [.agg [.int .i64 0,.int .i64 0],.int .i64 6])) S:=fun e=>by rw [e] at h;exact h
 have good:∀ n,jr s=some n→R (.ret (.tup [.agg [.int .i64 2,.int .i64 n],.int .i64 0])) S:=fun n e=>by rw [e] at h;exact h
 clear h
 cases hpx:pQ s with
 | false =>
  have hb:=bad (by cases hc:jr s with | none=>rfl | some n=>have:=(pq hc).1;rw [hpx] at this;cases this)
  rw [hpx] at hcut
  have hcut:∀ S' (R:Rt),R (.ret (.tup [.str s,.bool false])) S'→ao Tryz.prog w0 248 [.str s,.str [114,103,98,58]] S' R:=hcut
  have hsp:=fun S'=>y6 w0 S' s (by omega)
  generalize (eh s).map AV.str=F at hsp
  clear bad good hpx hs hS hG
  refine eN Tryz.func207 rfl Tryz.ntmps207 fun hO=>?_
  repeat' first | refine st ?_ | (refine ca ?_;first | apply hcut | apply hsp) | (refine br ?_ ?_<;>intro hb) | fail
  intro b
  repeat' first | refine st ?_ | (refine br ?_ ?_<;>intro hb) | fail
  refine fR Tryz.results207 ?_
  exact hb
 | true =>
 rw [hpx] at hcut
 have hcut:∀ S' (R:Rt),R (.ret (.tup [.str (s.drop 4),.bool true])) S'→ao Tryz.prog w0 248 [.str s,.str [114,103,98,58]] S' R:=hcut
 have hsp:=fun S'=>y6 w0 S' (s.drop 4) (by simp;omega)
 by_cases h3:(eh (s.drop 4)).length=3
 case neg =>
  have hb:=bad (by cases hc:jr s with | none=>rfl | some n=>obtain⟨_,p,q,r,e,_⟩:=pq hc;rw [e] at h3;exact absurd rfl h3)
  have d1:((((eh (s.drop 4)).map AV.str).length:Int) != 3)=true:=by rw [bne_iff_ne,aY];omega
  generalize (eh (s.drop 4)).map AV.str=F at hsp d1
  generalize s.drop 4=u at hcut hsp
  clear bad good hpx hs h3 hS hG
  refine eN Tryz.func207 rfl Tryz.ntmps207 fun hO=>?_
  repeat' first | refine st ?_ | (refine ca ?_;first | apply hcut | apply hsp) | (refine br ?_ ?_<;>intro hb) | fail
  intro b
  repeat' first | refine st ?_ | (refine br ?_ ?_<;>intro hb) | fail
  refine fR Tryz.results207 ?_
  exact hb
 case pos =>
  obtain⟨p,q,r,hL⟩:∃ p q r,eh (s.drop 4)=[p,q,r]:=by
   match hm:eh (s.drop 4),h3 with
   | [p,q,r],_=>exact⟨p,q,r,rfl⟩
  have good2:∀ n,lU 0 [p,q,r]=some n→R (.ret (.tup [.agg [.int .i64 2,.int .i64 n],.int .i64 0])) S:=fun n e=>good n (D8 hpx hL e)
  have bad2:lU 0 [p,q,r]=none→R (.ret (.tup [.agg [.int .i64 0,.int .i64 0],.int .i64 6])) S:=fun e=>bad (zQ hL e)
  have hjl:=oE (s.drop 4)
  rw [hL] at hsp hjl
  have hlen:∀ x∈[p,q,r],x.length≤100000:=by
   have hl:=congrArg dM hjl
   simp [qp] at hl
   intro x hx
   simp only [bA,List.not_mem_nil,or_false] at hx
   rcases hx with rfl | rfl | rfl<;>omega
  simp only [aA,aC] at hsp
  generalize s.drop 4=u at hcut hsp
  have Good:=ae good2
  have Bad:=ae bad2
  have Hlen:=ae hlen
  have HSS:=ae hS
  have HGG:=ae hG
  clear bad good good2 bad2 hpx hs h3 hL hjl hlen hS hG
  refine eN Tryz.func207 rfl Tryz.ntmps207 fun hO=>?_
  repeat' first | refine st ?_ | (refine ca ?_;first | apply hcut | apply hsp) | (refine br ?_ ?_<;>intro hb) | fail
  intro b
  repeat' first | refine st ?_ | (refine br ?_ ?_<;>intro hb) | fail
  have hc3:((3:Nat):Int)=3:=rfl
  refine eJ (fun (p':Nat × Nat × List (List UInt8)) env S'=>p'.1≤3∧[p,q,r].drop p'.1=p'.2.2∧p'.2.1<256 ^ p'.1∧lU p'.2.1 p'.2.2=lU 0 [p,q,r]∧env 1000000=.dfr []∧env 2=.own S.length 0∧env 7=.int .i64 (p'.2.1:Int)∧env 27=.sval b [.str p,.str q,.str r]∧env 28=.int .i64 3∧env 29=.int .i64 (p'.1:Int) ∧
   S'=S++[ax.cells [.int .i64 0,.int .i64 0]]) (fun p'=>3 - p'.1) (0,0,[p,q,r]) ?_ ?_
  ·exact⟨by omega,rfl,by simp,rfl,ss,ss,ss,ss,ss,ss,rfl⟩
  ·rintro⟨k,n,rest⟩ env S' ⟨hk,hrest,hn,hacc,e0,f2,f7,f27,f28,f29,rfl⟩ IH
   simp only at hk hrest hn hacc f7 f29
   have HI:=ae IH
   clear IH hcut hsp hc3
   have hp3:256 ^ k≤256 ^ 3:=dL (by omega) hk
   have hp3':(256:Nat) ^ 3=16777216:=by decide
   by_cases hlt:k<3
   ·obtain⟨x,rr,rfl⟩:∃ x rr,rest=x::rr:=by
     cases rest with
     | nil=>have:=congrArg dM hrest;simp at this;omega
     | cons x rr=>exact⟨x,rr,rfl⟩
    have hx0:[p,q,r][k]? = some x:=by
     have:=congrArg List.head? hrest
     simpa [List.head?_drop] using this
    have hxl:=Hlen.out x (ar hx0)
    have hx:([AV.str p,AV.str q,AV.str r])[k]? = some (.str x):=by
     have:([p,q,r].map AV.str)[k]? = some (.str x):=by rw [aF,hx0];rfl
     exact this
    have hr2:[p,q,r].drop (k+1)=rr:=by
     rw [← List.drop_drop,hrest];rfl
    have h1:decide ((k:Int)<3)=true:=by simp;omega
    have hk6:(k:Int)<((3:Nat):Int):=by omega
    have hw:af.wrap ((k:Int)+1)=(k:Int)+1:=au _ (by omega)
    clear hx0 hrest
    cases hh2:qq x with
    | some v =>
     obtain⟨a1,b1,rfl,hv⟩:=mv hh2
     have hvl:=n6 hv
     obtain⟨⟨_,n1,n2⟩,_⟩:=jJ hv
     have m1:((a1.toNat:Int)==43)=false:=by
      rw [beq_eq_false_iff_ne]
      intro e
      exact n1 (by rw [← bm (x:=a1),show a1.toNat=43 by omega];rfl)
     have m2:((a1.toNat:Int)==95)=false:=by
      rw [beq_eq_false_iff_ne]
      intro e
      exact n2 (by rw [← bm (x:=a1),show a1.toNat=95 by omega];rfl)
     have hpu:=fun S'=>J7 w0 HSS.out S' a1 b1 v hv
     have hacc2:lU (n * 256+v) rr=lU 0 [p,q,r]:=by rw [← hacc];simp only [lU,hh2]
     have hn2:n * 256+v<256 ^ (k+1):=by rw [Nat.pow_succ];omega
     have hwv:af.wrap (v:Int)=(v:Int):=au _ (by omega)
     have hor:=Gd (a:=n) (b:=v) (k:=8) (by omega) (by omega) (by omega)
     have hor:af.wrap (((ai af.bits (af.wrap ((n:Int) * 2 ^ min 8 64)) ||| ai af.bits (v:Int)).toNat:Nat):Int)=((n * 256+v:Nat):Int):=hor
     simp only [a6] at hor
     have Hf:=ae (dw hlt (dw hr2 (dw hn2 hacc2)))
     clear hlt hr2 hn2 hacc2 hacc hn hk hp3 hp3' hvl hv hh2 n1 n2 hxl
     repeat' first | refine st ?_ | (refine ca ?_;apply hpu) | (refine br ?_ ?_<;>intro hb) | fail
     obtain⟨hlt,hr2,hn2,hacc2⟩:=Hf.out
     refine HI.out (k+1,n * 256+v,rr) _ _ (by simp only;omega) ⟨hlt,hr2,hn2,hacc2, ?_, ?_, ?_, ?_, ?_, ?_,rfl⟩
     all_goals (simp only [go_sem, *];try rfl)
    | none =>
     have hbad:=Bad.out (by rw [← hacc];simp only [lU,hh2])
     by_cases hl2:x.length=2
     ·obtain⟨a1,b1,rfl⟩:∃ a1 b1,x=[a1,b1]:=by
       match x,hl2 with
       | [a1,b1],_=>exact⟨a1,b1,rfl⟩
      have hpu:=fun S'=>Gb w0 HSS.out S' a1 b1 hh2
      clear hlt hr2 hacc hn hk hp3 hp3' hh2 hxl hl2 HI
      repeat' first | refine st ?_ | (refine ca ?_;apply hpu) | (refine br ?_ ?_<;>intro hb) | fail
      intro t x'
      repeat' first | refine st ?_ | (refine br ?_ ?_<;>intro hb) | fail
      refine fR Tryz.results207 ?_
      exact hbad
     ·have hpu:=fun S'=>J6 w0 HSS.out HGG.out S' x hxl
      have m1:((x.length:Int) != 2)=true:=by rw [bne_iff_ne];omega
      clear hlt hr2 hacc hn hk hp3 hp3' hh2 hxl hl2 HI
      repeat' first | refine st ?_ | (refine ca ?_;apply hpu) | (refine br ?_ ?_<;>intro hb) | fail
      ·intro v
       repeat' first | refine st ?_ | (refine br ?_ ?_<;>intro hb) | fail
       refine fR Tryz.results207 ?_
       exact hbad
      ·intro v t x'
       repeat' first | refine st ?_ | (refine br ?_ ?_<;>intro hb) | fail
       refine fR Tryz.results207 ?_
       exact hbad
   ·have hk3:k=3:=by omega
    subst hk3
    have hr0:rest=[]:=by rw [← hrest];rfl
    subst hr0
    have hg:=Good.out n (by rw [← hacc];rfl)
    have h1:decide ((3:Int)<3)=false:=by decide
    have hc3:((3:Nat):Int)=3:=rfl
    clear hlt hrest hacc hn hk hp3 hp3' HI
    repeat' first | refine st ?_ | (refine br ?_ ?_<;>intro hb) | fail
    refine fR Tryz.results207 ?_
    exact hg
theorem ao.libV {P:Program}{w0:World}{S:List ax}{f:FuncId}{args:List AV}{vs:List Value}{v:AV}{c:Value}{R:df→List ax→Prop} (he:∀ (a:Array Value) (w:World),(callFunc f a).run P w=.ok (.enter f a) w) (ha:args.map zL=vs.map some)
  (hv:∀ ι ψ,VR ι ψ v c) (h:∀ w,ka w0.heap.size w0 w→Calls P f vs.toArray w fun e w'=>e=.returned c∧ka w.heap.size w w') (hR:R (.ret v) S):ao P w0 f args S R:=by
 unfold ao
 refine⟨he,fun ι ψ w cargs hRel hl hargs=>?_⟩
 have hlen:args.length=vs.length:=by simpa using congrArg dM ha
 have:cargs=vs.toArray:=by
  apply jg
  intro j
  by_cases hj:j<args.length
  ·have h1:args[j]? = some args[j]:=al hj
   have h2:cargs[j]? = some cargs[j]:=a_ (by omega)
   have h3:vs[j]? = some vs[j]:=al (by omega)
   have h4:=hargs j _ _ h1 h2
   have h5:(args.map zL)[j]? = (vs.map some)[j]?:=by rw [ha]
   simp only [aF,h1,h3,cu,a8] at h5
   rw [h2]
   simp only [cS,h3]
   rw [lb h4 h5]
  ·rw [bS (by omega),cS,bz (by omega)]
 subst this
 refine(h w hRel.below).mono ?_
 rintro e w' ⟨rfl,hb⟩
 have hb0:ka w0.heap.size w w':=hb.mono hRel.n0
 exact⟨ι,ψ,.ret v,S,cN.refl _ _,hRel.grow hb0 (fun k hk=>hb.block k hk) (cX.le_refl _) (fun _ _ _ e=>.inl e) (fun _ _ _ e=>.inl e),hv _ _,hR⟩
def pg:List UInt8:=[48,49,50,51,52,53,54,55,56,57]
theorem BS (b:UInt8):pg.contains b=wo b:=by
 have:∀ n,n<256→pg.contains (aD n)=wo (aD n):=by decide +kernel
 have h:=this b.toNat b.toNat_lt
 rwa [bm] at h
theorem drop_nil {α:Type _} (p:α→Bool) (l:List α):l.dropWhile p=[]↔l.all p=true:=by
 induction l with
 | nil=>simp
 | cons b l ih =>
  rw [List.dropWhile_cons,lg]
  cases hb:p b with
  | true=>simp [ih]
  | false=>simp
theorem yu (w:List UInt8):hJ w pg=[]↔w.all wo=true:=by
 have e:(fun b=>pg.contains b)=wo:=by funext b;exact BS b
 unfold hJ Lib.trimLeftS Lib.trimRightS
 rw [drop_nil,e,oh]
 constructor
 ·intro h
  have h2:(w.reverse.dropWhile wo)=[]:=by
   cases hd:w.reverse.dropWhile wo with
   | nil=>rfl
   | cons b r =>
    rw [hd,lg,aj] at h
    have:=List.head_dropWhile_not wo (l:=w.reverse) (by rw [hd];simp)
    simp only [hd,List.head_cons] at this
    rw [h.1] at this;cases this
  rw [drop_nil,oh] at h2
  exact h2
 ·intro h
  have:w.reverse.dropWhile wo=[]:=by rw [drop_nil,oh];exact h
  rw [this];rfl
theorem Fo (w0:World) (S:List ax) (s:List UInt8) (hs:s.length≤10000000) (R:Rt) (h:R (.ret (.str (hJ s pg))) S):ao Tryz.prog w0 205 [.str s,.str [48,49,50,51,52,53,54,55,56,57]] S R:=by
 refine ao.lib (vs:=[.string ⟨s.toArray⟩,.string ⟨#[48,49,50,51,52,53,54,55,56,57]⟩]) (v:=.str (hJ s pg)) (c:=.string ⟨(hJ s pg).toArray⟩) (Go.Proofs.enters_of Tryz.func205 (by kernel_rfl) rfl) rfl rfl ?_ h
 intro w hb
 refine(Go.Proofs.Any.strings_Trim_laid Go.Proofs.Tryz.lays160 (by kernel_rfl) ⟨s.toArray⟩ ⟨#[48,49,50,51,52,53,54,55,56,57]⟩ w ?_ (by decide) ?_).mono ?_
 ·rw [show (⟨s.toArray⟩:ByteArray).size=s.length from rfl];omega
 ·intro j b hj
  have:=ar hj
  simp at this
  rcases this with rfl | rfl | rfl | rfl | rfl | rfl | rfl | rfl | rfl | rfl<;>decide
 ·rintro e w' ⟨rfl,hb⟩
  exact⟨rfl,hb⟩
theorem atoi (w0:World) (S:List ax) (s:List UInt8) (n:Int) (hl:s.length≤18) (hn:Lib.atoi s=some n) (R:Rt) (h:R (.ret (.tup [.int .i64 n,.inil])) S):ao Tryz.prog w0 206 [.str s] S R:=by
 refine ao.libV (vs:=[.string ⟨s.toArray⟩]) (v:=.tup [.int .i64 n,.inil]) (c:=.tuple #[.int .i64 n,.nilIface]) (Go.Proofs.enters_of Tryz.func206 (by kernel_rfl) rfl) rfl ?_ ?_ h
 ·intro ι ψ
  refine .tup _ _ rfl ?_
  rintro(_ | _ | j) x v h1 h2
  ·cases h1;cases h2;exact .int _ _
  ·cases h1;cases h2;exact .inil
  ·simp at h1
 ·intro w hb
  refine(Go.Proofs.Any.strconv_Atoi Go.Proofs.Tryz.lays172 ⟨s.toArray⟩ n hl hn w).mono ?_
  rintro e w' ⟨rfl,t,rfl⟩
  exact⟨rfl,Lib.bytesWorld_below w _ t⟩
theorem Ff:∀ (l:List UInt8) (acc:Nat),l.all wo=true→Lib.decFrom acc l=some (l.foldl (fun n b=>n * 10+(b.toNat - 48)) acc)
 | [],acc,_=>rfl
 | b::l,acc,h=>by
  rw [lg,aj] at h
  have hb:=h.1
  simp only [wo,aj,decide_eq_true_eq] at hb
  have h1:=Ff l (acc * 10+(b.toNat - 48)) h.2
  simp [Lib.decFrom,Lib.digitVal,hb,h1]
theorem Fq {w:List UInt8} (h1:w≠[]) (h3:w.all wo=true):Lib.atoi w=some (nH w:Nat):=by
 cases w with
 | nil=>exact absurd rfl h1
 | cons b r =>
  have e1:=Ff (b::r) 0 h3
  have hb:=h3
  rw [lg,aj] at hb
  have hb:=hb.1
  simp only [wo,aj,decide_eq_true_eq] at hb
  have n1:(b==45)=false:=by rw [beq_eq_false_iff_ne];rintro rfl;exact absurd hb.1 (by decide)
  have n2:(b==43)=false:=by rw [beq_eq_false_iff_ne];rintro rfl;exact absurd hb.1 (by decide)
  rw [Lib.atoi,n1,n2]
  simp only [bJ,if_false,Lib.decNat,List.isEmpty_cons,e1,cu]
  rfl
def fX:Option Ac→df
 | some a=>.ret a.av
 | none=>.panic bn
def EE (s:List UInt8):Option Ac:=match iB s with
 | none=>none
 | some (h,t)=>match pT h,jr t with
  | some n,some c=>some ⟨45,n,0,2,c,[]⟩
  | _,_=>none
def ED (s:List UInt8):Option Ac:=match iB s with
 | none=>none
 | some (w,t)=>if w=[99] then (match pk t with
  | some c=>if c.length≤378 then some ⟨46,0,0,0,0,c⟩ else none
  | none=>none) else none
theorem Dy (w0:World) (hS:z_ w0) (hG:Eh w0) (S:List ax) (s:List UInt8) (hs:s.length≤10000) (R:Rt) (h:R (fX (EE s)) S):ao Tryz.prog w0 204 [.str s] S R:=by
 have ht:=fun S'=>Dr w0 S' s (by omega)
 have hmT:=jF w0
 have hmF:=jG w0
 unfold EE at h
 cases hq:iB s with
 | none =>
  rw [hq] at h ht
  unfold fX at h
  unfold qR at ht
  unfold bn at h ht
  clear hq hs hmT hmF hS hG
  refine eN Tryz.func204 rfl Tryz.ntmps204 fun hO=>?_
  repeat' first | refine st ?_ | (refine ca ?_;apply ht) | (refine br ?_ ?_<;>intro hb) | fail
  refine fP ?_
  exact h
 | some q =>
 obtain⟨a,t⟩:=q
 obtain⟨hal,htl⟩:=rY hq
 rw [hq] at h ht
 unfold qR at ht
 simp only at h ht
 have htr:=fun S'=>Fo w0 S' a (by omega)
 have bad:(match pT a,jr t with | some n,some c=>some (⟨45,n,0,2,c,[]⟩:Ac) | _,_=>none)=none→R (.panic bn) S:=fun e=>by rw [e] at h;exact h
 unfold bn at bad hmF
 by_cases h1:a=[]
 ·subst h1
  have hb:=bad rfl
  clear bad h hq hs hmT hal htl hS hG
  refine eN Tryz.func204 rfl Tryz.ntmps204 fun hO=>?_
  repeat' first | refine st ?_ | (refine ca ?_;first | apply ht | apply hmF) | (refine br ?_ ?_<;>intro hb) | fail
  refine fP ?_
  exact hb
 have d1:(a==[])=false:=by simpa using h1
 by_cases h2:a.length≤3
 case neg =>
  have hb:=bad (by unfold pT;rw [if_pos (.inr (.inl (by omega)))])
  have d2:decide ((a.length:Int)≤3)=false:=by simp;omega
  clear bad h hq hs hmT hal htl h1 h2 hS hG
  refine eN Tryz.func204 rfl Tryz.ntmps204 fun hO=>?_
  repeat' first | refine st ?_ | (refine ca ?_;first | apply ht | apply hmF) | (refine br ?_ ?_<;>intro hb) | fail
  refine fP ?_
  exact hb
 have d2:decide ((a.length:Int)≤3)=true:=by simp;omega
 have htn:=yu a
 cases h3:a.all wo with
 | false =>
  have hb:=bad (by unfold pT;rw [if_pos (.inr (.inr (.inl h3)))])
  have d3:(hJ a pg==[])=false:=by rw [beq_eq_false_iff_ne];intro e;rw [htn.1 e] at h3;cases h3
  generalize hJ a pg=u at htr d3
  clear bad h hq hs hmT hal htl h1 h2 h3 htn hS hG
  refine eN Tryz.func204 rfl Tryz.ntmps204 fun hO=>?_
  repeat' first | refine st ?_ | (refine ca ?_;first | apply ht | apply htr | apply hmF) | (refine br ?_ ?_<;>intro hb) | fail
  refine fP ?_
  exact hb
 | true =>
  have d3:(hJ a pg==[])=true:=by rw [beq_iff_eq];exact htn.2 h3
  have hat:=fun S'=>atoi w0 S' a (nH a:Nat) (by omega) (Fq h1 h3)
  have hco:=fun S'=>xd w0 hS hG S' t (by omega)
  have hno:pT a=if 255<nH a then none else some (nH a):=by
   unfold pT
   by_cases hv:255<nH a
   ·rw [if_pos (.inr (.inr (.inr hv))),if_pos hv]
   ·rw [if_neg (by rintro(e | e | e | e);exact h1 e;omega;rw [h3] at e;cases e;exact hv e),if_neg hv]
  generalize hJ a pg=u at htr d3
  by_cases hv:255<nH a
  ·rw [if_pos hv] at hno
   have hb:=bad (by rw [hno])
   have d4:decide ((nH a:Int)≤255)=false:=by simp;omega
   generalize (nH a:Int)=v at hat d4
   clear bad h hq hs hal htl h1 h2 h3 htn hS hG hno hv
   cases hc:jr t with
   | none =>
    rw [hc] at hco
    unfold Fj at hco
    simp only at hco
    clear hc
    refine eN Tryz.func204 rfl Tryz.ntmps204 fun hO=>?_
    repeat' first | refine st ?_ | (refine ca ?_;first | apply ht | apply htr | apply hat | apply hco | apply hmT | apply hmF) | (refine br ?_ ?_<;>intro hb) | fail
    refine fP ?_
    exact hb
   | some c =>
    rw [hc] at hco
    unfold Fj at hco
    simp only at hco
    clear hc
    refine eN Tryz.func204 rfl Tryz.ntmps204 fun hO=>?_
    repeat' first | refine st ?_ | (refine ca ?_;first | apply ht | apply htr | apply hat | apply hco | apply hmT | apply hmF) | (refine br ?_ ?_<;>intro hb) | fail
    refine fP ?_
    exact hb
  ·rw [if_neg hv] at hno
   have d4:decide ((nH a:Int)≤255)=true:=by simp;omega
   rw [hno] at h bad
   generalize nH a=v at hat d4 h bad
   clear hq hs hal htl h1 h2 h3 htn hS hG hno hv
   cases hc:jr t with
   | none =>
    rw [hc] at hco
    have hb:=bad (by rw [hc])
    unfold Fj at hco
    simp only at hco
    clear hc bad h
    refine eN Tryz.func204 rfl Tryz.ntmps204 fun hO=>?_
    repeat' first | refine st ?_ | (refine ca ?_;first | apply ht | apply htr | apply hat | apply hco | apply hmT | apply hmF) | (refine br ?_ ?_<;>intro hb) | fail
    refine fP ?_
    exact hb
   | some c =>
    rw [hc] at hco h
    unfold Fj at hco
    simp only at hco
    have h:R (.ret (.agg [.int .i64 45,.int .i64 (v:Int),.int .i64 0,.int .i64 2,.int .i64 (c:Int),.str []])) S:=h
    clear hc bad
    refine eN Tryz.func204 rfl Tryz.ntmps204 fun hO=>?_
    repeat' first | refine st ?_ | (refine ca ?_;first | apply ht | apply htr | apply hat | apply hco | apply hmT) | (refine br ?_ ?_<;>intro hb) | fail
    refine fR Tryz.results204 ?_
    exact h
theorem Dx (w0:World) (S:List ax) (s:List UInt8) (hs:s.length≤8192) (R:Rt) (h:R (fX (ED s)) S):ao Tryz.prog w0 208 [.str s] S R:=by
 have ht:=fun S'=>Dr w0 S' s (by omega)
 have hmT:=jF w0
 have hmF:=jG w0
 unfold ED at h
 cases hq:iB s with
 | none =>
  rw [hq] at h ht
  unfold fX at h
  unfold qR at ht
  unfold bn at h ht
  clear hq hs hmT hmF
  refine eN Tryz.func208 rfl Tryz.ntmps208 fun hO=>?_
  repeat' first | refine st ?_ | (refine ca ?_;apply ht) | (refine br ?_ ?_<;>intro hb) | fail
  refine fP ?_
  exact h
 | some q =>
 obtain⟨a,t⟩:=q
 obtain⟨hal,htl⟩:=rY hq
 rw [hq] at h ht
 unfold qR at ht
 simp only at h ht
 have hde:=fun S'=>Bq w0 S' t (by omega)
 unfold D3 at hde
 unfold bn at hmF
 by_cases h1:a=[99]
 ·subst h1
  rw [if_pos rfl] at h
  cases hd:pk t with
  | none =>
   rw [hd] at h hde
   unfold fX bn at h
   simp only at h hde
   clear hd hq hs hal htl hmT
   refine eN Tryz.func208 rfl Tryz.ntmps208 fun hO=>?_
   repeat' first | refine st ?_ | (refine ca ?_;first | apply ht | apply hde | apply hmF) | (refine br ?_ ?_<;>intro hb) | fail
   refine fP ?_
   exact h
  | some c =>
   rw [hd] at h hde
   simp only at h hde
   by_cases hc:c.length≤378
   ·rw [if_pos hc] at h
    have d1:decide ((c.length:Int)≤378)=true:=by simp;omega
    have h:R (.ret (.agg [.int .i64 46,.int .i64 0,.int .i64 0,.int .i64 0,.int .i64 0,.str c])) S:=h
    clear hd hq hs hal htl hmF hc
    refine eN Tryz.func208 rfl Tryz.ntmps208 fun hO=>?_
    repeat' first | refine st ?_ | (refine ca ?_;first | apply ht | apply hde | apply hmT) | (refine br ?_ ?_<;>intro hb) | fail
    refine fR Tryz.results208 ?_
    exact h
   ·rw [if_neg hc] at h
    have d1:decide ((c.length:Int)≤378)=false:=by simp;omega
    unfold fX bn at h
    simp only at h
    clear hd hq hs hal htl hmT hc
    refine eN Tryz.func208 rfl Tryz.ntmps208 fun hO=>?_
    repeat' first | refine st ?_ | (refine ca ?_;first | apply ht | apply hde | apply hmF) | (refine br ?_ ?_<;>intro hb) | fail
    refine fP ?_
    exact h
 ·rw [if_neg h1] at h
  have d1:(a==[99])=false:=by simpa using h1
  unfold fX bn at h
  simp only at h
  cases hd:pk t with
  | none =>
   rw [hd] at hde
   simp only at hde
   clear hd hq hs hal htl hmT h1
   refine eN Tryz.func208 rfl Tryz.ntmps208 fun hO=>?_
   repeat' first | refine st ?_ | (refine ca ?_;first | apply ht | apply hde | apply hmF) | (refine br ?_ ?_<;>intro hb) | fail
   refine fP ?_
   exact h
  | some c =>
   rw [hd] at hde
   simp only at hde
   clear hd hq hs hal htl hmT h1
   refine eN Tryz.func208 rfl Tryz.ntmps208 fun hO=>?_
   repeat' first | refine st ?_ | (refine ca ?_;first | apply ht | apply hde | apply hmF) | (refine br ?_ ?_<;>intro hb) | fail
   refine fP ?_
   exact h
theorem Bj (w0:World) (S:List ax) (a:Ac) (hs:a.text.length≤10000000) (hk:a.kind=46) (R:Rt) (h:R (if a=⟨46,0,0,0,0,a.text⟩∧a.text.length≤378 then .ret (.str (53::50::59::99::59::g9 a.text)) else .panic bn) S):ao Tryz.prog w0 116 [a.av] S R:=by
 have hpT:=fun S'=>rz w0 S' a ⟨a.kind,0,0,0,0,a.text⟩
 have hpF:=fun S'=>rB w0 S' a ⟨a.kind,0,0,0,0,a.text⟩
 have hmT:=jF w0
 have hmF:=jG w0
 obtain⟨k,n,m,ck,cn,t⟩:=a
 simp only at hk hs hpT hpF h
 subst hk
 unfold Ac.av at hpT hpF ⊢
 simp only at hpT hpF ⊢
 unfold bn at hmF
 by_cases he:(⟨46,n,m,ck,cn,t⟩:Ac)=⟨46,0,0,0,0,t⟩
 ·have hp:=fun S'=>hpT S' he
  by_cases hl:t.length≤378
  ·rw [if_pos ⟨he,hl⟩] at h
   have d1:decide ((t.length:Int)≤378)=true:=by simp;omega
   have hen:=fun S'=>Bp w0 S' t (by omega)
   have hfl:(g9 t).length≤1000:=by
    have h1:=tP t
    unfold g9 kB
    rw [ah,x8]
    omega
   have hl5:5+(g9 t).length≤9223372036854775807:=by omega
   generalize g9 t=E at *
   clear hpT hpF he hl hs hmF hfl
   refine eN Tryz.func116 rfl Tryz.ntmps116 fun hO=>?_
   repeat' first | refine st ?_ | (refine ca ?_;first | apply hp | apply hen | apply hmT) | (refine br ?_ ?_<;>intro hb) | fail
   refine fR Tryz.results116 ?_
   exact h
  ·rw [if_neg (fun e=>hl e.2)] at h
   have d1:decide ((t.length:Int)≤378)=false:=by simp;omega
   unfold bn at h
   clear hpT hpF he hl hs hmT
   refine eN Tryz.func116 rfl Tryz.ntmps116 fun hO=>?_
   repeat' first | refine st ?_ | (refine ca ?_;first | apply hp | apply hmF) | (refine br ?_ ?_<;>intro hb) | fail
   refine fP ?_
   exact h
 ·have hp:=fun S'=>hpF S' he
  rw [if_neg (fun e=>he e.1)] at h
  unfold bn at h hp
  clear hpT hpF he hs hmT hmF
  refine eN Tryz.func116 rfl Tryz.ntmps116 fun hO=>?_
  repeat' first | refine st ?_ | (refine ca ?_;apply hp) | (refine br ?_ ?_<;>intro hb) | fail
  refine fP ?_
  exact h
theorem Bk (w0:World) (hT:Eg w0) (hD:wu w0) (hN:Al w0) (S:List ax) (a:Ac) (hk:a.kind=45) (R:Rt)
  (h:R (if a=⟨45,a.n,0,2,a.cn,[]⟩∧(0≤a.n∧a.n≤255)∧(0≤a.cn∧a.cn≤16777215) then .ret (.str (52::59::(fJ a.n++59::kv a.cn.toNat))) else .panic bn) S):ao Tryz.prog w0 114 [a.av] S R:=by
 have hpT:=fun S'=>rz w0 S' a ⟨a.kind,a.n,0,a.ck,a.cn,[]⟩
 have hpF:=fun S'=>rB w0 S' a ⟨a.kind,a.n,0,a.ck,a.cn,[]⟩
 have hmT:=jF w0
 have hmF:=jG w0
 obtain⟨k,n,m,ck,cn,t⟩:=a
 simp only at hk hpT hpF h
 subst hk
 unfold Ac.av at hpT hpF ⊢
 simp only at hpT hpF ⊢
 unfold bn at hmF
 by_cases he:(⟨45,n,m,ck,cn,t⟩:Ac)=⟨45,n,0,ck,cn,[]⟩
 case neg =>
  have hp:=fun S'=>hpF S' he
  rw [if_neg (fun e=>he (by have h2:=e.1;simp only [Ac.mk.injEq] at h2 ⊢;exact⟨trivial,trivial,h2.2.2.1,trivial,trivial,h2.2.2.2.2.2⟩))] at h
  unfold bn at h hp
  clear hpT hpF he hmT hmF hT hD hN
  refine eN Tryz.func114 rfl Tryz.ntmps114 fun hO=>?_
  repeat' first | refine st ?_ | (refine ca ?_;apply hp) | (refine br ?_ ?_<;>intro hb) | fail
  refine fP ?_
  exact h
 case pos =>
 have hp:=fun S'=>hpT S' he
 have hm0:m=0∧t=[]:=by simp only [Ac.mk.injEq] at he;exact⟨he.2.2.1,he.2.2.2.2.2⟩
 obtain⟨rfl,rfl⟩:=hm0
 clear hpT hpF he
 by_cases hc:ck=2∧iD 2 cn=true
 ·obtain⟨rfl,hcb⟩:=hc
  have hb:0≤cn∧cn≤16777215:=by simpa [iD,u0] using hcb
  obtain⟨v,rfl⟩:∃ v:Nat,cn=v:=⟨cn.toNat,by omega⟩
  have htx:=fun S'=>CA w0 hD S' 2 v v (by omega) hcb (fun S' R h=>EW w0 S' v hcb R h)
  by_cases hn:0≤n∧n≤255
  ·rw [if_pos ⟨rfl,hn,hb⟩] at h
   obtain⟨u,rfl⟩:∃ u:Nat,n=u:=⟨n.toNat,by omega⟩
   have hit:=fun S'=>itoa w0 hT S' (u:Int) (by omega) (by omega)
   have hil:=(tv u (by omega)).2.1
   have d1:decide ((0:Int)≤(u:Int))=true:=by simp
   have d2:decide ((u:Int)≤255)=true:=by simp;omega
   have hrl:(kv v).length=12:=rfl
   rw [Int.toNat_natCast] at h
   generalize fJ (u:Int)=I at *
   generalize kv v=T at *
   have q1:2+I.length≤9223372036854775807:=by omega
   have q2:I.length+1+1+1≤9223372036854775807:=by omega
   have q3:I.length+3≤9223372036854775807:=by omega
   have q4:I.length+1+1+1+T.length≤9223372036854775807:=by omega
   have q5:I.length+3+T.length≤9223372036854775807:=by omega
   clear hcb hb hn hil hrl hmF hT hD hN
   refine eN Tryz.func114 rfl Tryz.ntmps114 fun hO=>?_
   repeat' first | apply gp | apply eT | apply dU | apply eU | apply gq | apply cG | apply gu | apply cI | apply ct | apply dd | apply cH | apply cr | apply bU | apply gr | (apply bV;(· rfl)) | (apply da;simp only [bt]) | (apply dN;(· rfl);(· simp only [go_sem, *,ah,aK];try rfl);(· rfl);simp only [putA]) | (apply eZ;simp only [putA]) | apply de | (apply dT [];(· simp only [go_sem, *,ah,aK];try rfl);(· rfl);(· simp only [go_sem, *,ah,aK];try rfl);(· rfl);(iterate 2 (· simp only [go_sem, *,ah,aK];try rfl));(first | apply hp | apply htx | apply hit | apply hmT);simp only [bK,putA]) | (apply dP;(· simp only [go_sem, *,ah,aK];try rfl);(· rfl);(· simp only [go_sem, *,ah,aK];try rfl)) | (apply dF;(iterate 2 (· simp only [go_sem, *,ah,aK];try rfl));(· rfl);simp only [putA]) | (apply cq;(· simp only [go_sem, *,ah,aK];try rfl);(· rfl);simp only [putA]) | (apply dQ;(· simp only [go_sem, *,ah,aK];try rfl)) | (apply dS;(· simp only [go_sem, *,ah,aK];try rfl)) | (apply db;(· rfl);(fail_if_success (focus (show _=some true;(· simp only [go_sem, *,ah,aK];try rfl))));(· simp only [go_sem, *,ah,aK];try rfl);all_goals (intro hb;try simp only [az,aG] at hb)) | (apply dR;(· simp only [go_sem, *,ah,aK];try rfl);all_goals (intro hb;try simp only [az,aG] at hb)) | fail
   refine fR Tryz.results114 ?_
   exact h
  ·rw [if_neg (fun e=>hn e.2.1)] at h
   unfold bn at h
   by_cases hn0:0≤n
   ·have d1:decide ((0:Int)≤n)=true:=by simpa using hn0
    have d2:decide (n≤255)=false:=by simp;omega
    clear hcb hb hn hn0 hmT hT hD hN
    refine eN Tryz.func114 rfl Tryz.ntmps114 fun hO=>?_
    repeat' first | refine st ?_ | (refine ca ?_;first | apply hp | apply htx | apply hmF | apply hmT) | (refine br ?_ ?_<;>intro hb) | fail
    refine fP ?_
    exact h
   ·have d1:decide ((0:Int)≤n)=false:=by simpa using hn0
    clear hcb hb hn hn0 hmT hT hD hN
    refine eN Tryz.func114 rfl Tryz.ntmps114 fun hO=>?_
    repeat' first | refine st ?_ | (refine ca ?_;first | apply hp | apply htx | apply hmF | apply hmT) | (refine br ?_ ?_<;>intro hb) | fail
    refine fP ?_
    exact h
 ·have htx:=fun S' R (h:∀ x e,(((e:Int)==0)&&((ck:Int)==2))=false→R (.ret (.tup [.str x,.int .i64 e])) S')=>Ds w0 hD hN S' ck cn R (fun e1 e2=>absurd ⟨e1,e2⟩ hc) (fun x e _ e2=>h x e e2)
  rw [if_neg (fun e=>hc (by
   have h2:=e.1
   simp only [Ac.mk.injEq] at h2
   refine⟨h2.2.2.2.1, ?_⟩
   have:=e.2.2
   simp [iD,u0]
   exact this))] at h
  unfold bn at h
  clear hc hT hD hN
  refine eN Tryz.func114 rfl Tryz.ntmps114 fun hO=>?_
  repeat' first | refine st ?_ | (refine ca ?_;first | apply hp | apply htx) | (refine br ?_ ?_<;>intro hb) | fail
  intro x e hxe
  cases h1:((e:Int)==0) with
  | false =>
   clear hxe
   repeat' first | refine st ?_ | (refine ca ?_;apply hmF) | (refine br ?_ ?_<;>intro hb) | fail
   refine fP ?_
   exact h
  | true =>
   have h2:((ck:Int)==2)=false:=by rw [h1] at hxe;simpa using hxe
   clear hxe
   repeat' first | refine st ?_ | (refine ca ?_;apply hmF) | (refine br ?_ ?_<;>intro hb) | fail
   refine fP ?_
   exact h
def kA:Option (List UInt8)→df
 | some s=>.ret (.str s)
 | none=>.panic bn
def F8:List (AV × AV):=[(.int .i64 44,.fn (.func 111) [] []),(.int .i64 45,.fn (.func 114) [] []),(.int .i64 46,.fn (.func 116) [] [])]
def F5:List (AV × AV):=[(.str [48],.fn (.func 203) [] []),(.str [50],.fn (.func 203) [] []),(.str [52],.fn (.func 204) [] []),(.str [53,50],.fn (.func 208) [] [])]
theorem Bg (w0:World) (S:List ax) (R:Rt) (h:R (.ret (.mval F8)) S):ao Tryz.prog w0 51 [] S R:=by
 unfold F8 at h
 refine eN Tryz.func51 rfl Tryz.ntmps51 fun hO=>?_
 repeat' first | refine st ?_ | (refine br ?_ ?_<;>intro hb) | fail
 refine fR Tryz.results51 ?_
 exact h
theorem Dw (w0:World) (S:List ax) (R:Rt) (h:R (.ret (.mval F5)) S):ao Tryz.prog w0 136 [] S R:=by
 unfold F5 at h
 refine eN Tryz.func136 rfl Tryz.ntmps136 fun hO=>?_
 repeat' first | refine st ?_ | (refine br ?_ ?_<;>intro hb) | fail
 refine fR Tryz.results136 ?_
 exact h
theorem Ga {a:Ac} (h:a.kind=44):dH a=if a=⟨44,0,0,0,0,a.text⟩∧fV a.text=true then some (50::59::a.text) else none:=by
 unfold dH
 split
 ·rfl
 ·rw [if_neg (fun e=>by rw [e.1] at h;cases h),if_neg (fun e=>by rw [e.1] at h;cases h)]
theorem F_ {a:Ac} (h:a.kind=45):dH a=if a=⟨45,a.n,0,2,a.cn,[]⟩∧(0≤a.n∧a.n≤255)∧(0≤a.cn∧a.cn≤16777215) then some (52::59::(fJ a.n++59::kv a.cn.toNat)) else none:=by
 unfold dH
 rw [if_neg (fun e=>by rw [e.1] at h;cases h)]
 split
 ·rfl
 ·rw [if_neg (fun e=>by rw [e.1] at h;cases h)]
theorem F9 {a:Ac} (h:a.kind=46):dH a=if a=⟨46,0,0,0,0,a.text⟩∧a.text.length≤378 then some (53::50::59::99::59::g9 a.text) else none:=by
 unfold dH
 rw [if_neg (fun e=>by rw [e.1] at h;cases h),if_neg (fun e=>by rw [e.1] at h;cases h)]
theorem F7 {a:Ac} (h1:a.kind≠44) (h2:a.kind≠45) (h3:a.kind≠46):dH a=none:=by
 unfold dH
 rw [if_neg (fun e=>h1 (by rw [e.1])),if_neg (fun e=>h2 (by rw [e.1])),if_neg (fun e=>h3 (by rw [e.1]))]
theorem Bi (w0:World) (hT:Eg w0) (hD:wu w0) (hN:Al w0) (S:List ax) (a:Ac) (i:Nat) (ha:S[i]? = some (.cells [.int .i64 a.kind,.int .i64 a.n,.int .i64 a.m,.int .i64 a.ck,.int .i64 a.cn,.str a.text])) (hs:a.text.length≤10000000) (R:Rt) (h:R (kA (dH a)) S):ao Tryz.prog w0 50 [.own i 0] S R:=by
 have hm:=Bg w0
 unfold F8 at hm
 have hmT:=jF w0
 have hmF:=jG w0
 unfold bn at hmF
 by_cases h4:a.kind=44
 ·have hp:=fun S'=>Bl w0 S' a hs h4
  rw [Ga h4] at h
  by_cases hc:a=⟨44,0,0,0,0,a.text⟩∧fV a.text=true
  ·rw [if_pos hc] at h
   simp only [if_pos hc] at hp
   clear hc hs hT hD hN
   obtain⟨k,n,m,ck,cn,t⟩:=a
   simp only at h4 ha h hp
   subst h4
   unfold Ac.av at hp
   unfold kA at h
   simp only at hp h
   refine eN Tryz.func50 rfl Tryz.ntmps50 fun hO=>?_
   repeat' first | refine st ?_ | (refine ca ?_;first | apply hm | apply hmT | apply hp) | (refine br ?_ ?_<;>intro hb) | refine sd ?_ | apply aB | (apply aL;(· decide +kernel)) | refine bd ?_ ?_ | (refine cd ?_;first | apply hm | apply hmT | apply hp) | fail
   all_goals refine fR Tryz.results50 ?_
   all_goals exact h
  ·rw [if_neg hc] at h
   simp only [if_neg hc] at hp
   clear hc hs hT hD hN
   obtain⟨k,n,m,ck,cn,t⟩:=a
   simp only at h4 ha h hp
   subst h4
   unfold Ac.av bn at hp
   unfold kA bn at h
   simp only at hp h
   refine eN Tryz.func50 rfl Tryz.ntmps50 fun hO=>?_
   repeat' first | refine st ?_ | (refine ca ?_;first | apply hm | apply hmT | apply hp) | (refine br ?_ ?_<;>intro hb) | refine sd ?_ | apply aB | (apply aL;(· decide +kernel)) | refine bd ?_ ?_ | (refine cd ?_;first | apply hm | apply hmT | apply hp) | fail
   all_goals refine fP ?_
   all_goals exact h
 by_cases h5:a.kind=45
 ·have hp:=fun S'=>Bk w0 hT hD hN S' a h5
  rw [F_ h5] at h
  by_cases hc:a=⟨45,a.n,0,2,a.cn,[]⟩∧(0≤a.n∧a.n≤255)∧(0≤a.cn∧a.cn≤16777215)
  ·rw [if_pos hc] at h
   simp only [if_pos hc] at hp
   clear hc hs hT hD hN h4
   obtain⟨k,n,m,ck,cn,t⟩:=a
   simp only at h5 ha h hp
   subst h5
   unfold Ac.av at hp
   unfold kA at h
   simp only at hp h
   generalize (52::59::(fJ n++59::kv cn.toNat))=T at hp h
   refine eN Tryz.func50 rfl Tryz.ntmps50 fun hO=>?_
   repeat' first | refine st ?_ | (refine ca ?_;first | apply hm | apply hmT | apply hp) | (refine br ?_ ?_<;>intro hb) | refine sd ?_ | apply aB | (apply aL;(· decide +kernel)) | refine bd ?_ ?_ | (refine cd ?_;first | apply hm | apply hmT | apply hp) | fail
   all_goals refine fR Tryz.results50 ?_
   all_goals exact h
  ·rw [if_neg hc] at h
   simp only [if_neg hc] at hp
   clear hc hs hT hD hN h4
   obtain⟨k,n,m,ck,cn,t⟩:=a
   simp only at h5 ha h hp
   subst h5
   unfold Ac.av bn at hp
   unfold kA bn at h
   simp only at hp h
   refine eN Tryz.func50 rfl Tryz.ntmps50 fun hO=>?_
   repeat' first | refine st ?_ | (refine ca ?_;first | apply hm | apply hmT | apply hp) | (refine br ?_ ?_<;>intro hb) | refine sd ?_ | apply aB | (apply aL;(· decide +kernel)) | refine bd ?_ ?_ | (refine cd ?_;first | apply hm | apply hmT | apply hp) | fail
   all_goals refine fP ?_
   all_goals exact h
 by_cases h6:a.kind=46
 ·have hp:=fun S'=>Bj w0 S' a hs h6
  rw [F9 h6] at h
  by_cases hc:a=⟨46,0,0,0,0,a.text⟩∧a.text.length≤378
  ·rw [if_pos hc] at h
   simp only [if_pos hc] at hp
   clear hc hs hT hD hN h4 h5
   obtain⟨k,n,m,ck,cn,t⟩:=a
   simp only at h6 ha h hp
   subst h6
   unfold Ac.av at hp
   unfold kA at h
   simp only at hp h
   generalize (53::50::59::99::59::g9 t)=T at hp h
   refine eN Tryz.func50 rfl Tryz.ntmps50 fun hO=>?_
   repeat' first | refine st ?_ | (refine ca ?_;first | apply hm | apply hmT | apply hp) | (refine br ?_ ?_<;>intro hb) | refine sd ?_ | apply aB | (apply aL;(· decide +kernel)) | refine bd ?_ ?_ | (refine cd ?_;first | apply hm | apply hmT | apply hp) | fail
   all_goals refine fR Tryz.results50 ?_
   all_goals exact h
  ·rw [if_neg hc] at h
   simp only [if_neg hc] at hp
   clear hc hs hT hD hN h4 h5
   obtain⟨k,n,m,ck,cn,t⟩:=a
   simp only at h6 ha h hp
   subst h6
   unfold Ac.av bn at hp
   unfold kA bn at h
   simp only at hp h
   refine eN Tryz.func50 rfl Tryz.ntmps50 fun hO=>?_
   repeat' first | refine st ?_ | (refine ca ?_;first | apply hm | apply hmT | apply hp) | (refine br ?_ ?_<;>intro hb) | refine sd ?_ | apply aB | (apply aL;(· decide +kernel)) | refine bd ?_ ?_ | (refine cd ?_;first | apply hm | apply hmT | apply hp) | fail
   all_goals refine fP ?_
   all_goals exact h
 ·rw [F7 h4 h5 h6] at h
  unfold kA bn at h
  simp only at h
  have b4:(a.kind==44)=false:=by simpa using h4
  have b5:(a.kind==45)=false:=by simpa using h5
  have b6:(a.kind==46)=false:=by simpa using h6
  clear hs hT hD hN h4 h5 h6
  obtain⟨k,n,m,ck,cn,t⟩:=a
  simp only at ha b4 b5 b6
  refine eN Tryz.func50 rfl Tryz.ntmps50 fun hO=>?_
  repeat' first | refine st ?_ | (refine ca ?_;first | apply hm | apply hmF) | (refine br ?_ ?_<;>intro hb) | refine sd ?_ | apply aB | (apply aL;(· decide +kernel)) | refine bd ?_ ?_ | (refine cd ?_;first | apply hm | apply hmF) | fail
  all_goals refine fP ?_
  all_goals exact h
theorem n8 {P:Program}{w0:World}{g:FuncId}{args:List AV}{rv:AV}{S:List ax}{K:List ax→Prop}{G:Func}{id:Nat}{o0:Oper}{l:List Oper}{rest:Code}{ty:TypeId}{d:Nat} (env1:cF) (S1:List ax) (h1:P.funcs[g]? = some G) (h2:(G.name == "runtime.NumGoroutine")=false)
  (h3:G.body=some (.seq (.region id (o0::l).toArray false) rest)) (h4:o0.op=.call ⟨.builtin .recover,#[],#[]⟩) (h5:o0.guard=none) (h6:o0.type=ty) (h7:o0.dst=some d) (h8:d<G.ntmps) (h9:args.length≤G.ntmps) (h10:G.ntmps≤DS) (h11:G.results=#[])
  (h12:mX P w0 (o0::l).toArray G.ntmps l (eg (cW args) d rv) S=some (env1,S1))
  (h13:aX P w0 S.length G.ntmps none [.it (.code rest)] (fun x env S'=>(x=.normal∨x=.ret)∧env DS=.dfr []∧eu S.length S S'∧K (S'.take S.length)) .normal env1 S1):sk P w0 g args rv S K :=
 ⟨G,id,o0,l,rest,ty,d,env1,S1,h1,h2,h3,h4,h5,h6,h7,h8,h9,h10,h11,h12,h13⟩
theorem Kr (w0:World) (S:List ax) (K:List ax→Prop) (h:K S):sk Tryz.prog w0 110 [] .inil S K:=by
 refine n8 (eg (eg (cW []) 1 .inil) 0 .inil) S Tryz.func110 (by decide +kernel) rfl rfl rfl rfl rfl (by decide) (by rw [Tryz.ntmps110];simp) (by rw [Tryz.ntmps110];decide) rfl ?_ ?_
 ·rfl
 ·rw [Tryz.ntmps110]
  repeat' first | refine st ?_ | (refine br ?_ ?_<;>intro hb) | fail
  exact⟨.inl rfl,ss,fun _ _ _ e=>.inl e,by rw [bk];exact h⟩
theorem Kq (w0:World) (S:List ax) (K:List ax→Prop) (h:K S):sk Tryz.prog w0 110 [] bn S K:=by
 refine n8 (eg (eg (cW []) 1 bn) 0 bn) S Tryz.func110 (by decide +kernel) rfl rfl rfl rfl rfl (by decide) (by rw [Tryz.ntmps110];simp) (by rw [Tryz.ntmps110];decide) rfl ?_ ?_
 ·rfl
 ·rw [Tryz.ntmps110]
  repeat' first | apply gp | apply eT | apply dU | apply eU | apply gq | apply cG | apply gu | apply cI | apply ct | apply dd | apply cH | apply cr | apply bU | apply gr | (apply bV;(· rfl)) | (apply da;simp only [bt]) | (apply dN;(· rfl);(· simp only [go_sem, *,bn];try rfl);(· rfl);simp only [putA]) | (apply eZ;simp only [putA]) | apply de | (apply dP;(· simp only [go_sem, *,bn];try rfl);(· rfl);(· simp only [go_sem, *,bn];try rfl)) | (apply dF;(iterate 2 (· simp only [go_sem, *,bn];try rfl));(· rfl);simp only [putA]) | (apply cq;(· simp only [go_sem, *,bn];try rfl);(· rfl);simp only [putA]) | (apply dQ;(· simp only [go_sem, *,bn];try rfl)) | (apply dS;(· simp only [go_sem, *,bn];try rfl)) | (apply db;(· rfl);(fail_if_success (focus (show _=some true;(· simp only [go_sem, *,bn];try rfl))));(· simp only [go_sem, *,bn];try rfl);all_goals (intro hb;try simp only [az,aG] at hb)) | (apply dR;(· simp only [go_sem, *,bn];try rfl);all_goals (intro hb;try simp only [az,aG] at hb)) | fail
  exact⟨.inl rfl,ss,fun _ _ _ e=>.inl e,by rw [bk];exact h⟩
def FJ:Option (List UInt8)→AV
 | some s=>.tup [.str s,.bool true]
 | none=>.tup [.str [],.bool false]
theorem DB (w0:World) (S:List ax) (i:Nat) (cs:List AV) (ha:S[i]? = some (.cells cs)) (o:Option (List UInt8)) (hC:∀ R:df→List ax→Prop,R (kA o) S→ao Tryz.prog w0 50 [.own i 0] S R) (R:Rt) (h:R (.ret (FJ o)) S):ao Tryz.prog w0 49 [.fn (.func 50) [] [.own i 0]] S R:=by
 refine zB Tryz.func49 rfl (by decide +kernel) (by rw [Tryz.ntmps49];simp) (by rw [Tryz.ntmps49];decide) (fun hO=>?_);rw [Tryz.ntmps49]
 cases o with
 | none =>
  unfold FJ at h
  unfold kA at hC
  simp only at h hC
  unfold bn at hC
  repeat' first | refine st ?_ | (refine br ?_ ?_<;>intro hb) | fail
  apply nV
  ·(simp only [go_sem, *];try rfl)
  ·rfl
  ·(simp only [go_sem, *];try rfl)
  ·(simp only [go_sem, *];try rfl)
  ·rfl
  simp only [putA]
  repeat' first | refine st ?_ | (refine ca ?_;apply hC) | (refine br ?_ ?_<;>intro hb) | fail
  refine⟨_,_,_,ss,Kq w0 _ _ ?_⟩
  refine⟨[.str [],.bool false],by (simp only [go_sem, *,Tryz.results49];try rfl),fun _ _ _ e=>.inl e,ss, ?_⟩
  rw [bk]
  exact h
 | some s =>
  unfold FJ at h
  unfold kA at hC
  simp only at h hC
  repeat' first | refine st ?_ | (refine br ?_ ?_<;>intro hb) | fail
  apply nV
  ·(simp only [go_sem, *];try rfl)
  ·rfl
  ·(simp only [go_sem, *];try rfl)
  ·(simp only [go_sem, *];try rfl)
  ·rfl
  simp only [putA]
  repeat' first | refine st ?_ | (refine ca ?_;apply hC) | (refine br ?_ ?_<;>intro hb) | fail
  refine⟨_,_,_,ss,Kr w0 _ _ ?_⟩
  refine⟨[.str s,.bool true],by (simp only [go_sem, *,Tryz.results49];try rfl),fun _ _ _ e=>.inl e,ss, ?_⟩
  rw [bk]
  exact h
theorem Bh (w0:World) (hT:Eg w0) (hD:wu w0) (hN:Al w0) (S:List ax) (a:Ac) (hs:a.text.length≤10000000) (R:Rt) (h:R (.ret (rk (dH a))) S):ao Tryz.prog w0 28 [a.av] S R:=by
 have hc:=fun S' i ha=>Bi w0 hT hD hN S' a i ha hs
 have hd:=fun S' i ha=>DB w0 S' i [.int .i64 a.kind,.int .i64 a.n,.int .i64 a.m,.int .i64 a.ck,.int .i64 a.cn,.str a.text] ha (dH a) (hc S' i ha)
 obtain⟨k,n,m,ck,cn,t⟩:=a
 unfold Ac.av
 simp only at hd ⊢
 clear hc hT hD hN hs
 generalize dH ⟨k,n,m,ck,cn,t⟩=o at hd h
 unfold FJ at hd
 unfold rk at h
 cases o with
 | none =>
  simp only at hd h
  refine eN Tryz.func28 rfl Tryz.ntmps28 fun hO=>?_
  repeat' first | refine st ?_ | (refine ca ?_;(apply hd;(· simp only [go_sem, *];try rfl))) | (refine br ?_ ?_<;>intro hb) | fail
  refine fR Tryz.results28 ?_
  exact h
 | some s =>
  simp only at hd h
  refine eN Tryz.func28 rfl Tryz.ntmps28 fun hO=>?_
  repeat' first | refine st ?_ | (refine ca ?_;(apply hd;(· simp only [go_sem, *];try rfl))) | (refine br ?_ ?_<;>intro hb) | fail
  refine fR Tryz.results28 ?_
  exact h
theorem A5 (w0:World) (hT:Eg w0) (hD:wu w0) (hN:Al w0):ld w0:=fun S a ha R h=>Bh w0 hT hD hN S a (by omega) R h
def Ek (s:List UInt8):Option Ac:=if fV s then some ⟨44,0,0,0,0,s⟩ else none
theorem wb (w0:World) (S:List ax) (s:List UInt8) (hs:s.length≤10000000) (R:Rt) (h:R (fX (Ek s)) S):ao Tryz.prog w0 203 [.str s] S R:=by
 refine Dz w0 S s hs R ?_
 unfold Ek at h
 cases hb:fV s with
 | true=>rw [hb] at h;exact h
 | false=>rw [hb] at h;exact h
theorem w9 {s k r:List UInt8} (h1:¬ 512<s.length) (h2:iB s=some (k,r)):ek s=if k=[48]∨k=[50] then Ek r else if k=[52] then EE r else if k=[53,50] then ED r else none:=by
 unfold ek
 rw [if_neg h1,h2]
 simp only
 unfold Ek EE ED
 rfl
theorem Bm (w0:World) (hS:z_ w0) (hG:Eh w0) (S:List ax) (s:List UInt8) (i:Nat) (ha:S[i]? = some (.cells [.str s])) (hs:s.length≤8192) (R:Rt) (h:R (fX (ek s)) S):ao Tryz.prog w0 134 [.own i 0] S R:=by
 have hm:=Dw w0
 unfold F5 at hm
 have hmT:=jF w0
 have hmF:=jG w0
 unfold bn at hmF
 have hal:=(ab.1 ha).1
 have ha1:∀ L:List ax,(S++L)[i]? = some (.cells [.str s]):=fun L=>by rw [ap hal];exact ha
 clear hal
 by_cases h5:512<s.length
 ·have d1:decide ((s.length:Int)≤512)=false:=by simp;omega
  have e:ek s=none:=by unfold ek;rw [if_pos h5]
  rw [e] at h
  unfold fX bn at h
  simp only at h
  clear h5 e hS hG hs hmT
  refine eN Tryz.func134 rfl Tryz.ntmps134 fun hO=>?_
  repeat' first | refine st ?_ | (refine ca ?_;apply hmF) | (refine br ?_ ?_<;>intro hb) | fail
  refine fP ?_
  exact h
 have d1:decide ((s.length:Int)≤512)=true:=by simp;omega
 have ht:=fun S'=>Dr w0 S' s (by omega)
 cases hq:iB s with
 | none =>
  have e:ek s=none:=by unfold ek;rw [if_neg h5,hq]
  rw [e] at h
  rw [hq] at ht
  unfold fX bn at h
  unfold qR bn at ht
  simp only at h ht
  clear h5 e hS hG hs hmF hq
  refine eN Tryz.func134 rfl Tryz.ntmps134 fun hO=>?_
  repeat' first | refine st ?_ | (refine ca ?_;first | apply ht | apply hmT) | (refine br ?_ ?_<;>intro hb) | fail
  refine fP ?_
  exact h
 | some q =>
 obtain⟨k,r⟩:=q
 obtain⟨hkl,hrl⟩:=rY hq
 rw [w9 h5 hq] at h
 rw [hq] at ht
 unfold qR at ht
 simp only at ht
 by_cases h0:k=[48]
 ·subst h0
  rw [if_pos (.inl rfl)] at h
  have hr:=fun S'=>wb w0 S' r (by omega)
  generalize Ek r=o at h hr
  clear h5 hq hS hG hs hkl hrl
  unfold fX at h hr
  cases o with
  | none =>
   unfold bn at h hr
   simp only at h hr
   refine eN Tryz.func134 rfl Tryz.ntmps134 fun hO=>?_
   repeat' first | refine st ?_ | (refine ca ?_;first | apply ht | apply hmT | apply hm | apply hr) | (refine br ?_ ?_<;>intro hb) | fail
   refine fP ?_
   exact h
  | some a =>
   obtain⟨ak,an,am,ac,ad,at'⟩:=a
   unfold Ac.av at h hr
   simp only at h hr
   refine eN Tryz.func134 rfl Tryz.ntmps134 fun hO=>?_
   repeat' first | refine st ?_ | (refine ca ?_;first | apply ht | apply hmT | apply hm | apply hr) | (refine br ?_ ?_<;>intro hb) | fail
   refine fR Tryz.results134 ?_
   exact h
 by_cases h2:k=[50]
 ·subst h2
  rw [if_pos (.inr rfl)] at h
  have hr:=fun S'=>wb w0 S' r (by omega)
  generalize Ek r=o at h hr
  clear h5 hq hS hG hs hkl hrl
  unfold fX at h hr
  cases o with
  | none =>
   unfold bn at h hr
   simp only at h hr
   refine eN Tryz.func134 rfl Tryz.ntmps134 fun hO=>?_
   repeat' first | refine st ?_ | (refine ca ?_;first | apply ht | apply hmT | apply hm | apply hr) | (refine br ?_ ?_<;>intro hb) | fail
   refine fP ?_
   exact h
  | some a =>
   obtain⟨ak,an,am,ac,ad,at'⟩:=a
   unfold Ac.av at h hr
   simp only at h hr
   refine eN Tryz.func134 rfl Tryz.ntmps134 fun hO=>?_
   repeat' first | refine st ?_ | (refine ca ?_;first | apply ht | apply hmT | apply hm | apply hr) | (refine br ?_ ?_<;>intro hb) | fail
   refine fR Tryz.results134 ?_
   exact h
 by_cases h4:k=[52]
 ·subst h4
  rw [if_neg (by decide),if_pos rfl] at h
  have hr:=fun S'=>Dy w0 hS hG S' r (by omega)
  generalize EE r=o at h hr
  clear h5 hq hS hG hs hkl hrl
  unfold fX at h hr
  cases o with
  | none =>
   unfold bn at h hr
   simp only at h hr
   refine eN Tryz.func134 rfl Tryz.ntmps134 fun hO=>?_
   repeat' first | refine st ?_ | (refine ca ?_;first | apply ht | apply hmT | apply hm | apply hr) | (refine br ?_ ?_<;>intro hb) | fail
   refine fP ?_
   exact h
  | some a =>
   obtain⟨ak,an,am,ac,ad,at'⟩:=a
   unfold Ac.av at h hr
   simp only at h hr
   refine eN Tryz.func134 rfl Tryz.ntmps134 fun hO=>?_
   repeat' first | refine st ?_ | (refine ca ?_;first | apply ht | apply hmT | apply hm | apply hr) | (refine br ?_ ?_<;>intro hb) | fail
   refine fR Tryz.results134 ?_
   exact h
 by_cases h52:k=[53,50]
 ·subst h52
  rw [if_neg (by decide),if_neg (by decide),if_pos rfl] at h
  have hr:=fun S'=>Dx w0 S' r (by omega)
  generalize ED r=o at h hr
  clear h5 hq hS hG hs hkl hrl
  unfold fX at h hr
  cases o with
  | none =>
   unfold bn at h hr
   simp only at h hr
   refine eN Tryz.func134 rfl Tryz.ntmps134 fun hO=>?_
   repeat' first | refine st ?_ | (refine ca ?_;first | apply ht | apply hmT | apply hm | apply hr) | (refine br ?_ ?_<;>intro hb) | fail
   refine fP ?_
   exact h
  | some a =>
   obtain⟨ak,an,am,ac,ad,at'⟩:=a
   unfold Ac.av at h hr
   simp only at h hr
   refine eN Tryz.func134 rfl Tryz.ntmps134 fun hO=>?_
   repeat' first | refine st ?_ | (refine ca ?_;first | apply ht | apply hmT | apply hm | apply hr) | (refine br ?_ ?_<;>intro hb) | fail
   refine fR Tryz.results134 ?_
   exact h
 ·rw [if_neg (by rintro(e | e)<;>contradiction),if_neg h4,if_neg h52] at h
  have b0:(k==[48])=false:=by simpa using h0
  have b2:(k==[50])=false:=by simpa using h2
  have b4:(k==[52])=false:=by simpa using h4
  have b5:(k==[53,50])=false:=by simpa using h52
  unfold fX bn at h
  simp only at h
  clear h0 h2 h4 h52 h5 hq hS hG hs hkl hrl
  refine eN Tryz.func134 rfl Tryz.ntmps134 fun hO=>?_
  repeat' first | refine st ?_ | (refine ca ?_;first | apply ht | apply hmT | apply hm | apply hmF) | (refine br ?_ ?_<;>intro hb) | fail
  refine fP ?_
  exact h
theorem Kt (w0:World) (S:List ax) (K:List ax→Prop) (h:K S):sk Tryz.prog w0 201 [] .inil S K:=by
 refine n8 (eg (eg (cW []) 1 .inil) 0 .inil) S Tryz.func201 (by decide +kernel) rfl rfl rfl rfl rfl (by decide) (by rw [Tryz.ntmps201];simp) (by rw [Tryz.ntmps201];decide) rfl ?_ ?_
 ·rfl
 ·rw [Tryz.ntmps201]
  repeat' first | refine st ?_ | (refine br ?_ ?_<;>intro hb) | fail
  exact⟨.inl rfl,ss,fun _ _ _ e=>.inl e,by rw [bk];exact h⟩
theorem Ks (w0:World) (S:List ax) (K:List ax→Prop) (h:K S):sk Tryz.prog w0 201 [] bn S K:=by
 refine n8 (eg (eg (cW []) 1 bn) 0 bn) S Tryz.func201 (by decide +kernel) rfl rfl rfl rfl rfl (by decide) (by rw [Tryz.ntmps201];simp) (by rw [Tryz.ntmps201];decide) rfl ?_ ?_
 ·rfl
 ·rw [Tryz.ntmps201]
  repeat' first | apply gp | apply eT | apply dU | apply eU | apply gq | apply cG | apply gu | apply cI | apply ct | apply dd | apply cH | apply cr | apply bU | apply gr | (apply bV;(· rfl)) | (apply da;simp only [bt]) | (apply dN;(· rfl);(· simp only [go_sem, *,bn];try rfl);(· rfl);simp only [putA]) | (apply eZ;simp only [putA]) | apply de | (apply dP;(· simp only [go_sem, *,bn];try rfl);(· rfl);(· simp only [go_sem, *,bn];try rfl)) | (apply dF;(iterate 2 (· simp only [go_sem, *,bn];try rfl));(· rfl);simp only [putA]) | (apply cq;(· simp only [go_sem, *,bn];try rfl);(· rfl);simp only [putA]) | (apply dQ;(· simp only [go_sem, *,bn];try rfl)) | (apply dS;(· simp only [go_sem, *,bn];try rfl)) | (apply db;(· rfl);(fail_if_success (focus (show _=some true;(· simp only [go_sem, *,bn];try rfl))));(· simp only [go_sem, *,bn];try rfl);all_goals (intro hb;try simp only [az,aG] at hb)) | (apply dR;(· simp only [go_sem, *,bn];try rfl);all_goals (intro hb;try simp only [az,aG] at hb)) | fail
  exact⟨.inl rfl,ss,fun _ _ _ e=>.inl e,by rw [bk];exact h⟩
theorem DC (w0:World) (S:List ax) (i:Nat) (cs:List AV) (ha:S[i]? = some (.cells cs)) (o:Option Ac) (hC:∀ S' (R:Rt),S'[i]? = some (.cells cs)→R (fX o) S'→ao Tryz.prog w0 134 [.own i 0] S' R) (R:Rt) (h:R (.ret (uT o)) S):ao Tryz.prog w0 133 [.fn (.func 134) [] [.own i 0]] S R:=by
 have hal:=(ab.1 ha).1
 have ha1:∀ L:List ax,(S++L)[i]? = some (.cells cs):=fun L=>by rw [ap hal];exact ha
 clear hal
 refine zB Tryz.func133 rfl (by decide +kernel) (by rw [Tryz.ntmps133];simp) (by rw [Tryz.ntmps133];decide) (fun hO=>?_);rw [Tryz.ntmps133]
 cases o with
 | none =>
  unfold uT zeroA Ac.av at h
  unfold fX bn at hC
  simp only at h hC
  repeat' first | refine st ?_ | (refine br ?_ ?_<;>intro hb) | fail
  apply nV
  ·(simp only [go_sem, *];try rfl)
  ·rfl
  ·(simp only [go_sem, *];try rfl)
  ·(simp only [go_sem, *];try rfl)
  ·rfl
  simp only [putA]
  repeat' first | refine st ?_ | (refine ca ?_;(apply hC;(· simp only [go_sem, *];try rfl))) | (refine br ?_ ?_<;>intro hb) | fail
  refine⟨_,_,_,ss,Ks w0 _ _ ?_⟩
  refine⟨[.agg [.int .i64 0,.int .i64 0,.int .i64 0,.int .i64 0,.int .i64 0,.str []],.bool false],by (simp only [go_sem, *,Tryz.results133];try rfl),f_ _ _,ss, ?_⟩
  rw [kU]
  exact h
 | some a =>
  obtain⟨k,n,m,ck,cn,t⟩:=a
  unfold uT Ac.av at h
  unfold fX Ac.av at hC
  simp only at h hC
  repeat' first | refine st ?_ | (refine br ?_ ?_<;>intro hb) | fail
  apply nV
  ·(simp only [go_sem, *];try rfl)
  ·rfl
  ·(simp only [go_sem, *];try rfl)
  ·(simp only [go_sem, *];try rfl)
  ·rfl
  simp only [putA]
  repeat' first | refine st ?_ | (refine ca ?_;(apply hC;(· simp only [go_sem, *];try rfl))) | (refine br ?_ ?_<;>intro hb) | fail
  refine⟨_,_,_,ss,Kt w0 _ _ ?_⟩
  refine⟨[.agg [.int .i64 k,.int .i64 n,.int .i64 m,.int .i64 ck,.int .i64 cn,.str t],.bool true],by (simp only [go_sem, *,Tryz.results133];try rfl),f_ _ _,ss, ?_⟩
  rw [kU]
  exact h
theorem A9 (w0:World) (hS:z_ w0) (hG:Eh w0):jP w0:=by
 intro S s hs R h
 have hc:=fun S' i R ha=>Bm w0 hS hG S' s i ha hs R
 have hd:=fun S' i ha=>DC w0 S' i [.str s] ha (ek s) (fun S2 R ha2 h2=>hc S2 i R ha2 h2)
 clear hc hS hG hs
 generalize ek s=o at hd h
 unfold uT at hd h
 cases o with
 | none =>
  unfold zeroA Ac.av at hd h
  simp only at hd h
  refine eN Tryz.func74 rfl Tryz.ntmps74 fun hO=>?_
  repeat' first | refine st ?_ | (refine ca ?_;(apply hd;(· simp only [go_sem, *];try rfl))) | (refine br ?_ ?_<;>intro hb) | fail
  refine fR Tryz.results74 ?_
  exact h
 | some a =>
  obtain⟨k,n,m,ck,cn,t⟩:=a
  unfold Ac.av at hd h
  simp only at hd h
  refine eN Tryz.func74 rfl Tryz.ntmps74 fun hO=>?_
  repeat' first | refine st ?_ | (refine ca ?_;(apply hd;(· simp only [go_sem, *];try rfl))) | (refine br ?_ ?_<;>intro hb) | fail
  refine fR Tryz.results74 ?_
  exact h
def pU (k:Int):Option (Sp × Sp):=(Bs.find? fun p=>k==p.1).map (·.2)
def gv (a:Ac):Bool :=
 if a.kind=1 then decide (0≤jA a.n)&&(a.m==0&&(eG a.ck a.cn&&a.text==[]))
 else if a.kind=39 then ta a
 else if a.kind=44∨a.kind=45∨a.kind=46 then (dH a).isSome
 else match pU a.kind with
  | some (x,y)=>x.ok a.n&&(y.ok a.m&&(eG a.ck a.cn&&a.text==[]))
  | none=>false
theorem uf (w0:World) (S:List ax) (k n m:Int) (R:Rt) (h:R (.ret (.agg [.int .i64 k,.int .i64 n,.int .i64 m,.int .i64 0,.int .i64 0,.str []])) S):ao Tryz.prog w0 26 [.int .i64 k,.int .i64 n,.int .i64 m] S R:=by
 refine eN Tryz.func26 rfl Tryz.ntmps26 fun hO=>?_
 repeat' first | refine st ?_ | (refine br ?_ ?_<;>intro hb) | fail
 refine fR Tryz.results26 ?_
 exact h
theorem o4 (k:Int):∀ l:List (Int × Sp × Sp),(l.map fun p=>((.int .i64 p.1:AV),(AV.agg [p.2.1.fv,p.2.2.fv]))).find? (fun e=>jb (.int .i64 k) e.1)=((l.find? fun p=>k==p.1).map fun p=>((.int .i64 p.1:AV),(AV.agg [p.2.1.fv,p.2.2.fv])))
 | []=>rfl
 | p::l=>by
  rw [aA,ji,ji,o4 k l]
  show (match k==p.1 with | true=>_ | false=>_)=_
  cases k==p.1<;>rfl
theorem Br {k:Int}{x y:Sp} (h:pU k=some (x,y)):∃ c d,y=.rng c d:=by
 unfold pU at h
 obtain⟨p,hp,e⟩:=aJ.1 h
 have hall:(Bs.all fun p=>match p.2.2 with | .rng _ _=>true | .zt=>false)=true:=by decide
 have:=aq.1 hall p (gw hp)
 rw [e] at this
 cases y with
 | rng c d=>exact⟨c,d,rfl⟩
 | zt=>cases this
theorem DP (k:Int):k=1∨k=39∨(k=44∨k=45∨k=46)∨((k==1)=false∧(k==39)=false∧(k==44)=false∧(k==45)=false∧(k==46)=false):=by
 simp only [beq_eq_false_iff_ne]
 omega
theorem xr {k:Int}{x y:Sp} (h:pU k=some (x,y)):∃ j:Int,xe.find? (fun e=>jb (.int .i64 k) e.1)=some (.int .i64 j,.agg [x.fv,y.fv]):=by
 unfold pU at h
 obtain⟨⟨j,x',y'⟩,hp,e⟩:=aJ.1 h
 cases e
 exact⟨j,by unfold xe;rw [o4,hp];rfl⟩
theorem xu {k:Int} (h:pU k=none):xe.find? (fun e=>jb (.int .i64 k) e.1)=none:=by
 unfold pU at h
 have:=Option.map_eq_none_iff.1 h
 unfold xe
 rw [o4,this];rfl
theorem Fs (n m ck cn:Int) (t:List UInt8):gv ⟨1,n,m,ck,cn,t⟩=(decide (0≤jA n)&&(m==0&&(eG ck cn&&t==[]))):=rfl
theorem Ed (n m ck cn:Int) (t:List UInt8):gv ⟨39,n,m,ck,cn,t⟩=ta ⟨39,n,m,ck,cn,t⟩:=rfl
theorem B9 {k:Int} (hk:k=44∨k=45∨k=46) (n m ck cn:Int) (t:List UInt8):gv ⟨k,n,m,ck,cn,t⟩=(dH ⟨k,n,m,ck,cn,t⟩).isSome:=by
 unfold gv
 rw [if_neg (by simp only;omega),if_neg (by simp only;omega),if_pos hk]
def y8 (k n m ck cn:Int) (t:List UInt8):Option (Sp × Sp)→Bool
 | some (x,y)=>x.ok n&&(y.ok m&&(eG ck cn&&t==[]))
 | none=>false
theorem B_ {k:Int} (c1:(k==1)=false) (c2:(k==39)=false) (c3:(k==44)=false) (c4:(k==45)=false) (c5:(k==46)=false) (n m ck cn:Int) (t:List UInt8):gv ⟨k,n,m,ck,cn,t⟩=y8 k n m ck cn t (pU k):=by
 simp only [beq_eq_false_iff_ne] at c1 c2 c3 c4 c5
 unfold gv
 rw [if_neg (by simp only;omega),if_neg (by simp only;omega),if_neg (by simp only;omega)]
 unfold y8
 cases pU k<;>rfl
theorem z8 (w0:World) (hM:jQ w0) (hW:jO w0) (hQ:ld w0) (S:List ax) (a:Ac) (hm:Em a.m) (ht:a.text.length≤10000) (R:Rt) (h:R (.ret (.int .i64 (if gv a then 0 else 200))) S):ao Tryz.prog w0 11 [a.av] S R:=by
 have hpen:=fun S'=>wT w0 S' a hm
 have hpr:=fun S'=>hQ S' a ht
 rw [w7] at hpr
 obtain⟨k,n,m,ck,cn,t⟩:=a
 have hwd:=fun S'=>JW w0 hM hW S' n
 have hac:=uf w0
 have hb0:∀ l:List UInt8,(l==l)=true:=by simp
 have hb1:∀ i:Int,(i==i)=true:=by simp
 simp only at hm ht
 rcases DP k with rfl | rfl | hk | ⟨c1,c2,c3,c4,c5⟩
 ·rw [Fs] at h
  have e0:decide (0≤jA n) = !decide (jA n<0):=by rw [dX];simp
  rw [e0] at h
  generalize jA n=w at h hwd
  unfold Ac.av
  simp only
  clear hpen hpr hQ hM hW hm ht e0
  cases hdw:decide (w<0)
  all_goals
   refine eN Tryz.func11 rfl Tryz.ntmps11 fun hO=>?_
   repeat' first | refine st ?_ | (refine ca ?_;first | apply hwd | apply hac) | (refine br ?_ ?_<;>intro hb) | refine sd ?_ | apply aB | (apply aL;(· decide +kernel)) | refine bd ?_ ?_ | (refine cd ?_;first | apply hwd | apply hac) | fail
   all_goals refine fR Tryz.results11 ?_
  all_goals
   refine(congrArg (fun z=>R (.ret (.int .i64 z)) S) (?_:_=_)).mpr h
   clear h hO hwd hac
   simp_all [eG]
 ·rw [Ed] at h
  generalize ta ⟨39,n,m,ck,cn,t⟩=b at h hpen
  unfold Ac.av at hpen ⊢
  simp only at hpen ⊢
  clear hwd hac hpr hQ hM hW hm ht
  cases b
  all_goals
   refine eN Tryz.func11 rfl Tryz.ntmps11 fun hO=>?_
   repeat' first | refine st ?_ | (refine ca ?_;apply hpen) | (refine br ?_ ?_<;>intro hb) | fail
   refine fR Tryz.results11 ?_
   exact h
 ·have hk1:(k==1)=false∧(k==39)=false:=by simp only [beq_eq_false_iff_ne];omega
  rw [B9 hk] at h
  unfold IR at hpr
  generalize dH ⟨k,n,m,ck,cn,t⟩=b at h hpr
  generalize IQ b=u at hpr
  unfold Ac.av at hpr ⊢
  simp only at hpr ⊢
  clear hwd hac hpen hQ hM hW hm ht
  obtain⟨k1,k2⟩:=hk1
  cases b
  all_goals
   simp only [Option.isSome_none,Option.isSome_some,bJ,if_true,if_false] at h hpr
   rcases hk with rfl | rfl | rfl
   all_goals
    clear k1 k2
    refine eN Tryz.func11 rfl Tryz.ntmps11 fun hO=>?_
    repeat' first | refine st ?_ | (refine ca ?_;apply hpr) | (refine br ?_ ?_<;>intro hb) | fail
    refine fR Tryz.results11 ?_
    exact h
 ·rw [B_ c1 c2 c3 c4 c5] at h
  have hnu:=zZ w0
  have h2:=Fu w0
  have h3:=KF w0
  clear hpen hpr hwd hac hQ hM hW hm ht
  unfold Ac.av
  simp only
  cases ho:pU k with
  | none =>
   have hf:=xu ho
   simp only [go_sem] at hf
   rw [ho] at h
   clear ho h2 h3
   refine eN Tryz.func11 rfl Tryz.ntmps11 fun hO=>?_
   repeat' first | refine st ?_ | (refine ca ?_;apply hnu) | (refine br ?_ ?_<;>intro hb) | refine sd ?_ | apply aB | (apply aL;(· decide +kernel)) | refine bd ?_ ?_ | (refine cd ?_;apply hnu) | fail
   all_goals refine fR Tryz.results11 ?_
   all_goals exact h
  | some q =>
   obtain⟨x,y⟩:=q
   obtain⟨j,hf⟩:=xr ho
   obtain⟨c,d,rfl⟩:=Br ho
   simp only [go_sem] at hf
   rw [ho] at h
   clear ho
   rw [show y8 k n m ck cn t (some (x,.rng c d))=(x.ok n&&((Sp.rng c d).ok m&&(eG ck cn&&t==[]))) from rfl] at h
   cases x with
   | rng a b =>
    simp only [Sp.fv] at hf
    generalize hu1:(Sp.rng a b).ok n=u1 at h
    generalize hu2:(Sp.rng c d).ok m=u2 at h
    have g1:=fun S'=>h2 S' a b n
    have g2:=fun S'=>h2 S' c d m
    rw [show (decide (a≤n)&&decide (n≤b))=u1 from hu1] at g1
    rw [show (decide (c≤m)&&decide (m≤d))=u2 from hu2] at g2
    clear hu1 hu2 h2 h3
    refine eN Tryz.func11 rfl Tryz.ntmps11 fun hO=>?_
    refine share ?K1 ?hK1 fun key1=>?main1
    case main1 =>
     repeat' ((fail_if_success (apply bW 4));first | refine st ?_ | (refine ca ?_;apply hnu) | (refine br ?_ ?_<;>intro hb) | refine sd ?_ | apply aB | (apply aL;(· decide +kernel)) | refine bd ?_ ?_ | (refine cd ?_;apply hnu) | fail)
     all_goals
      refine jV [1000000,1,3,4,5] ?_
      simp only [fH,go_sem]
      exact key1
    case hK1 =>
     rintro env ⟨e0,e1,e3,e4,e5⟩
     repeat' first | refine st ?_ | (refine ca ?_;first | apply g1 | apply g2) | (refine br ?_ ?_<;>intro hb) | fail
     all_goals refine fR Tryz.results11 ?_
     all_goals
      refine(congrArg (fun z=>R (.ret (.int .i64 z)) S) (?_:_=_)).mpr h
      clear h hO g1 g2 hf hnu e0 e1 e3 e4 e5
      simp_all [eG]
   | zt =>
    simp only [Sp.fv] at hf
    generalize hu1:Sp.zt.ok n=u1 at h
    generalize hu2:(Sp.rng c d).ok m=u2 at h
    have g1:=fun S'=>h3 S' n
    have g2:=fun S'=>h2 S' c d m
    rw [show (n==0||n==3)=u1 from hu1] at g1
    rw [show (decide (c≤m)&&decide (m≤d))=u2 from hu2] at g2
    clear hu1 hu2 h2 h3
    refine eN Tryz.func11 rfl Tryz.ntmps11 fun hO=>?_
    refine share ?K2 ?hK2 fun key1=>?main2
    case main2 =>
     repeat' ((fail_if_success (apply bW 4));first | refine st ?_ | (refine ca ?_;apply hnu) | (refine br ?_ ?_<;>intro hb) | refine sd ?_ | apply aB | (apply aL;(· decide +kernel)) | refine bd ?_ ?_ | (refine cd ?_;apply hnu) | fail)
     all_goals
      refine jV [1000000,1,3,4,5] ?_
      simp only [fH,go_sem]
      exact key1
    case hK2 =>
     rintro env ⟨e0,e1,e3,e4,e5⟩
     repeat' first | refine st ?_ | (refine ca ?_;first | apply g1 | apply g2) | (refine br ?_ ?_<;>intro hb) | fail
     all_goals refine fR Tryz.results11 ?_
     all_goals
      refine(congrArg (fun z=>R (.ret (.int .i64 z)) S) (?_:_=_)).mpr h
      clear h hO g1 g2 hf hnu e0 e1 e3 e4 e5
      simp_all [eG]
end Go.Proofs.YthdbijpefkapnaaGreatDoor
