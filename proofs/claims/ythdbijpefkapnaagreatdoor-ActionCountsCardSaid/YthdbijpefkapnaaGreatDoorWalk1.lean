/- YthdbijpefkapnaaGreatDoorWalk1. Texts of the proof of a law about texts: a layer of abstract values above the worlds, the types, the walks of the functions that the law reaches, the law and its card. Own work of an AI agent. -/
import Derived.Test.YthdbijpefkapnaaGreatDoorWalk0
import Derived.Test.YthdbijpefkapnaaGreatDoorCore3
set_option linter.all false
set_option maxHeartbeats 40000000
open And renaming intro → cD
open Bool renaming and_eq_true → aB, and_false → cH, and_true → dh, false_and → bX, false_or → kZ, not_eq_false' → aA, not_eq_true' → ax, not_false → cE, not_true → cC, true_and → cA
open Go.IntKind renaming i64 → ar, u8 → bo
open Go.IntWalk renaming i64_in → ay, u8_in → eo
open Go.Lib renaming hid → au
open Int renaming le_refl → EU
open List renaming append_assoc → ai, append_nil → aP, cons_append → al, drop_eq_nil_of_le → Cg, foldl_cons → h_, getElem?_append_left → aJ, getElem?_append_right → aM, getElem?_eq_getElem → aC, getElem?_eq_some_iff → aw, getElem?_map → aQ, length_append → ab, length_cons → ah, length_eq_zero_iff → ib, length_map → bB, map → bS, map_append → co, map_cons → aG, map_nil → aL, mem_append → dg, mem_cons → dj, mem_cons_self → dL, mem_map → aX, mem_of_getElem? → aI, mem_singleton → bC, nil_append → ap, take → qR, take_add_one → pI, take_length → bQ, take_of_length_le → dW, take_succ_cons → ae, take_zero → ao, toList_toArray → aU
open Nat renaming add_mul → eL, add_sub_cancel_left → Cn, div_div_eq_div_mul → nl, le_succ_of_le → tR, le_trans → fb, lt_or_ge → eI, mul_assoc → pL, mul_le_mul_right → cu, mul_right_comm → la, pow_le_pow_right → gx, reduceMul → Cd, zero_le → bI
open Option renaming toList_some → iJ
open UInt8 renaming ofNat → aN, toNat → aV
namespace Go.Proofs.YthdbijpefkapnaaGreatDoor
open Go Go.Fen
attribute [local irreducible] ba WP az dI ie cU aR cw
set_option maxRecDepth 8000
def kI (s:List Nat):List Nat × List Nat:=s.foldl (fun q b=>((eh q.1 b).1,q.2++(eh q.1 b).2)) ([],[])
theorem sC:∀ (s:List Nat) (q:List Nat × List Nat),(s.foldl (fun q b=>((eh q.1 b).1,q.2++(eh q.1 b).2)) q).2++hH (s.foldl (fun q b=>((eh q.1 b).1,q.2++(eh q.1 b).2)) q).1=q.2++lV q.1 s
 | [],q=>rfl
 | b::s,q=>by
  rw [h_,sC s]
  simp only [lV,ai]
theorem m_ (s:List Nat):Eo s=(kI s).2++hH (kI s).1:=by
 have:=sC s ([],[])
 rw [ap] at this
 exact this.symm
theorem oX {s:List Nat}{i b:Nat} (h:s[i]? = some b):kI (s.take (i+1))=((eh (kI (s.take i)).1 b).1,(kI (s.take i)).2++(eh (kI (s.take i)).1 b).2):=by
 unfold kI
 rw [pI,h]
 simp only [iJ,List.foldl_append,h_,List.foldl_nil]
theorem rQ {p:List Nat}{b:Nat} (hp:∀ x∈p,x<256) (hb:b<256):∀ x∈(eh p b).1,x<256:=by
 have ha:∀ x∈p++[b],x<256:=by
  intro x hx
  rcases dg.1 hx with hx | hx
  ·exact hp x hx
  ·rw [bC.1 hx];exact hb
 unfold eh
 split
 ·simp
 ·split
  ·exact ha
  ·split
   ·simp
   ·unfold g8
    split
    ·simp
    ·split
     ·intro x hx;rw [bC.1 hx];exact hb
     ·simp
theorem H7 (s:List Nat) (hs:∀ b∈s,b<256):∀ i,fM (kI (s.take i)).1=true∧∀ x∈(kI (s.take i)).1,x<256:=by
 intro i
 induction i with
 | zero=>exact⟨rfl,by simp [kI]⟩
 | succ i ih =>
  cases hx:s[i]? with
  | none =>
   rw [List.getElem?_eq_none_iff] at hx
   rw [dW (by omega)] at ih ⊢
   exact ih
  | some b =>
   rw [oX hx]
   exact⟨qy _ _,rQ ih.2 (hs b (aI hx))⟩
theorem Az {p:List Nat} (h:dD p=2):iY p<2097152:=by
 match p with
 | []=>decide
 | [a] =>
  obtain⟨h1,_⟩:=qJ h
  rcases dm a with⟨h2,hF,hL⟩ | ⟨h2,hF,hL⟩ | ⟨h2,h3,hF,hL⟩ | ⟨h2,h3,hF,hL⟩ | ⟨h2,h3,hF,hL⟩ | ⟨h2,h3,hF,hL⟩ | ⟨h2,h3,hF,hL⟩
  all_goals (rw [hL] at h1;simp at h1)
  simp [iY];omega
 | [a,b]=>simp [iY];omega
 | [a,b,c]=>simp [iY];omega
 | [a,b,c,d]=>simp [iY];omega
 | a::b::c::d::e::r =>
  obtain⟨h1,_⟩:=qJ h
  rcases dm a with⟨h2,hF,hL⟩ | ⟨h2,hF,hL⟩ | ⟨h2,h3,hF,hL⟩ | ⟨h2,h3,hF,hL⟩ | ⟨h2,h3,hF,hL⟩ | ⟨h2,h3,hF,hL⟩ | ⟨h2,h3,hF,hL⟩
  all_goals (rw [hL] at h1;simp at h1)
theorem wL (b:Nat):(∀ c∈(g8 b).2,c<2097152)∧(g8 b).2.length≤1:=by
 unfold g8
 split
 ·next h=>exact⟨by intro c hc;rw [bC.1 hc];exact Az h,by simp⟩
 ·split<;>simp
theorem kn (p:List Nat) (b:Nat):(∀ c∈(eh p b).2,c<2097152)∧(eh p b).2.length≤2:=by
 unfold eh
 split
 ·next h=>exact⟨by intro c hc;rw [bC.1 hc];exact Az h,by simp⟩
 ·split
  ·simp
  ·split
   ·simp
   ·have:=wL b
    refine⟨?_,by simp;omega⟩
    intro c hc
    rcases dj.1 hc with rfl | hc
    ·decide
    ·exact this.1 c hc
theorem qj:∀ (s p:List Nat),(∀ c∈lV p s,c<2097152)∧(lV p s).length≤2 * s.length+1
 | [],p=>by
  unfold lV hH
  split<;>simp
 | b::s,p=>by
  have h1:=kn p b
  have h2:=qj s (eh p b).1
  unfold lV
  refine⟨?_,by rw [ab,ah];omega⟩
  intro c hc
  rcases dg.1 hc with hc | hc
  ·exact h1.1 c hc
  ·exact h2.1 c hc
def eb (s:List UInt8):List Nat:=Eo (s.map aV)
theorem qk (s:List UInt8):(∀ c∈eb s,c<2097152)∧(eb s).length≤2 * s.length+1:=by
 have:=qj (s.map aV) []
 rw [bB] at this
 exact this
theorem CS (s:List Nat):∀ m i,i+m=s.length→∃ z,(kI s).2=(kI (s.take i)).2++z
 | 0,i,h=>⟨[],by rw [dW (by omega),aP]⟩
 | m+1,i,h=>by
  obtain⟨z,hz⟩:=CS s m (i+1) (by omega)
  have hx:s[i]? = some s[i]:=aC (by omega)
  rw [oX hx] at hz
  exact⟨(eh (kI (s.take i)).1 s[i]).2++z,by rw [hz,ai]⟩
theorem G3 {s:List UInt8}{i j c:Nat}{b:UInt8} (hx:s[i]? = some b) (hj:(eh (kI ((s.map aV).take i)).1 b.toNat).2[j]? = some c):(eb s)[(kI ((s.map aV).take i)).2.length+j]? = some c:=by
 have hi:=(aw.1 hx).1
 obtain⟨z,hz⟩:=CS (s.map aV) (s.length - (i+1)) (i+1) (by simp;omega)
 have rn:(s.map aV)[i]? = some b.toNat:=by rw [aQ,hx];rfl
 rw [oX rn] at hz
 have hjl:=(aw.1 hj).1
 unfold eb
 rw [m_,hz]
 simp only [ai]
 rw [aM (by omega),Cn,aJ hjl]
 exact hj
theorem Ep {s:List UInt8}{j c:Nat} (hj:(hH (kI (s.map aV)).1)[j]? = some c):(eb s)[(kI (s.map aV)).2.length+j]? = some c:=by
 unfold eb
 rw [m_,aM (by omega),Cn]
 exact hj
def Ik (s:List UInt8):AV:=.fn (.func 268) [] [.pro [.str s]]
theorem KZ (w0:World) (S:List aH) (s:List UInt8) (R:Rt) (h:R (.ret (Ik s)) S):az Tryz.prog w0 228 [.str s] S R:=by
 refine eN Tryz.func228 rfl Tryz.ntmps228 fun hO=>?_
 repeat' first | refine st ?_ | (refine br ?_ ?_<;>intro hb) | fail
 refine fR Tryz.results228 ?_
 exact h
theorem IR (w0:World) (s:List UInt8) (hs:s.length≤100000000) (a n:Nat) (ha:decide (a<n)=true) (I:Nat→List aH→Prop) (hI:∀ k S,I k S→S.length=n∧bP S)
  (hround:∀ k S c,I k S→(eb s)[k]? = some c→∀ (E:List aH) (R':ed→List aH→Prop),(∀ S2 E2,I (k+1) S2→R' (.ret (.bool true)) (S2++(E++E2)))→YA Tryz.prog w0 a [.int .i64 c] (S++E) R')
  (S:List aH) (h0:I 0 S) (R:Rt) (h:∀ S',I (eb s).length S'→R (.ret (.tup [])) S') :
  az Tryz.prog w0 268 [.yld a,.pro [.str s]] S R:=by
 have hn:=(hI _ _ h0).1
 refine eN Tryz.func268 rfl Tryz.ntmps268 fun hO=>?_
 repeat' first | refine st ?_ | (refine br ?_ ?_<;>intro hb) | fail
 have hall:∀ b∈s.map aV,b<256:=by
  intro b hb
  obtain⟨x,_,rfl⟩:=aX.1 hb
  exact x.toNat_lt
 have hst:=H7 (s.map aV) hall
 refine dX (fun (p:Nat × AV) env S'=>p.1≤s.length∧(p.2=.snil∧(kI ((s.map aV).take p.1)).1=[]∨p.2=.sval false ((kI ((s.map aV).take p.1)).1.map By))∧env 1000000=.dfr []∧env 0=.yld a∧env 1=.pro [.str s]∧env 3=p.2∧env 12=.int .i64 s.length∧env 13=.int .i64 (p.1:Int)∧I (kI ((s.map aV).take p.1)).2.length S') (fun p=>s.length - p.1) (0,.snil) ?_ ?_
 ·exact⟨bI _,.inl ⟨rfl,rfl⟩,ss,ss,ss,ss,ss,ss,h0⟩
 ·rintro⟨i,pv⟩ env S' ⟨hi,hpv,e0,ey,e1,e3,e12,e13,hIi⟩ IH
  have HI:=au IH
  have HIi:=au hIi
  have Hn:=au hn
  have Hr:=au hround
  have HJ:=au hI
  have H:=au h
  have Hst:=au hst
  clear IH hIi hn hround hI h hst hall h0
  simp only at hi e13 e3 hpv
  by_cases hlt:i<s.length
  ·obtain⟨b,hx⟩:∃ b,s[i]? = some b:=⟨_,aC hlt⟩
   have h1:decide ((i:Int)<(s.length:Int))=true:=by simpa using hlt
   have hw:ar.wrap ((i:Int)+1)=(i:Int)+1:=ay _ (by omega)
   have rn:(s.map aV)[i]? = some b.toNat:=by rw [aQ,hx];rfl
   have hsu:=oX rn
   have hca:=fun j c=>G3 (j:=j) (c:=c) hx
   have hstep:=fun S'=>H0 w0 S' (kI ((s.map aV).take i)).1 b.toNat b.toNat_lt (Hst.out i).1 (Hst.out i).2
   have hq2:=(kn (kI ((s.map aV).take i)).1 b.toNat).2
   obtain⟨q,hq⟩:∃ q,eh (kI ((s.map aV).take i)).1 b.toNat=q:=⟨_,rfl⟩
   obtain⟨D,hD⟩:∃ D,(kI ((s.map aV).take i)).2=D:=⟨_,rfl⟩
   obtain⟨X,hX⟩:∃ X,(kI ((s.map aV).take i)).1=X:=⟨_,rfl⟩
   rw [hq,hX] at hstep
   rw [hq] at hca hsu hq2
   rw [hD] at hca hsu
   rw [hX] at hpv
   obtain⟨q1,q2⟩:=q
   unfold iL at hstep
   simp only at hstep hca hsu hq2
   have HIi2:=au (show I D.length S' from hD▸HIi.out)
   have Hca:=au hca
   have Hsu:=au hsu
   have Hlt:=au hlt
   clear HIi Hst hca hsu hX hD hq rn hlt hi
   have Hstep:=au hstep
   clear hstep
   rcases hpv with⟨rfl,hX0⟩ | rfl
   all_goals
    try subst hX0
    repeat' first | refine st ?_ | (refine ca ?_;apply Hstep.out) | (refine br ?_ ?_<;>intro hb) | fail
    refine dX (fun (j:Nat) env' S2=>j≤q2.length∧env' 1000000=.dfr []∧env' 0=.yld a∧env' 1=.pro [.str s]∧env' 3=.sval false (q1.map By)∧env' 12=.int .i64 s.length∧env' 13=.int .i64 (i:Int)∧env' 25=.sval false (q2.map Co)∧env' 26=.int .i64 q2.length∧env' 27=.int .i64 (j:Int)∧I (D.length+j) S2) (fun j=>q2.length - j) 0 ?_ ?_
    ·exact⟨bI _,ss,ss,ss,ss,ss,ss,ss,ss,ss,HIi2.out⟩
    ·clear e0 ey e1 e3 e12 e13
     rintro j env2 S2 ⟨hj,f0,fy,f1,f3,f12,f13,f25,f26,f27,hIj⟩ JH
     have HH:=au JH
     have HIj:=au hIj
     clear JH hIj
     by_cases hjl:j<q2.length
     ·obtain⟨c,hc⟩:∃ c,q2[j]? = some c:=⟨_,aC hjl⟩
      have j1:decide ((j:Int)<(q2.length:Int))=true:=by simpa using hjl
      have hwj:ar.wrap ((j:Int)+1)=(j:Int)+1:=ay _ (by omega)
      have Hjl:=au hjl
      clear hjl hj hq2
      repeat' first | apply dM | apply cW | apply cj | apply cX | apply dN | apply bv | apply dQ | apply bx | apply bl | apply bF | apply bw | apply bj | apply aZ | apply dP | (apply a_;(· rfl)) | (apply bD;simp only [aU]) | (apply bZ;(· rfl);(· simp only [go_sem, *,Co];try rfl);(· rfl);simp only [putA]) | (apply cZ;simp only [putA]) | apply bG | (apply b_;(· simp only [go_sem, *,Co];try rfl);(· rfl);(· simp only [go_sem, *,Co];try rfl)) | (apply cF;(iterate 2 (· simp only [go_sem, *,Co];try rfl));(· rfl);simp only [putA]) | (apply bi;(· simp only [go_sem, *,Co];try rfl);(· rfl);simp only [putA]) | (apply ce;(· simp only [go_sem, *,Co];try rfl)) | (apply ci;(· simp only [go_sem, *,Co];try rfl)) | (apply bE;(· rfl);(fail_if_success (focus (show _=some true;(· simp only [go_sem, *,Co];try rfl))));(· simp only [go_sem, *,Co];try rfl);all_goals (intro hb;try simp only [ax,aA] at hb)) | (apply cg;(· simp only [go_sem, *,Co];try rfl);all_goals (intro hb;try simp only [ax,aA] at hb)) | fail
      apply nt
      ·(simp only [go_sem, *];try rfl)
      ·rfl
      ·(simp only [go_sem, *];try rfl)
      ·rfl
      ·(simp only [go_sem, *];try rfl)
      have hy:=Hr.out (D.length+j) S2 c HIj.out (Hca.out j c hc) []
      simp only [aP,ap] at hy
      refine hy _ ?_
      intro S3 E3 hI3
      have hO3:=HJ.out _ _ hI3
      simp only [aR,putA]
      repeat' first | refine st ?_ | (refine br ?_ ?_<;>intro hb) | fail
      refine d8 hO3.2 0 [0,1,3,12,13,25,26,27] (Hn.out.trans hO3.1.symm) ss ss ss ?_
      refine HH.out (j+1) _ _ (by have:=Hjl.out;omega) ⟨Hjl.out, ?_, ?_, ?_, ?_, ?_, ?_, ?_, ?_, ?_, ?_⟩
      ·(simp only [go_sem, *];try rfl)
      ·(simp only [go_sem, *];try rfl)
      ·(simp only [go_sem, *];try rfl)
      ·(simp only [go_sem, *];try rfl)
      ·(simp only [go_sem, *];try rfl)
      ·(simp only [go_sem, *];try rfl)
      ·(simp only [go_sem, *];try rfl)
      ·(simp only [go_sem, *];try rfl)
      ·(simp only [go_sem, *];try rfl)
      ·rw [show D.length+(j+1)=D.length+j+1 from rfl]
       simpa only [ao,aP] using hI3
     ·have j1:decide ((j:Int)<(q2.length:Int))=false:=by simpa using hjl
      have hje:j=q2.length:=by omega
      have Hje:=au hje
      clear hjl hj hje hq2
      repeat' first | refine st ?_ | (refine br ?_ ?_<;>intro hb) | fail
      refine HI.out (i+1,.sval false (q1.map By)) _ _ (by have:=Hlt.out;simp only;omega) ⟨Hlt.out,.inr (by simp only;rw [Hsu.out]), ?_, ?_, ?_, ?_, ?_, ?_, ?_⟩
      ·(simp only [go_sem, *];try rfl)
      ·(simp only [go_sem, *];try rfl)
      ·(simp only [go_sem, *];try rfl)
      ·(simp only [go_sem, *];try rfl)
      ·(simp only [go_sem, *];try rfl)
      ·(simp only [go_sem, *];try rfl)
      ·simp only
       rw [Hsu.out,ab,← Hje.out]
       exact HIj.out
  ·have h1:decide ((i:Int)<(s.length:Int))=false:=by simpa using hlt
   have hie:i=s.length:=by omega
   have htk:(s.map aV).take i=s.map aV:=dW (by simp;omega)
   have hst1:=(Hst.out i).1
   have hIi3:=HIi.out
   rw [htk] at hpv hst1 hIi3
   have hfl:=fun S'=>IQ w0 S' (kI (s.map aV)).1 hst1
   have hce:=fun j c=>Ep (s:=s) (j:=j) (c:=c)
   have hcl:(eb s).length=(kI (s.map aV)).2.length+(hH (kI (s.map aV)).1).length:=by
    unfold eb
    rw [m_,ab]
   obtain⟨D,hD⟩:∃ D,(kI (s.map aV)).2=D:=⟨_,rfl⟩
   obtain⟨X,hX⟩:∃ X,(kI (s.map aV)).1=X:=⟨_,rfl⟩
   obtain⟨q2,hq2⟩:∃ q2,hH (kI (s.map aV)).1=q2:=⟨_,rfl⟩
   have hq2l:q2.length≤1:=by rw [← hq2];unfold hH;split<;>simp
   rw [hq2,hX] at hfl
   rw [hX] at hpv
   rw [hD,hq2] at hce hcl
   rw [hD] at hIi3
   have HIi2:=au hIi3
   have Hce:=au hce
   have Hcl:=au hcl
   have Hfl:=au hfl
   clear hIi3 HIi hce hcl hfl hst1 hD hX hq2 htk hie hlt hi Hst HI
   rcases hpv with⟨rfl,hX0⟩ | rfl
   all_goals
    try subst hX0
    repeat' first | refine st ?_ | (refine ca ?_;apply Hfl.out) | (refine br ?_ ?_<;>intro hb) | fail
    refine dX (fun (j:Nat) env' S2=>j≤q2.length∧env' 1000000=.dfr []∧env' 0=.yld a∧env' 38=.sval false (q2.map Co)∧env' 39=.int .i64 q2.length∧env' 40=.int .i64 (j:Int)∧I (D.length+j) S2) (fun j=>q2.length - j) 0 ?_ ?_
    ·exact⟨bI _,ss,ss,ss,ss,ss,HIi2.out⟩
    ·clear e0 ey e1 e3 e12 e13
     rintro j env2 S2 ⟨hj,f0,fy,f25,f26,f27,hIj⟩ JH
     have HH:=au JH
     have HIj:=au hIj
     clear JH hIj
     by_cases hjl:j<q2.length
     ·obtain⟨c,hc⟩:∃ c,q2[j]? = some c:=⟨_,aC hjl⟩
      have j1:decide ((j:Int)<(q2.length:Int))=true:=by simpa using hjl
      have hwj:ar.wrap ((j:Int)+1)=(j:Int)+1:=ay _ (by omega)
      have Hjl:=au hjl
      clear hjl hj hq2l
      repeat' first | apply dM | apply cW | apply cj | apply cX | apply dN | apply bv | apply dQ | apply bx | apply bl | apply bF | apply bw | apply bj | apply aZ | apply dP | (apply a_;(· rfl)) | (apply bD;simp only [aU]) | (apply bZ;(· rfl);(· simp only [go_sem, *,Co];try rfl);(· rfl);simp only [putA]) | (apply cZ;simp only [putA]) | apply bG | (apply b_;(· simp only [go_sem, *,Co];try rfl);(· rfl);(· simp only [go_sem, *,Co];try rfl)) | (apply cF;(iterate 2 (· simp only [go_sem, *,Co];try rfl));(· rfl);simp only [putA]) | (apply bi;(· simp only [go_sem, *,Co];try rfl);(· rfl);simp only [putA]) | (apply ce;(· simp only [go_sem, *,Co];try rfl)) | (apply ci;(· simp only [go_sem, *,Co];try rfl)) | (apply bE;(· rfl);(fail_if_success (focus (show _=some true;(· simp only [go_sem, *,Co];try rfl))));(· simp only [go_sem, *,Co];try rfl);all_goals (intro hb;try simp only [ax,aA] at hb)) | (apply cg;(· simp only [go_sem, *,Co];try rfl);all_goals (intro hb;try simp only [ax,aA] at hb)) | fail
      apply nt
      ·(simp only [go_sem, *];try rfl)
      ·rfl
      ·(simp only [go_sem, *];try rfl)
      ·rfl
      ·(simp only [go_sem, *];try rfl)
      have hy:=Hr.out (D.length+j) S2 c HIj.out (Hce.out j c hc) []
      simp only [aP,ap] at hy
      refine hy _ ?_
      intro S3 E3 hI3
      have hO3:=HJ.out _ _ hI3
      simp only [aR,putA]
      repeat' first | refine st ?_ | (refine br ?_ ?_<;>intro hb) | fail
      refine d8 hO3.2 0 [0,38,39,40] (Hn.out.trans hO3.1.symm) ss ss ss ?_
      refine HH.out (j+1) _ _ (by have:=Hjl.out;omega) ⟨Hjl.out, ?_, ?_, ?_, ?_, ?_, ?_⟩
      ·(simp only [go_sem, *];try rfl)
      ·(simp only [go_sem, *];try rfl)
      ·(simp only [go_sem, *];try rfl)
      ·(simp only [go_sem, *];try rfl)
      ·(simp only [go_sem, *];try rfl)
      ·rw [show D.length+(j+1)=D.length+j+1 from rfl]
       simpa only [ao,aP] using hI3
     ·have j1:decide ((j:Int)<(q2.length:Int))=false:=by simpa using hjl
      have hje:j=q2.length:=by omega
      have Hje:=au hje
      clear hjl hj hje hq2l
      repeat' first | refine st ?_ | (refine br ?_ ?_<;>intro hb) | fail
      have hO2:=HJ.out _ _ HIj.out
      apply Kv (S2:=S2) (L:=[])
      ·(simp only [go_sem, *];try rfl)
      ·(simp only [go_sem, *];try rfl)
      ·exact hO2.1.trans Hn.out.symm
      ·exact hO2.2
      ·(simp only [go_sem, *,Tryz.results268];try rfl)
      ·(simp only [go_sem, *];try rfl)
      ·(simp only [go_sem, *];try rfl)
      ·refine H.out _ ?_
       rw [Hcl.out,← Hje.out]
       exact HIj.out
theorem IU (w0:World) (S:List aH) (s:List UInt8) (hs:s.length≤100000000) (R:Rt) (h:R (.ret (.sval false ((eb s).map Co))) S):az Tryz.prog w0 186 [.str s] S R:=by
 have hlen:=(qk s).2
 refine eN Tryz.func186 rfl Tryz.ntmps186 fun hO=>?_
 repeat' first | refine st ?_ | (refine ca ?_;apply KZ) | (refine br ?_ ?_<;>intro hb) | fail
 refine lD (a:=S.length) (j:=0) 3 1 ss ss (by decide) ?_
 simp only [go_sem, *]
 apply rF [2]
 ·(simp only [go_sem, *,Ik];try rfl)
 ·(simp only [go_sem, *];try rfl)
 ·rfl
 ·(simp only [go_sem, *];try rfl)
 ·(simp only [go_sem, *];try rfl)
 intro LB hLB
 have hLB2:∀ m,LB.ltB (S.length+(1+m))=true:=by intro m;rw [hLB];(simp only [go_sem, *];try rfl);simp;omega
 have HLB:=au hLB
 clear hLB
 refine IR w0 s hs (S.length+3) (S.length+4) (by simp) (fun k S'=>S'=S++[aH.cells [AV.sown (S.length+1) k k],aH.arr 3 1 0 k (((eb s).take k).map Co),aH.obj (Obj.deferred (some [])),LB]) ?_ ?_ _ ?_ _ ?_
 ·rintro k _ rfl
  have h7:=hLB2 3
  clear h
  refine⟨by simp,bP.app hO ?_⟩
  (simp only [go_sem, *];try rfl)
 ·rintro k _ c rfl hx E R' hR1
  have hkl:k<(eb s).length:=(aw.1 hx).1
  have hlk:((eb s).take k).length=k:=by simp;omega
  have hb:(k+1) * 8≤140737488355328:=by omega
  have htk:(eb s).take (k+1)=(eb s).take k++[c]:=by rw [pI,hx];rfl
  clear h hkl hlen
  apply rD HLB.out
  ·(simp only [go_sem, *];try rfl)
  ·rfl
  ·decide
  ·rfl
  ·rfl
  ·(simp only [go_sem, *];try rfl)
  intro rb BB hBB
  have HBB:=au hBB
  clear hBB
  repeat' first | apply dM | apply cW | apply cj | apply cX | apply dN | apply bv | apply dQ | apply bx | apply bl | apply bF | apply bw | apply bj | apply aZ | apply dP | (apply a_;(· rfl)) | (apply bD;simp only [aU]) | (apply bZ;(· rfl);(· simp only [go_sem, *,Co];try rfl);(· rfl);simp only [putA]) | (apply cZ;simp only [putA]) | apply bG | (apply b_;(· simp only [go_sem, *,Co];try rfl);(· rfl);(· simp only [go_sem, *,Co];try rfl)) | (apply cF;(iterate 2 (· simp only [go_sem, *,Co];try rfl));(· rfl);simp only [putA]) | (apply bi;(· simp only [go_sem, *,Co];try rfl);(· rfl);simp only [putA]) | (apply ce;(· simp only [go_sem, *,Co];try rfl)) | (apply ci;(· simp only [go_sem, *,Co];try rfl)) | (apply bE;(· rfl);(fail_if_success (focus (show _=some true;(· simp only [go_sem, *,Co];try rfl))));(· simp only [go_sem, *,Co];try rfl);all_goals (intro hb;try simp only [ax,aA] at hb)) | (apply cg;(· simp only [go_sem, *,Co];try rfl);all_goals (intro hb;try simp only [ax,aA] at hb)) | fail
  apply rC
  ·(simp only [go_sem, *];try rfl)
  ·(simp only [go_sem, *];try rfl)
  have okC:=Co.ok ((eb s).take k)
  simp only [dz,AV.cells] at okC
  repeat' first | apply dM | apply cW | apply cj | apply cX | apply dN | apply bv | apply dQ | apply bx | apply bl | apply bF | apply bw | apply bj | apply aZ | apply dP | (apply a_;(· rfl)) | (apply bD;simp only [aU]) | (apply bZ;(· rfl);(· simp only [go_sem, *,bB];try rfl);(· rfl);simp only [putA]) | (apply cZ;simp only [putA]) | apply bG | (apply b_;(· simp only [go_sem, *,bB];try rfl);(· rfl);(· simp only [go_sem, *,bB];try rfl)) | (apply cF;(iterate 2 (· simp only [go_sem, *,bB];try rfl));(· rfl);simp only [putA]) | (apply bi;(· simp only [go_sem, *,bB];try rfl);(· rfl);simp only [putA]) | (apply ce;(· simp only [go_sem, *,bB];try rfl)) | (apply ci;(· simp only [go_sem, *,bB];try rfl)) | (apply bE;(· rfl);(fail_if_success (focus (show _=some true;(· simp only [go_sem, *,bB];try rfl))));(· simp only [go_sem, *,bB];try rfl);all_goals (intro hb;try simp only [ax,aA] at hb)) | (apply cg;(· simp only [go_sem, *,bB];try rfl);all_goals (intro hb;try simp only [ax,aA] at hb)) | fail
  apply Jd HLB.out HBB.out
  ·(simp only [go_sem, *];try rfl)
  ·(simp only [go_sem, *];try rfl)
  have key:=hR1 _ [aH.arr 3 1 0 0 [Co c]] rfl
  rw [htk,co] at key
  simpa only [ki,al,ap,Co,aG,aL] using key
 ·simp [ki]
 ·rintro _ rfl
  have htl:(eb s).take (eb s).length=eb s:=bQ
  rw [htl]
  clear hs hlen
  apply wd HLB.out rfl
  ·(simp only [go_sem, *];try rfl)
  ·(simp only [go_sem, *];try rfl)
  repeat' first | refine st ?_ | (refine br ?_ ?_<;>intro hb) | fail
  refine fR Tryz.results186 ?_
  exact h
theorem uq (b:Nat) (hb:b<256):(cQ b).1≤4∧(cQ b).2<256:=by
 unfold cQ
 repeat' split
 all_goals (refine⟨by simp, ?_⟩;simp only;omega)
theorem Jk (w0:World) (S:List aH) (b:Nat) (hb256:b<256) (R:Rt) (h:R (.ret (.tup [.int .i64 ((cQ b).1:Nat),.int .i64 ((cQ b).2:Nat)])) S):az Tryz.prog w0 235 [.int .u8 b] S R:=by
 have hw:ar.wrap (b:Int)=b:=ay _ (by omega)
 have w1:ar.wrap ((b:Int) - 192)=(b:Int) - 192:=ay _ (by omega)
 have w2:ar.wrap ((b:Int) - 224)=(b:Int) - 224:=ay _ (by omega)
 have w3:ar.wrap ((b:Int) - 240)=(b:Int) - 240:=ay _ (by omega)
 by_cases c1:b<128
 ·have d1:decide ((b:Int)<128)=true:=by simp;omega
  have e:cQ b=(1,b):=by unfold cQ;rw [if_pos c1]
  rw [e] at h
  clear e c1 w1 w2 w3 hb256
  refine eN Tryz.func235 rfl Tryz.ntmps235 fun hO=>?_
  repeat' first | refine st ?_ | (refine br ?_ ?_<;>intro hb) | fail
  refine fR Tryz.results235 ?_
  exact h
 have d1:decide ((b:Int)<128)=false:=by simp;omega
 by_cases c2:b<192
 ·have e:cQ b=(0,0):=by unfold cQ;rw [if_neg c1,if_pos c2]
  have d2:decide ((192:Int)≤(b:Int))=false:=by simp;omega
  have d3:decide ((224:Int)≤(b:Int))=false:=by simp;omega
  have d4:decide ((240:Int)≤(b:Int))=false:=by simp;omega
  rw [e] at h
  clear e c1 c2 w1 w2 w3 hb256
  refine eN Tryz.func235 rfl Tryz.ntmps235 fun hO=>?_
  repeat' first | refine st ?_ | (refine br ?_ ?_<;>intro hb) | fail
  refine fR Tryz.results235 ?_
  exact h
 have d2:decide ((192:Int)≤(b:Int))=true:=by simp;omega
 by_cases c3:b<224
 ·have e:cQ b=(2,b - 192):=by unfold cQ;rw [if_neg c1,if_neg c2,if_pos c3]
  have d3:decide ((b:Int)<224)=true:=by simp;omega
  rw [e] at h
  have h:R (.ret (.tup [.int .i64 2,.int .i64 ((b:Int) - 192)])) S:=by
   have e2:((b - 192:Nat):Int)=(b:Int) - 192:=by omega
   rw [← e2];exact h
  clear e c1 c2 c3 w2 w3 hb256
  refine eN Tryz.func235 rfl Tryz.ntmps235 fun hO=>?_
  repeat' first | refine st ?_ | (refine br ?_ ?_<;>intro hb) | fail
  refine fR Tryz.results235 ?_
  exact h
 have d3:decide ((b:Int)<224)=false:=by simp;omega
 have d3':decide ((224:Int)≤(b:Int))=true:=by simp;omega
 by_cases c4:b<240
 ·have e:cQ b=(3,b - 224):=by unfold cQ;rw [if_neg c1,if_neg c2,if_neg c3,if_pos c4]
  have d4:decide ((b:Int)<240)=true:=by simp;omega
  rw [e] at h
  have h:R (.ret (.tup [.int .i64 3,.int .i64 ((b:Int) - 224)])) S:=by
   have e2:((b - 224:Nat):Int)=(b:Int) - 224:=by omega
   rw [← e2];exact h
  clear e c1 c2 c3 c4 w1 w3 hb256
  refine eN Tryz.func235 rfl Tryz.ntmps235 fun hO=>?_
  repeat' first | refine st ?_ | (refine br ?_ ?_<;>intro hb) | fail
  refine fR Tryz.results235 ?_
  exact h
 have d4:decide ((b:Int)<240)=false:=by simp;omega
 have d4':decide ((240:Int)≤(b:Int))=true:=by simp;omega
 by_cases c5:b<248
 ·have e:cQ b=(4,b - 240):=by unfold cQ;rw [if_neg c1,if_neg c2,if_neg c3,if_neg c4,if_pos c5]
  have d5:decide ((b:Int)<248)=true:=by simp;omega
  rw [e] at h
  have h:R (.ret (.tup [.int .i64 4,.int .i64 ((b:Int) - 240)])) S:=by
   have e2:((b - 240:Nat):Int)=(b:Int) - 240:=by omega
   rw [← e2];exact h
  clear e c1 c2 c3 c4 c5 w1 w2 hb256
  refine eN Tryz.func235 rfl Tryz.ntmps235 fun hO=>?_
  repeat' first | refine st ?_ | (refine br ?_ ?_<;>intro hb) | fail
  refine fR Tryz.results235 ?_
  exact h
 ·have e:cQ b=(0,0):=by unfold cQ;rw [if_neg c1,if_neg c2,if_neg c3,if_neg c4,if_neg c5]
  have d5:decide ((b:Int)<248)=false:=by simp;omega
  rw [e] at h
  clear e c1 c2 c3 c4 c5 w1 w2 w3 hb256
  refine eN Tryz.func235 rfl Tryz.ntmps235 fun hO=>?_
  repeat' first | refine st ?_ | (refine br ?_ ?_<;>intro hb) | fail
  refine fR Tryz.results235 ?_
  exact h
def zU (q:Nat × Nat × Nat):AV:=.tup [.int .i64 q.1,.int .i64 q.2.1,.int .i64 q.2.2]
theorem H_ (w0:World) (S:List aH) (p:List Nat) (hp:∀ x∈p,x<256) (h4:p.length≤4) (R:Rt) (h:R (.ret (zU (gn p))) S):az Tryz.prog w0 196 [.sval false (p.map By)] S R:=by
 match p,hp,h4 with
 | [],_,_ =>
  have h:R (.ret (.tup [.int .i64 0,.int .i64 0,.int .i64 0])) S:=h
  simp only [aL]
  have e0:(((0:Nat):Int)==0)=true:=rfl
  refine eN Tryz.func196 rfl Tryz.ntmps196 fun hO=>?_
  repeat' first | refine st ?_ | (refine br ?_ ?_<;>intro hb) | fail
  refine fR Tryz.results196 ?_
  exact h
 | a::r,hp,h4 =>
  have hf:=fun S'=>Jk w0 S' a (hp a (dL ..))
  have hfl:=uq a (hp a (dL ..))
  have hspan:gn (a::r)=match eP ((cQ a).1 - 1) r (cQ a).2 (cQ a).2 with
   | none=>(0,0,0)
   | some (lo,hi)=>if (cQ a).1<r.length+1 then (0,0,0) else (lo,hi,(cQ a).1):=rfl
  generalize cQ a=q at hf hfl hspan
  obtain⟨n,f⟩:=q
  simp only at hf hfl hspan
  obtain⟨hn4,hf256⟩:=hfl
  have hl0:(((a::r).length:Int)==0)=false:=by
   rw [beq_eq_false_iff_ne,ah];omega
  have hlen:(a::r).length=r.length+1:=rfl
  have hg0:(a::r)[0]? = some a:=rfl
  have hgs:∀ i,(a::r)[i+1]? = r[i]?:=fun i=>List.getElem?_cons_succ
  obtain⟨P,hP⟩:∃ P,a::r=P:=⟨_,rfl⟩
  rw [hP] at hl0 hlen hg0 hgs hspan h hp ⊢
  have hrl:r.length≤3:=by simp at h4;omega
  clear hP h4
  have Hspan:=au hspan
  have Hp:=au hp
  have Hgs:=au hgs
  have Hlen:=au hlen
  clear hspan hp hgs hlen
  refine eN Tryz.func196 rfl Tryz.ntmps196 fun hO=>?_
  repeat' first | apply dM | apply cW | apply cj | apply cX | apply dN | apply bv | apply dQ | apply bx | apply bl | apply bF | apply bw | apply bj | apply aZ | apply dP | (apply a_;(· rfl)) | (apply bD;simp only [aU]) | (apply bZ;(· rfl);(· simp only [go_sem, *,By];try rfl);(· rfl);simp only [putA]) | (apply cZ;simp only [putA]) | apply bG | (apply cI [];(· simp only [go_sem, *,By];try rfl);(· rfl);(· simp only [go_sem, *,By];try rfl);(· rfl);(iterate 2 (· simp only [go_sem, *,By];try rfl));(first | apply hf);simp only [aR,putA]) | (apply b_;(· simp only [go_sem, *,By];try rfl);(· rfl);(· simp only [go_sem, *,By];try rfl)) | (apply cF;(iterate 2 (· simp only [go_sem, *,By];try rfl));(· rfl);simp only [putA]) | (apply bi;(· simp only [go_sem, *,By];try rfl);(· rfl);simp only [putA]) | (apply ce;(· simp only [go_sem, *,By];try rfl)) | (apply ci;(· simp only [go_sem, *,By];try rfl)) | (apply bE;(· rfl);(fail_if_success (focus (show _=some true;(· simp only [go_sem, *,By];try rfl))));(· simp only [go_sem, *,By];try rfl);all_goals (intro hb;try simp only [ax,aA] at hb)) | (apply cg;(· simp only [go_sem, *,By];try rfl);all_goals (intro hb;try simp only [ax,aA] at hb)) | fail
  refine dX (fun (i:Nat × Nat × Nat) env S'=>i.1≤3∧(i.1+1≤n∨i.1=0)∧i.2.1<256 * 64 ^ i.1∧i.2.2<256 * 64 ^ i.1∧eP (n - 1 - i.1) (r.drop i.1) i.2.1 i.2.2=eP (n - 1) r f f∧env 1000000=.dfr []∧env 0=.sval false (P.map By)∧env 5=.int .i64 (n:Nat)∧env 6=.int .i64 i.2.1∧env 7=.int .i64 i.2.2∧env 8=.int .i64 ((i.1:Int)+1)∧S'=S) (fun i=>4 - i.1) (0,f,f) ?_ ?_
  ·exact⟨bI _,.inr rfl,by simp only;omega,by simp only;omega,rfl,ss,ss,ss,ss,ss,ss,rfl⟩
  ·rintro⟨i,lo,hi⟩ env S' ⟨hi3,hin,hlo,hhi,hsp,e0,f0,e5,e6,e7,e8,rfl⟩ IH
   simp only at hi3 hin hlo hhi hsp e6 e7 e8
   have HI:=au IH
   have Hsp:=au hsp
   have H:=au h
   clear IH h hsp hf
   obtain⟨M,hM⟩:∃ M,64 ^ i=M:=⟨_,rfl⟩
   have hM3:M≤262144:=by rw [← hM];exact gx (by decide) hi3
   have hMs:64 ^ (i+1)=64 * M:=by rw [Nat.pow_succ,hM,Nat.mul_comm]
   rw [hM] at hlo hhi
   by_cases hlt:i+1<n
   ·have d0:decide ((i:Int)+1<(n:Int))=true:=by simp;omega
    have w1:ar.wrap ((lo:Int) * 64)=((lo * 64:Nat):Int):=by rw [ay _ (by omega)];omega
    have w2:ar.wrap ((hi:Int) * 64)=((hi * 64:Nat):Int):=by rw [ay _ (by omega)];omega
    have w3:ar.wrap (((hi * 64:Nat):Int)+63)=((hi * 64+63:Nat):Int):=by rw [ay _ (by omega)];omega
    have w4:ar.wrap ((i:Int)+1+1)=(i:Int)+1+1:=ay _ (by omega)
    have hst:n - 1 - i=(n - 1 - (i+1))+1:=by omega
    by_cases hin2:i<r.length
    ·obtain⟨b,hx⟩:∃ b,r[i]? = some b:=⟨_,aC hin2⟩
     have hPx:P[i+1]? = some b:=by rw [Hgs.out,hx]
     have hb:=Hp.out b (aI hPx)
     have d1:decide ((i:Int)+1<(P.length:Int))=true:=by rw [Hlen.out];simp;omega
     have hdr:r.drop i=b::r.drop (i+1):=by
      rw [List.drop_eq_getElem_cons hin2]
      have:=(aw.1 hx).2
      rw [this]
     have htn:((i:Int)+1).toNat=i+1:=by omega
     have hge:decide ((0:Int)≤(i:Int)+1)=true:=by simp;omega
     by_cases hbad:b<128∨191<b
     ·have hz:gn P=(0,0,0):=by
       rw [Hspan.out,← Hsp.out,hdr,hst,eP,if_pos hbad]
      have hh:=H.out
      rw [hz] at hh
      have hh:R (.ret (.tup [.int .i64 0,.int .i64 0,.int .i64 0])) S':=hh
      rcases eI b 128 with hb1 | hb1
      ·have d2:decide ((b:Int)<128)=true:=by simp;omega
       clear hM3 hMs hlo hhi hst hbad hz hdr hlt hin2 hi3 hin hb hb1 hrl hn4 hf256 hM hx
       repeat' first | apply dM | apply cW | apply cj | apply cX | apply dN | apply bv | apply dQ | apply bx | apply bl | apply bF | apply bw | apply bj | apply aZ | apply dP | (apply a_;(· rfl)) | (apply bD;simp only [aU]) | (apply bZ;(· rfl);(· simp only [go_sem, *,By];try rfl);(· rfl);simp only [putA]) | (apply cZ;simp only [putA]) | apply bG | (apply b_;(· simp only [go_sem, *,By];try rfl);(· rfl);(· simp only [go_sem, *,By];try rfl)) | (apply cF;(iterate 2 (· simp only [go_sem, *,By];try rfl));(· rfl);simp only [putA]) | (apply bi;(· simp only [go_sem, *,By];try rfl);(· rfl);simp only [putA]) | (apply ce;(· simp only [go_sem, *,By];try rfl)) | (apply ci;(· simp only [go_sem, *,By];try rfl)) | (apply bE;(· rfl);(fail_if_success (focus (show _=some true;(· simp only [go_sem, *,By];try rfl))));(· simp only [go_sem, *,By];try rfl);all_goals (intro hb;try simp only [ax,aA] at hb)) | (apply cg;(· simp only [go_sem, *,By];try rfl);all_goals (intro hb;try simp only [ax,aA] at hb)) | fail
       refine fR Tryz.results196 ?_
       exact hh
      ·have d2:decide ((b:Int)<128)=false:=by simp;omega
       have d3:decide ((191:Int)<(b:Int))=true:=by simp;omega
       clear hM3 hMs hlo hhi hst hbad hz hdr hlt hin2 hi3 hin hb hb1 hrl hn4 hf256 hM hx
       repeat' first | apply dM | apply cW | apply cj | apply cX | apply dN | apply bv | apply dQ | apply bx | apply bl | apply bF | apply bw | apply bj | apply aZ | apply dP | (apply a_;(· rfl)) | (apply bD;simp only [aU]) | (apply bZ;(· rfl);(· simp only [go_sem, *,By];try rfl);(· rfl);simp only [putA]) | (apply cZ;simp only [putA]) | apply bG | (apply b_;(· simp only [go_sem, *,By];try rfl);(· rfl);(· simp only [go_sem, *,By];try rfl)) | (apply cF;(iterate 2 (· simp only [go_sem, *,By];try rfl));(· rfl);simp only [putA]) | (apply bi;(· simp only [go_sem, *,By];try rfl);(· rfl);simp only [putA]) | (apply ce;(· simp only [go_sem, *,By];try rfl)) | (apply ci;(· simp only [go_sem, *,By];try rfl)) | (apply bE;(· rfl);(fail_if_success (focus (show _=some true;(· simp only [go_sem, *,By];try rfl))));(· simp only [go_sem, *,By];try rfl);all_goals (intro hb;try simp only [ax,aA] at hb)) | (apply cg;(· simp only [go_sem, *,By];try rfl);all_goals (intro hb;try simp only [ax,aA] at hb)) | fail
       refine fR Tryz.results196 ?_
       exact hh
     ·have d2:decide ((b:Int)<128)=false:=by simp;omega
      have d3:decide ((191:Int)<(b:Int))=false:=by simp;omega
      have hw:ar.wrap (b:Int)=b:=ay _ (by omega)
      have w5:ar.wrap ((b:Int) - 128)=((b - 128:Nat):Int):=by rw [ay _ (by omega)];omega
      have w6:ar.wrap (((lo * 64:Nat):Int)+((b - 128:Nat):Int))=((lo * 64+(b - 128):Nat):Int):=by rw [ay _ (by omega)];omega
      have w7:ar.wrap (((hi * 64+63:Nat):Int) - 63)=((hi * 64:Nat):Int):=by rw [ay _ (by omega)];omega
      have w8:ar.wrap (((hi * 64:Nat):Int)+((b - 128:Nat):Int))=((hi * 64+(b - 128):Nat):Int):=by rw [ay _ (by omega)];omega
      have hsp2:eP (n - 1 - (i+1)) (r.drop (i+1)) (lo * 64+(b - 128)) (hi * 64+(b - 128))=eP (n - 1) r f f:=by
       rw [← Hsp.out,hdr,hst,eP,if_neg hbad]
      have hq1:lo * 64+(b - 128)<256 * 64 ^ (i+1):=by rw [hMs];omega
      have hq2:hi * 64+(b - 128)<256 * 64 ^ (i+1):=by rw [hMs];omega
      have hi4:i+1≤3:=by omega
      have HF:=au (cD hsp2 (cD hq1 (cD hq2 (cD hi4 hlt))))
      clear hM3 hMs hlo hhi hst hbad hdr hlt hin2 hi3 hin hb hrl hn4 hf256 hM hx hsp2 hq1 hq2 hi4
      repeat' first | apply dM | apply cW | apply cj | apply cX | apply dN | apply bv | apply dQ | apply bx | apply bl | apply bF | apply bw | apply bj | apply aZ | apply dP | (apply a_;(· rfl)) | (apply bD;simp only [aU]) | (apply bZ;(· rfl);(· simp only [go_sem, *,By];try rfl);(· rfl);simp only [putA]) | (apply cZ;simp only [putA]) | apply bG | (apply b_;(· simp only [go_sem, *,By];try rfl);(· rfl);(· simp only [go_sem, *,By];try rfl)) | (apply cF;(iterate 2 (· simp only [go_sem, *,By];try rfl));(· rfl);simp only [putA]) | (apply bi;(· simp only [go_sem, *,By];try rfl);(· rfl);simp only [putA]) | (apply ce;(· simp only [go_sem, *,By];try rfl)) | (apply ci;(· simp only [go_sem, *,By];try rfl)) | (apply bE;(· rfl);(fail_if_success (focus (show _=some true;(· simp only [go_sem, *,By];try rfl))));(· simp only [go_sem, *,By];try rfl);all_goals (intro hb;try simp only [ax,aA] at hb)) | (apply cg;(· simp only [go_sem, *,By];try rfl);all_goals (intro hb;try simp only [ax,aA] at hb)) | fail
      obtain⟨hsp2,hq1,hq2,hi4,hlt⟩:=HF.out
      refine HI.out (i+1,lo * 64+(b - 128),hi * 64+(b - 128)) _ _ (by simp only;omega) ⟨hi4,.inl hlt,hq1,hq2,hsp2, ?_, ?_, ?_, ?_, ?_, ?_,rfl⟩
      all_goals (simp only [go_sem, *];try rfl)
    ·have d1:decide ((i:Int)+1<(P.length:Int))=false:=by rw [Hlen.out];simp;omega
     have hdr:r.drop i=[]:=Cg (by omega)
     have hsp2:eP (n - 1 - (i+1)) (r.drop (i+1)) (lo * 64) (hi * 64+63)=eP (n - 1) r f f:=by
      rw [← Hsp.out,hdr,hst,eP,Cg (by omega)]
     have hq1:lo * 64<256 * 64 ^ (i+1):=by rw [hMs];omega
     have hq2:hi * 64+63<256 * 64 ^ (i+1):=by rw [hMs];omega
     have hi4:i+1≤3:=by omega
     have HF:=au (cD hsp2 (cD hq1 (cD hq2 (cD hi4 hlt))))
     clear hM3 hMs hlo hhi hst hdr hlt hin2 hi3 hin hrl hn4 hf256 hM hsp2 hq1 hq2 hi4
     repeat' first | refine st ?_ | (refine br ?_ ?_<;>intro hb) | fail
     obtain⟨hsp2,hq1,hq2,hi4,hlt⟩:=HF.out
     refine HI.out (i+1,lo * 64,hi * 64+63) _ _ (by simp only;omega) ⟨hi4,.inl hlt,hq1,hq2,hsp2, ?_, ?_, ?_, ?_, ?_, ?_,rfl⟩
     all_goals (simp only [go_sem, *];try rfl)
   ·have d0:decide ((i:Int)+1<(n:Int))=false:=by simp;omega
    have hsp3:eP (n - 1) r f f=some (lo,hi):=by
     rw [← Hsp.out,show n - 1 - i=0 by omega,eP]
    have hh:=H.out
    rw [Hspan.out,hsp3] at hh
    simp only at hh
    by_cases hnl:n<r.length+1
    ·rw [if_pos hnl] at hh
     have hh:R (.ret (.tup [.int .i64 0,.int .i64 0,.int .i64 0])) S':=hh
     have d1:decide ((n:Int)<(P.length:Int))=true:=by rw [Hlen.out];simp;omega
     clear hM3 hMs hlo hhi hlt hi3 hin hrl hn4 hf256 hM hsp3 hnl
     repeat' first | refine st ?_ | (refine br ?_ ?_<;>intro hb) | fail
     refine fR Tryz.results196 ?_
     exact hh
    ·rw [if_neg hnl] at hh
     unfold zU at hh
     simp only at hh
     have d1:decide ((n:Int)<(P.length:Int))=false:=by rw [Hlen.out];simp;omega
     clear hM3 hMs hlo hhi hlt hi3 hin hrl hn4 hf256 hM hsp3 hnl
     repeat' first | refine st ?_ | (refine br ?_ ?_<;>intro hb) | fail
     refine fR Tryz.results196 ?_
     exact hh
theorem rT:∀ (n:Nat) (r:List Nat) (lo hi:Nat) (q:Nat × Nat),eP n r lo hi=some q→q.1≤(lo+1) * 64 ^ n∧q.2+1≤(hi+1) * 64 ^ n
 | 0,r,lo,hi,q,h=>by
  rw [eP] at h;cases h;simp
 | n+1,[],lo,hi,q,h=>by
  rw [eP] at h
  have:=rT n [] _ _ q h
  rw [Nat.pow_succ,← pL,← pL]
  have e1:(lo+1) * 64 ^ n * 64=(lo * 64+64) * 64 ^ n:=by rw [la,eL]
  have e2:(hi+1) * 64 ^ n * 64=(hi * 64+63+1) * 64 ^ n:=by rw [la,eL]
  rw [e1,e2]
  refine⟨fb this.1 (cu _ (by omega)),this.2⟩
 | n+1,b::r,lo,hi,q,h=>by
  rw [eP] at h
  split at h
  ·cases h
  ·have:=rT n r _ _ q h
   rw [Nat.pow_succ,← pL,← pL]
   have e1:(lo+1) * 64 ^ n * 64=(lo * 64+64) * 64 ^ n:=by rw [la,eL]
   have e2:(hi+1) * 64 ^ n * 64=(hi * 64+64) * 64 ^ n:=by rw [la,eL]
   rw [e1,e2]
   refine⟨fb this.1 (cu _ (by omega)),fb this.2 (cu _ (by omega))⟩
theorem CU (p:List Nat) (hp:∀ x∈p,x<256):(gn p).1≤134217728∧(gn p).2.1≤134217728∧(gn p).2.2≤4:=by
 cases p with
 | nil=>simp [gn]
 | cons a r =>
  have hf:=uq a (hp a (dL ..))
  rw [gn]
  cases hs:eP ((cQ a).1 - 1) r (cQ a).2 (cQ a).2 with
  | none=>simp
  | some q =>
   have:=rT _ _ _ _ _ hs
   obtain⟨lo,hi⟩:=q
   simp only at this ⊢
   have h3:64 ^ ((cQ a).1 - 1)≤262144:=gx (by decide:64>0) (show (cQ a).1 - 1≤3 by omega)
   have h4:((cQ a).2+1) * 64 ^ ((cQ a).1 - 1)≤257 * 262144:=Nat.mul_le_mul (by omega) h3
   split
   ·simp
   ·simp only;omega
theorem Ic (w0:World) (S:List aH) (p:List Nat) (hp:∀ x∈p,x<256) (h4:p.length≤4) (R:Rt) (h:R (.ret (.tup [.bool (kx p).1,.bool (kx p).2])) S):az Tryz.prog w0 118 [.sval false (p.map By)] S R:=by
 have hs:=fun S'=>H_ w0 S' p hp h4
 have hle:=CU p hp
 unfold zU at hs
 unfold kx at h
 simp only at h
 generalize gn p=q at hs hle h
 obtain⟨lo,hi,n⟩:=q
 simp only at hs hle h
 obtain⟨l1,l2,l3⟩:=hle
 have hn:n=0∨n=1∨n=2∨n=3∨n=4:=by omega
 clear hp h4 l1 l2 l3
 rcases hn with rfl | rfl | rfl | rfl | rfl
 ·have h:R (.ret (.tup [.bool false,.bool false])) S:=h
  have e0:(((0:Nat):Int)==0)=true:=rfl
  refine eN Tryz.func118 rfl Tryz.ntmps118 fun hO=>?_
  repeat' first | refine st ?_ | (refine ca ?_;apply hs) | (refine br ?_ ?_<;>intro hb) | fail
  refine fR Tryz.results118 ?_
  exact h
 all_goals
  rw [if_neg (by decide)] at h
  simp only [p8,uf] at h
 ·have e0:(((1:Nat):Int)==0)=false:=rfl
  obtain⟨L,hL⟩:∃ L,max lo 0=L:=⟨_,rfl⟩
  obtain⟨M,hM⟩:∃ M,min hi 127=M:=⟨_,rfl⟩
  rw [hL,hM] at h
  have m1:(if (0:Int)>(lo:Int) then (0:Int) else (lo:Int))=(L:Int):=by rw [← hL];split<;>omega
  have m2:(if (127:Int)<(hi:Int) then (127:Int) else (hi:Int))=(M:Int):=by rw [← hM];split<;>omega
  replace hM:M≤127:=by omega
  clear hL
  by_cases c1:L≤M
  ·have d1:decide ((L:Int)≤(M:Int))=true:=by simp;omega
   by_cases c2:55296≤L
   ·exact absurd c1 (by omega)
   ·have d2:decide ((55296:Int)≤(L:Int))=false:=by simp;omega
    by_cases c4:p.length=1
    ·have d4:((p.length:Int)==((1:Nat):Int))=true:=by rw [beq_iff_eq];omega
     simp only [decide_eq_true c1,decide_eq_false c2,decide_eq_true c4,cA,bX,dh,cC,cE,cH] at h
     clear hM c1 c2 c4
     refine eN Tryz.func118 rfl Tryz.ntmps118 fun hO=>?_
     repeat' first | refine st ?_ | (refine ca ?_;apply hs) | (refine br ?_ ?_<;>intro hb) | refine sd ?_ | apply aE | (apply aO;(· decide +kernel)) | refine bd ?_ ?_ | (refine cd ?_;apply hs) | fail
     refine fR Tryz.results118 ?_
     exact h
    ·have d4:((p.length:Int)==((1:Nat):Int))=false:=by rw [beq_eq_false_iff_ne];omega
     simp only [decide_eq_true c1,decide_eq_false c2,decide_eq_false c4,cA,bX,dh,cC,cE,cH] at h
     clear hM c1 c2 c4
     refine eN Tryz.func118 rfl Tryz.ntmps118 fun hO=>?_
     repeat' first | refine st ?_ | (refine ca ?_;apply hs) | (refine br ?_ ?_<;>intro hb) | refine sd ?_ | apply aE | (apply aO;(· decide +kernel)) | refine bd ?_ ?_ | (refine cd ?_;apply hs) | fail
     refine fR Tryz.results118 ?_
     exact h
  ·have d1:decide ((L:Int)≤(M:Int))=false:=by simp;omega
   simp only [decide_eq_false c1,cA,bX,dh,cC,cE,cH] at h
   clear hM c1
   refine eN Tryz.func118 rfl Tryz.ntmps118 fun hO=>?_
   repeat' first | refine st ?_ | (refine ca ?_;apply hs) | (refine br ?_ ?_<;>intro hb) | refine sd ?_ | apply aE | (apply aO;(· decide +kernel)) | refine bd ?_ ?_ | (refine cd ?_;apply hs) | fail
   refine fR Tryz.results118 ?_
   exact h
 ·have e0:(((2:Nat):Int)==0)=false:=rfl
  obtain⟨L,hL⟩:∃ L,max lo 128=L:=⟨_,rfl⟩
  obtain⟨M,hM⟩:∃ M,min hi 2047=M:=⟨_,rfl⟩
  rw [hL,hM] at h
  have m1:(if (128:Int)>(lo:Int) then (128:Int) else (lo:Int))=(L:Int):=by rw [← hL];split<;>omega
  have m2:(if (2047:Int)<(hi:Int) then (2047:Int) else (hi:Int))=(M:Int):=by rw [← hM];split<;>omega
  replace hM:M≤2047:=by omega
  clear hL
  by_cases c1:L≤M
  ·have d1:decide ((L:Int)≤(M:Int))=true:=by simp;omega
   by_cases c2:55296≤L
   ·exact absurd c1 (by omega)
   ·have d2:decide ((55296:Int)≤(L:Int))=false:=by simp;omega
    by_cases c4:p.length=2
    ·have d4:((p.length:Int)==((2:Nat):Int))=true:=by rw [beq_iff_eq];omega
     simp only [decide_eq_true c1,decide_eq_false c2,decide_eq_true c4,cA,bX,dh,cC,cE,cH] at h
     clear hM c1 c2 c4
     refine eN Tryz.func118 rfl Tryz.ntmps118 fun hO=>?_
     repeat' first | refine st ?_ | (refine ca ?_;apply hs) | (refine br ?_ ?_<;>intro hb) | refine sd ?_ | apply aE | (apply aO;(· decide +kernel)) | refine bd ?_ ?_ | (refine cd ?_;apply hs) | fail
     refine fR Tryz.results118 ?_
     exact h
    ·have d4:((p.length:Int)==((2:Nat):Int))=false:=by rw [beq_eq_false_iff_ne];omega
     simp only [decide_eq_true c1,decide_eq_false c2,decide_eq_false c4,cA,bX,dh,cC,cE,cH] at h
     clear hM c1 c2 c4
     refine eN Tryz.func118 rfl Tryz.ntmps118 fun hO=>?_
     repeat' first | refine st ?_ | (refine ca ?_;apply hs) | (refine br ?_ ?_<;>intro hb) | refine sd ?_ | apply aE | (apply aO;(· decide +kernel)) | refine bd ?_ ?_ | (refine cd ?_;apply hs) | fail
     refine fR Tryz.results118 ?_
     exact h
  ·have d1:decide ((L:Int)≤(M:Int))=false:=by simp;omega
   simp only [decide_eq_false c1,cA,bX,dh,cC,cE,cH] at h
   clear hM c1
   refine eN Tryz.func118 rfl Tryz.ntmps118 fun hO=>?_
   repeat' first | refine st ?_ | (refine ca ?_;apply hs) | (refine br ?_ ?_<;>intro hb) | refine sd ?_ | apply aE | (apply aO;(· decide +kernel)) | refine bd ?_ ?_ | (refine cd ?_;apply hs) | fail
   refine fR Tryz.results118 ?_
   exact h
 ·have e0:(((3:Nat):Int)==0)=false:=rfl
  obtain⟨L,hL⟩:∃ L,max lo 2048=L:=⟨_,rfl⟩
  obtain⟨M,hM⟩:∃ M,min hi 65535=M:=⟨_,rfl⟩
  rw [hL,hM] at h
  have m1:(if (2048:Int)>(lo:Int) then (2048:Int) else (lo:Int))=(L:Int):=by rw [← hL];split<;>omega
  have m2:(if (65535:Int)<(hi:Int) then (65535:Int) else (hi:Int))=(M:Int):=by rw [← hM];split<;>omega
  replace hM:M≤65535:=by omega
  clear hL
  by_cases c1:L≤M
  ·have d1:decide ((L:Int)≤(M:Int))=true:=by simp;omega
   by_cases c2:55296≤L
   ·have d2:decide ((55296:Int)≤(L:Int))=true:=by simp;omega
    by_cases c3:M≤57343
    ·have d3:decide ((M:Int)≤57343)=true:=by simp;omega
     simp only [decide_eq_true c1,decide_eq_true c2,decide_eq_true c3,cA,bX,dh,cC,cE,cH] at h
     clear hM c1 c2 c3
     refine eN Tryz.func118 rfl Tryz.ntmps118 fun hO=>?_
     repeat' first | refine st ?_ | (refine ca ?_;apply hs) | (refine br ?_ ?_<;>intro hb) | refine sd ?_ | apply aE | (apply aO;(· decide +kernel)) | refine bd ?_ ?_ | (refine cd ?_;apply hs) | fail
     refine fR Tryz.results118 ?_
     exact h
    ·have d3:decide ((M:Int)≤57343)=false:=by simp;omega
     by_cases c4:p.length=3
     ·have d4:((p.length:Int)==((3:Nat):Int))=true:=by rw [beq_iff_eq];omega
      simp only [decide_eq_true c1,decide_eq_true c2,decide_eq_false c3,decide_eq_true c4,cA,bX,dh,cC,cE,cH] at h
      clear hM c1 c2 c3 c4
      refine eN Tryz.func118 rfl Tryz.ntmps118 fun hO=>?_
      repeat' first | refine st ?_ | (refine ca ?_;apply hs) | (refine br ?_ ?_<;>intro hb) | refine sd ?_ | apply aE | (apply aO;(· decide +kernel)) | refine bd ?_ ?_ | (refine cd ?_;apply hs) | fail
      refine fR Tryz.results118 ?_
      exact h
     ·have d4:((p.length:Int)==((3:Nat):Int))=false:=by rw [beq_eq_false_iff_ne];omega
      simp only [decide_eq_true c1,decide_eq_true c2,decide_eq_false c3,decide_eq_false c4,cA,bX,dh,cC,cE,cH] at h
      clear hM c1 c2 c3 c4
      refine eN Tryz.func118 rfl Tryz.ntmps118 fun hO=>?_
      repeat' first | refine st ?_ | (refine ca ?_;apply hs) | (refine br ?_ ?_<;>intro hb) | refine sd ?_ | apply aE | (apply aO;(· decide +kernel)) | refine bd ?_ ?_ | (refine cd ?_;apply hs) | fail
      refine fR Tryz.results118 ?_
      exact h
   ·have d2:decide ((55296:Int)≤(L:Int))=false:=by simp;omega
    by_cases c4:p.length=3
    ·have d4:((p.length:Int)==((3:Nat):Int))=true:=by rw [beq_iff_eq];omega
     simp only [decide_eq_true c1,decide_eq_false c2,decide_eq_true c4,cA,bX,dh,cC,cE,cH] at h
     clear hM c1 c2 c4
     refine eN Tryz.func118 rfl Tryz.ntmps118 fun hO=>?_
     repeat' first | refine st ?_ | (refine ca ?_;apply hs) | (refine br ?_ ?_<;>intro hb) | refine sd ?_ | apply aE | (apply aO;(· decide +kernel)) | refine bd ?_ ?_ | (refine cd ?_;apply hs) | fail
     refine fR Tryz.results118 ?_
     exact h
    ·have d4:((p.length:Int)==((3:Nat):Int))=false:=by rw [beq_eq_false_iff_ne];omega
     simp only [decide_eq_true c1,decide_eq_false c2,decide_eq_false c4,cA,bX,dh,cC,cE,cH] at h
     clear hM c1 c2 c4
     refine eN Tryz.func118 rfl Tryz.ntmps118 fun hO=>?_
     repeat' first | refine st ?_ | (refine ca ?_;apply hs) | (refine br ?_ ?_<;>intro hb) | refine sd ?_ | apply aE | (apply aO;(· decide +kernel)) | refine bd ?_ ?_ | (refine cd ?_;apply hs) | fail
     refine fR Tryz.results118 ?_
     exact h
  ·have d1:decide ((L:Int)≤(M:Int))=false:=by simp;omega
   simp only [decide_eq_false c1,cA,bX,dh,cC,cE,cH] at h
   clear hM c1
   refine eN Tryz.func118 rfl Tryz.ntmps118 fun hO=>?_
   repeat' first | refine st ?_ | (refine ca ?_;apply hs) | (refine br ?_ ?_<;>intro hb) | refine sd ?_ | apply aE | (apply aO;(· decide +kernel)) | refine bd ?_ ?_ | (refine cd ?_;apply hs) | fail
   refine fR Tryz.results118 ?_
   exact h
 ·have e0:(((4:Nat):Int)==0)=false:=rfl
  obtain⟨L,hL⟩:∃ L,max lo 65536=L:=⟨_,rfl⟩
  obtain⟨M,hM⟩:∃ M,min hi 1114111=M:=⟨_,rfl⟩
  rw [hL,hM] at h
  have m1:(if (65536:Int)>(lo:Int) then (65536:Int) else (lo:Int))=(L:Int):=by rw [← hL];split<;>omega
  have m2:(if (1114111:Int)<(hi:Int) then (1114111:Int) else (hi:Int))=(M:Int):=by rw [← hM];split<;>omega
  replace hM:M≤1114111:=by omega
  clear hL
  by_cases c1:L≤M
  ·have d1:decide ((L:Int)≤(M:Int))=true:=by simp;omega
   by_cases c2:55296≤L
   ·have d2:decide ((55296:Int)≤(L:Int))=true:=by simp;omega
    by_cases c3:M≤57343
    ·have d3:decide ((M:Int)≤57343)=true:=by simp;omega
     simp only [decide_eq_true c1,decide_eq_true c2,decide_eq_true c3,cA,bX,dh,cC,cE,cH] at h
     clear hM c1 c2 c3
     refine eN Tryz.func118 rfl Tryz.ntmps118 fun hO=>?_
     repeat' first | refine st ?_ | (refine ca ?_;apply hs) | (refine br ?_ ?_<;>intro hb) | refine sd ?_ | apply aE | (apply aO;(· decide +kernel)) | refine bd ?_ ?_ | (refine cd ?_;apply hs) | fail
     refine fR Tryz.results118 ?_
     exact h
    ·have d3:decide ((M:Int)≤57343)=false:=by simp;omega
     by_cases c4:p.length=4
     ·have d4:((p.length:Int)==((4:Nat):Int))=true:=by rw [beq_iff_eq];omega
      simp only [decide_eq_true c1,decide_eq_true c2,decide_eq_false c3,decide_eq_true c4,cA,bX,dh,cC,cE,cH] at h
      clear hM c1 c2 c3 c4
      refine eN Tryz.func118 rfl Tryz.ntmps118 fun hO=>?_
      repeat' first | refine st ?_ | (refine ca ?_;apply hs) | (refine br ?_ ?_<;>intro hb) | refine sd ?_ | apply aE | (apply aO;(· decide +kernel)) | refine bd ?_ ?_ | (refine cd ?_;apply hs) | fail
      refine fR Tryz.results118 ?_
      exact h
     ·have d4:((p.length:Int)==((4:Nat):Int))=false:=by rw [beq_eq_false_iff_ne];omega
      simp only [decide_eq_true c1,decide_eq_true c2,decide_eq_false c3,decide_eq_false c4,cA,bX,dh,cC,cE,cH] at h
      clear hM c1 c2 c3 c4
      refine eN Tryz.func118 rfl Tryz.ntmps118 fun hO=>?_
      repeat' first | refine st ?_ | (refine ca ?_;apply hs) | (refine br ?_ ?_<;>intro hb) | refine sd ?_ | apply aE | (apply aO;(· decide +kernel)) | refine bd ?_ ?_ | (refine cd ?_;apply hs) | fail
      refine fR Tryz.results118 ?_
      exact h
   ·have d2:decide ((55296:Int)≤(L:Int))=false:=by simp;omega
    by_cases c4:p.length=4
    ·have d4:((p.length:Int)==((4:Nat):Int))=true:=by rw [beq_iff_eq];omega
     simp only [decide_eq_true c1,decide_eq_false c2,decide_eq_true c4,cA,bX,dh,cC,cE,cH] at h
     clear hM c1 c2 c4
     refine eN Tryz.func118 rfl Tryz.ntmps118 fun hO=>?_
     repeat' first | refine st ?_ | (refine ca ?_;apply hs) | (refine br ?_ ?_<;>intro hb) | refine sd ?_ | apply aE | (apply aO;(· decide +kernel)) | refine bd ?_ ?_ | (refine cd ?_;apply hs) | fail
     refine fR Tryz.results118 ?_
     exact h
    ·have d4:((p.length:Int)==((4:Nat):Int))=false:=by rw [beq_eq_false_iff_ne];omega
     simp only [decide_eq_true c1,decide_eq_false c2,decide_eq_false c4,cA,bX,dh,cC,cE,cH] at h
     clear hM c1 c2 c4
     refine eN Tryz.func118 rfl Tryz.ntmps118 fun hO=>?_
     repeat' first | refine st ?_ | (refine ca ?_;apply hs) | (refine br ?_ ?_<;>intro hb) | refine sd ?_ | apply aE | (apply aO;(· decide +kernel)) | refine bd ?_ ?_ | (refine cd ?_;apply hs) | fail
     refine fR Tryz.results118 ?_
     exact h
  ·have d1:decide ((L:Int)≤(M:Int))=false:=by simp;omega
   simp only [decide_eq_false c1,cA,bX,dh,cC,cE,cH] at h
   clear hM c1
   refine eN Tryz.func118 rfl Tryz.ntmps118 fun hO=>?_
   repeat' first | refine st ?_ | (refine ca ?_;apply hs) | (refine br ?_ ?_<;>intro hb) | refine sd ?_ | apply aE | (apply aO;(· decide +kernel)) | refine bd ?_ ?_ | (refine cd ?_;apply hs) | fail
   refine fR Tryz.results118 ?_
   exact h
theorem xq (p:List Nat):dD p=0∨dD p=1∨dD p=2:=by
 cases p with
 | nil=>exact .inl rfl
 | cons a r =>
  simp only [dD]
  repeat' split
  all_goals simp
theorem Dj (w0:World) (S:List aH) (p:List Nat) (hp:∀ x∈p,x<256) (h4:p.length≤4) (R:Rt) (h:R (.ret (.bool (fM p))) S):az Tryz.prog w0 57 [.sval false (p.map By)] S R:=by
 have hg:=fun S'=>Ic w0 S' p hp h4
 rw [up] at hg
 by_cases he:p=[]
 ·subst he
  have h:R (.ret (.bool true)) S:=h
  have hg:∀ S' (R:Rt),R (.ret (.tup [.bool false,.bool false])) S'→az Tryz.prog w0 118 [.sval false (bS By [])] S' R:=hg
  have e0:(((0:Nat):Int)==0)=true:=rfl
  simp only [aL] at hg ⊢
  clear hp h4
  refine eN Tryz.func57 rfl Tryz.ntmps57 fun hO=>?_
  repeat' first | refine st ?_ | (refine ca ?_;apply hg) | (refine br ?_ ?_<;>intro hb) | fail
  refine fR Tryz.results57 ?_
  exact h
 ·have hl:((p.length:Int)==0)=false:=by
   rw [beq_eq_false_iff_ne]
   intro e
   exact he (ib.1 (by omega))
  have hr:fM p=decide (dD p=1):=by unfold fM;rw [decide_eq_false he,kZ]
  rw [hr] at h
  have hk:=xq p
  generalize dD p=kd at hg h hk
  clear he hp h4 hr
  rcases hk with rfl | rfl | rfl
  ·have h:R (.ret (.bool false)) S:=h
   have hg:∀ S' (R:Rt),R (.ret (.tup [.bool false,.bool false])) S'→az Tryz.prog w0 118 [.sval false (bS By p)] S' R:=hg
   refine eN Tryz.func57 rfl Tryz.ntmps57 fun hO=>?_
   repeat' first | refine st ?_ | (refine ca ?_;apply hg) | (refine br ?_ ?_<;>intro hb) | fail
   refine fR Tryz.results57 ?_
   exact h
  ·have h:R (.ret (.bool true)) S:=h
   have hg:∀ S' (R:Rt),R (.ret (.tup [.bool true,.bool false])) S'→az Tryz.prog w0 118 [.sval false (bS By p)] S' R:=hg
   refine eN Tryz.func57 rfl Tryz.ntmps57 fun hO=>?_
   repeat' first | refine st ?_ | (refine ca ?_;apply hg) | (refine br ?_ ?_<;>intro hb) | fail
   refine fR Tryz.results57 ?_
   exact h
  ·have h:R (.ret (.bool false)) S:=h
   have hg:∀ S' (R:Rt),R (.ret (.tup [.bool true,.bool true])) S'→az Tryz.prog w0 118 [.sval false (bS By p)] S' R:=hg
   refine eN Tryz.func57 rfl Tryz.ntmps57 fun hO=>?_
   repeat' first | refine st ?_ | (refine ca ?_;apply hg) | (refine br ?_ ?_<;>intro hb) | fail
   refine fR Tryz.results57 ?_
   exact h
theorem Jj (w0:World) (S:List aH) (p:List Nat) (hb:∀ x∈p,x<256) (hr:fM p=true) (R:Rt) (h:R (.ret (.sval false ((hH p).map Co))) S):az Tryz.prog w0 223 [.sval false (p.map By)] S R:=by
 have hri:=fun S'=>Dj w0 S' p hb (tR (nw hr))
 rw [hr] at hri
 by_cases hp:p=[]
 ·subst hp
  have h:R (.ret (.sval false [])) S:=h
  have e0:decide ((0:Int)<((0:Nat):Int))=false:=rfl
  simp only [aL]
  clear hr hri hb
  refine eN Tryz.func223 rfl Tryz.ntmps223 fun hO=>?_
  repeat' first | refine st ?_ | (refine br ?_ ?_<;>intro hb) | fail
  refine fR Tryz.results223 ?_
  exact h
 ·have hl:decide ((0:Int)<(p.length:Int))=true:=by
   cases p with
   | nil=>exact absurd rfl hp
   | cons a r=>simp only [ah,decide_eq_true_eq];omega
  rw [hH,if_neg hp] at h
  have h:R (.ret (.sval false [AV.int .i64 65533])) S:=h
  clear hr hp hb
  refine eN Tryz.func223 rfl Tryz.ntmps223 fun hO=>?_
  repeat' first | refine st ?_ | (refine ca ?_;apply hri) | (refine br ?_ ?_<;>intro hb) | fail
  refine fR Tryz.results223 ?_
  exact h
theorem Di (w0:World) (S:List aH) (p:List Nat) (b:Nat) (hb:b<256) (hr:fM p=true) (hp:∀ x∈p,x<256)
  (hrec:p≠[]→∀ (S':List aH) (R:Rt),R (.ret (iL (g8 b))) S'→az Tryz.prog w0 119 [.sval false [],.int .u8 b] S' R)
  (R:Rt) (h:R (.ret (iL (eh p b))) S):az Tryz.prog w0 119 [.sval false (p.map By),.int .u8 b] S R:=by
 have hl3:=nw hr
 have hpb:∀ x∈p++[b],x<256:=by
  intro x hx
  rcases dg.1 hx with hx | hx
  ·exact hp x hx
  ·rw [bC.1 hx];exact hb
 have hri:=fun S'=>Dj w0 S' p hp (tR hl3)
 rw [hr] at hri
 have hk:=fun S'=>Ic w0 S' (p++[b]) hpb (by simp;omega)
 rw [up] at hk
 have hb0:p.length * 1≤140737488355328:=by omega
 have hb00:(0+p.length) * 1≤140737488355328:=by omega
 have hb1:(p.length+1) * 1≤140737488355328:=by omega
 have happ:bS By p++[AV.int .u8 b]=bS By (p++[b]):=by rw [co];rfl
 have hlen:(p++[b]).length=p.length+1:=by simp
 have htk:qR p.length (bS By p)=bS By p:=dW (by simp)
 have hc:=fun S'=>H_ w0 S' (p++[b]) hpb (by simp;omega)
 have hsc:=A4 (p:=p++[b])
 have hall:=By.all1 p
 simp only [AV.cells] at hall
 have okA:=By.ok p
 simp only [dz,AV.cells] at okA
 have hle:(p.length:Int)≤(p.length:Int):=EU _
 have hbe:(p.length==p.length)=true:=by simp
 unfold eh at h
 have Happ:=au happ
 have Hc:=au hc
 have Hsc:=au hsc
 have Hrec:=au hrec
 have H:=au h
 clear hp hb happ hc hrec h hl3 hr hpb hsc
 refine eN Tryz.func119 rfl Tryz.ntmps119 fun hO=>?_
 repeat' first | refine st ?_ | (refine ca ?_;apply hri) | (refine br ?_ ?_<;>intro hb) | fail
 rw [Happ.out]
 refine ja S.length ss ?_
 try simp only [go_sem, *]
 have h012:=xq (p++[b])
 obtain⟨kd,hkd⟩:∃ kd,dD (p++[b])=kd:=⟨_,rfl⟩
 rw [hkd] at hk h012
 rcases h012 with rfl | rfl | rfl
 ·have hh:=H.out
  rw [hkd,if_neg (by decide),if_neg (by decide)] at hh
  have hk:∀ S' (R:Rt),R (.ret (.tup [.bool false,.bool false])) S'→az Tryz.prog w0 118 [.sval false (bS By (p++[b]))] S' R:=hk
  clear hkd
  by_cases hp:p=[]
  ·subst hp
   rw [if_pos rfl] at hh
   have e0:(((0:Nat):Int)==0)=true:=rfl
   unfold iL at hh
   simp only [aG,aL,Co] at hh
   repeat' first | refine st ?_ | (refine ca ?_;apply hk) | (refine br ?_ ?_<;>intro hb) | fail
   refine fR Tryz.results119 ?_
   exact hh
  ·rw [if_neg hp] at hh
   have hrec:=Hrec.out hp
   have hl0:((p.length:Int)==0)=false:=by
    rw [beq_eq_false_iff_ne]
    intro e
    exact hp (ib.1 (by omega))
   have hq1:(g8 b).2.length≤1:=by unfold g8;split<;>(try split)<;>simp
   generalize g8 b=q at hrec hh hq1
   obtain⟨q1,q2⟩:=q
   unfold iL at hh hrec
   simp only [aG,Co] at hh hrec hq1
   have okC:=Co.ok q2
   simp only [dz,AV.cells] at okC
   have hb8:(1+q2.length) * 8≤140737488355328:=by omega
   clear hp hq1
   repeat' first | refine st ?_ | (refine ca ?_;first | apply hk | apply hrec) | (refine br ?_ ?_<;>intro hb) | fail
   have hcm:(1+q2.length=q2.length+1)=True:=by rw [Nat.add_comm];simp
   refine fR Tryz.results119 ?_
   exact hh
 ·have hh:=H.out
  rw [hkd,if_neg (by decide),if_pos rfl] at hh
  have hk:∀ S' (R:Rt),R (.ret (.tup [.bool true,.bool false])) S'→az Tryz.prog w0 118 [.sval false (bS By (p++[b]))] S' R:=hk
  unfold iL at hh
  simp only [aL] at hh
  clear hkd
  repeat' first | refine st ?_ | (refine ca ?_;apply hk) | (refine br ?_ ?_<;>intro hb) | fail
  refine fR Tryz.results119 ?_
  exact hh
 ·have hh:=H.out
  rw [hkd,if_pos rfl] at hh
  have hk:∀ S' (R:Rt),R (.ret (.tup [.bool true,.bool true])) S'→az Tryz.prog w0 118 [.sval false (bS By (p++[b]))] S' R:=hk
  have hc:=Hc.out
  have hsc:=Hsc.out hkd
  rw [← hsc] at hh
  generalize gn (p++[b])=q at hc hh hsc
  obtain⟨q1,q2,q3⟩:=q
  unfold iL at hh
  unfold zU at hc
  simp only [aG,aL,Co] at hh hc
  clear hkd hsc
  repeat' first | refine st ?_ | (refine ca ?_;first | apply hk | apply hc) | (refine br ?_ ?_<;>intro hb) | fail
  refine fR Tryz.results119 ?_
  exact hh
theorem Jg (w0:World) (S:List aH) (b:Nat) (hb:b<256) (R:Rt) (h:R (.ret (iL (g8 b))) S):az Tryz.prog w0 119 [.sval false [],.int .u8 b] S R:=by
 refine Di w0 S [] b hb rfl (by simp) (fun hh=>absurd rfl hh) R ?_
 have e:eh [] b=g8 b:=by unfold eh g8;simp
 rw [e];exact h
theorem Ll (w0:World) (S:List aH) (p:List Nat) (b:Nat) (hb:b<256) (hr:fM p=true) (hp:∀ x∈p,x<256) (R:Rt) (h:R (.ret (iL (eh p b))) S) :
  az Tryz.prog w0 119 [.sval false (p.map By),.int .u8 b] S R :=
 Di w0 S p b hb hr hp (fun _ S' R h=>Jg w0 S' b hb R h) R h
theorem I0 (l:List Nat):(kI l).2.length≤2 * l.length+1:=by
 have h:=(qj l []).2
 have e:lV [] l=(kI l).2++hH (kI l).1:=m_ l
 rw [e,ab] at h
 omega
theorem Jl (w0:World) (S:List aH) (s:List UInt8) (hs:s.length≤100000000) (R:Rt) (h:R (.ret (.sval false ((eb s).map Co))) S):az Tryz.prog w0 177 [.str s] S R:=by
 have hsm:∀ b∈s.map aV,b<256:=by
  intro b hb
  obtain⟨c,_,rfl⟩:=aX.1 hb
  exact c.toNat_lt
 have hall:=H7 (s.map aV) hsm
 have hcb:eb s=(kI (s.map aV)).2++hH (kI (s.map aV)).1:=m_ _
 have Hall:=au hall
 have Hcb:=au hcb
 clear hall hcb hsm
 refine eN Tryz.func177 rfl Tryz.ntmps177 fun hO=>?_
 repeat' first | refine st ?_ | (refine br ?_ ?_<;>intro hb) | fail
 refine nW (t:=3) 3 1 ss (by decide) ?_
 refine Iy (t:=4) ss ?_
 try simp only [go_sem, *]
 refine dX (fun (i:Nat) env S'=>i≤s.length∧env 1000000=.dfr []∧env 0=.str s∧env 3=.sown S.length i (kI ((s.map aV).take i)).2.length∧env 4=.sval false ((kI ((s.map aV).take i)).1.map By)∧env 5=.int .i64 (i:Int) ∧
  S'=S++[.arr 3 1 0 i ((kI ((s.map aV).take i)).2.map Co)]) (fun i=>s.length - i) 0 ?_ ?_
 ·exact⟨bI _,ss,ss,ss,ss,ss,rfl⟩
 ·rintro i env S' ⟨hi,e0,f0,f3,f4,f5,rfl⟩ IH
  have HI:=au IH
  have H:=au h
  clear IH h
  obtain⟨hri,hpb⟩:=Hall.out i
  have hsl:=I0 ((s.map aV).take i)
  have htl:((s.map aV).take i).length≤i:=List.length_take_le _ _
  by_cases hlt:i<s.length
  ·obtain⟨c,hx⟩:∃ c,s[i]? = some c:=⟨_,aC hlt⟩
   have hct:c.toNat<256:=c.toNat_lt
   have hxn:(s.map aV)[i]? = some c.toNat:=by rw [aQ,hx];rfl
   have hsucc:=oX hxn
   have hst:=fun S'=>Ll w0 S' (kI ((s.map aV).take i)).1 c.toNat hct hri hpb
   have hcl:=(kn (kI ((s.map aV).take i)).1 c.toNat).2
   generalize kI ((s.map aV).take i)=q at *
   obtain⟨p,o⟩:=q
   simp only at hst hsucc hcl f3 f4 hsl hri hpb ⊢
   generalize eh p c.toNat=r at hst hsucc hcl
   obtain⟨p',o'⟩:=r
   unfold iL at hst
   simp only at hst hsucc hcl
   have h1:decide ((i:Int)<(s.length:Int))=true:=by simpa using hlt
   have hw1:ar.wrap ((i:Int)+1)=(i:Int)+1:=ay _ (by omega)
   have hb8:(o.length+o'.length) * 8≤140737488355328:=by omega
   have okC:=Co.ok o'
   simp only [dz,AV.cells] at okC
   have Hsucc:=au hsucc
   have Hlt:=au hlt
   have hlen:(o.map Co).length=o.length:=by simp
   clear hi hs hct hxn hcl hri hpb hsucc hsl htl hlt
   repeat' first | refine st ?_ | (refine ca ?_;apply hst) | (refine br ?_ ?_<;>intro hb) | fail
   refine fq hO 1 [0,3,4,5] rfl ss ss ss ?_
   simp only [ae,ao]
   refine HI.out (i+1) _ _ (by have:=Hlt.out;omega) ⟨Hlt.out, ?_, ?_, ?_, ?_, ?_, ?_⟩
   ·(simp only [go_sem, *];try rfl)
   ·(simp only [go_sem, *];try rfl)
   ·rw [Hsucc.out,ab];first | done | (simp only [go_sem, *];try rfl)
   ·rw [Hsucc.out];first | done | (simp only [go_sem, *];try rfl)
   ·(simp only [go_sem, *];try rfl)
   ·rw [Hsucc.out,co];first | done | rfl
  ·have hie:i=s.length:=by omega
   subst hie
   have htk:(s.map aV).take s.length=s.map aV:=by rw [← bB (f:=aV),bQ]
   rw [htk] at hri hpb hsl f3 f4 ⊢
   have hfl:=fun S'=>Jj w0 S' (kI (s.map aV)).1 hpb hri
   have hcb:=Hcb.out
   have hf1:(hH (kI (s.map aV)).1).length≤1:=by unfold hH;split<;>simp
   generalize kI (s.map aV)=q at *
   obtain⟨p,o⟩:=q
   simp only at hfl hcb f3 f4 hsl hri hpb hf1 ⊢
   generalize hH p=fl at hfl hcb hf1
   have h1:decide ((s.length:Int)<(s.length:Int))=false:=by simp
   have hml:(s.map aV).length=s.length:=by simp
   have hb8:(o.length+fl.length) * 8≤140737488355328:=by omega
   have okC:=Co.ok fl
   simp only [dz,AV.cells] at okC
   have hlen:(o.map Co).length=o.length:=by simp
   have hh:=H.out
   rw [hcb] at hh
   clear hi hs hri hpb hsl htl hlt hf1 htk hcb hml
   repeat' first | refine st ?_ | (refine ca ?_;apply hfl) | (refine br ?_ ?_<;>intro hb) | fail
   rw [← co]
   have hln:(o++fl).length=o.length+fl.length:=ab
   refine fR Tryz.results177 ?_
   exact hh
def nS (cp:Nat):Nat:=if cp<128 then 1 else if cp<2048 then 2 else if cp<65536 then 3 else 4
theorem Dn (w0:World) (S:List aH) (cp:Nat) (R:Rt) (h:R (.ret (.bool (tt cp))) S):az Tryz.prog w0 181 [.int .i64 cp] S R:=by
 have d0:decide ((0:Int)≤(cp:Int))=true:=by simp
 by_cases c1:cp≤1114111
 ·have d1:decide ((cp:Int)≤1114111)=true:=by simp;omega
  by_cases c2:cp<55296
  ·have d2:decide ((cp:Int)<55296)=true:=by simp;omega
   have e:tt cp=true:=by unfold tt;simp;omega
   rw [e] at h
   clear e c1 c2
   refine eN Tryz.func181 rfl Tryz.ntmps181 fun hO=>?_
   repeat' first | refine st ?_ | (refine br ?_ ?_<;>intro hb) | fail
   refine fR Tryz.results181 ?_
   exact h
  ·have d2:decide ((cp:Int)<55296)=false:=by simp;omega
   by_cases c3:57343<cp
   ·have d3:decide ((57343:Int)<(cp:Int))=true:=by simp;omega
    have e:tt cp=true:=by unfold tt;simp;omega
    rw [e] at h
    clear e c1 c2 c3
    refine eN Tryz.func181 rfl Tryz.ntmps181 fun hO=>?_
    repeat' first | refine st ?_ | (refine br ?_ ?_<;>intro hb) | fail
    refine fR Tryz.results181 ?_
    exact h
   ·have d3:decide ((57343:Int)<(cp:Int))=false:=by simp;omega
    have e:tt cp=false:=by unfold tt;simp;omega
    rw [e] at h
    clear e c1 c2 c3
    refine eN Tryz.func181 rfl Tryz.ntmps181 fun hO=>?_
    repeat' first | refine st ?_ | (refine br ?_ ?_<;>intro hb) | fail
    refine fR Tryz.results181 ?_
    exact h
 ·have d1:decide ((cp:Int)≤1114111)=false:=by simp;omega
  have e:tt cp=false:=by unfold tt;simp;omega
  rw [e] at h
  clear e c1
  refine eN Tryz.func181 rfl Tryz.ntmps181 fun hO=>?_
  repeat' first | refine st ?_ | (refine br ?_ ?_<;>intro hb) | fail
  refine fR Tryz.results181 ?_
  exact h
theorem Ia (w0:World) (S:List aH) (cp:Nat) (R:Rt) (h:R (.ret (.int .i64 (nS cp:Nat))) S):az Tryz.prog w0 267 [.int .i64 cp] S R:=by
 by_cases c1:cp<128
 ·have d1:decide ((cp:Int)<128)=true:=by simp;omega
  have e:nS cp=1:=by unfold nS;rw [if_pos c1]
  rw [e] at h
  have h:R (.ret (.int .i64 1)) S:=h
  clear e c1
  refine eN Tryz.func267 rfl Tryz.ntmps267 fun hO=>?_
  repeat' first | refine st ?_ | (refine br ?_ ?_<;>intro hb) | fail
  refine fR Tryz.results267 ?_
  exact h
 have d1:decide ((cp:Int)<128)=false:=by simp;omega
 by_cases c2:cp<2048
 ·have d2:decide ((cp:Int)<2048)=true:=by simp;omega
  have e:nS cp=2:=by unfold nS;rw [if_neg c1,if_pos c2]
  rw [e] at h
  have h:R (.ret (.int .i64 2)) S:=h
  clear e c1 c2
  refine eN Tryz.func267 rfl Tryz.ntmps267 fun hO=>?_
  repeat' first | refine st ?_ | (refine br ?_ ?_<;>intro hb) | fail
  refine fR Tryz.results267 ?_
  exact h
 have d2:decide ((cp:Int)<2048)=false:=by simp;omega
 by_cases c3:cp<65536
 ·have d3:decide ((cp:Int)<65536)=true:=by simp;omega
  have e:nS cp=3:=by unfold nS;rw [if_neg c1,if_neg c2,if_pos c3]
  rw [e] at h
  have h:R (.ret (.int .i64 3)) S:=h
  clear e c1 c2 c3
  refine eN Tryz.func267 rfl Tryz.ntmps267 fun hO=>?_
  repeat' first | refine st ?_ | (refine br ?_ ?_<;>intro hb) | fail
  refine fR Tryz.results267 ?_
  exact h
 have d3:decide ((cp:Int)<65536)=false:=by simp;omega
 have e:nS cp=4:=by unfold nS;rw [if_neg c1,if_neg c2,if_neg c3]
 rw [e] at h
 have h:R (.ret (.int .i64 4)) S:=h
 clear e c1 c2 c3
 refine eN Tryz.func267 rfl Tryz.ntmps267 fun hO=>?_
 repeat' first | refine st ?_ | (refine br ?_ ?_<;>intro hb) | fail
 refine fR Tryz.results267 ?_
 exact h
theorem IX (c:Nat):(c:Int).tmod 64=((c % 64:Nat):Int):=by rw [Int.tmod_eq_emod_of_nonneg (by omega)];omega
theorem IY (c:Nat) (h:c<4294967296):ar.wrap ((c:Int).tdiv 64)=((c / 64:Nat):Int):=by
 rw [Int.tdiv_eq_ediv_of_nonneg (by omega),ay _ (by omega)];omega
theorem IG (c:Nat):ar.wrap (128+((c % 64:Nat):Int))=((128+c % 64:Nat):Int):=by rw [ay _ (by omega)];omega
theorem IC (c:Nat):bo.wrap ((128+c % 64:Nat):Int)=((128+c % 64:Nat):Int):=eo _ (by omega)
theorem MV (w0:World) (S:List aH) (cp:Nat) (hb:cp<4294967296) (R:Rt) (h:R (.ret (.str (pY cp))) S):az Tryz.prog w0 224 [.int .i64 cp] S R:=by
 have hck:=fun S'=>Dn w0 S' cp
 unfold pY tF at h
 cases hok:tt cp with
 | false =>
  rw [hok,if_neg (by decide)] at h
  rw [hok] at hck
  have h:R (.ret (.str [239,191,189])) S:=h
  have hsz:∀ S' (R:Rt),R (.ret (.int .i64 3)) S'→az Tryz.prog w0 267 [.int .i64 65533] S' R:=fun S' R hr=>Ia w0 S' 65533 R hr
  have z1:(65533:Int).tmod 64=61:=by decide
  have z2:ar.wrap ((65533:Int).tdiv 64)=1023:=by decide
  have z3:(1023:Int).tmod 64=63:=by decide
  have z4:ar.wrap ((1023:Int).tdiv 64)=15:=by decide
  clear hb hok
  refine eN Tryz.func224 rfl Tryz.ntmps224 fun hO=>?_
  repeat' first | refine st ?_ | (refine ca ?_;first | apply hck | apply hsz) | (refine br ?_ ?_<;>intro hb) | apply cP | apply eg | fail
  refine fR Tryz.results224 ?_
  exact h
 | true =>
  rw [hok,if_pos rfl] at h
  rw [hok] at hck
  have hle:cp≤1114111:=by
   simp only [tt,aB,decide_eq_true_eq] at hok
   exact hok.1
  have hsz:=fun S'=>Ia w0 S' cp
  have t0:=IX cp
  have t1:=IX (cp / 64)
  have t2:=IX (cp / 64 / 64)
  have q0:=IY cp hb
  have q1:=IY (cp / 64) (by omega)
  have q2:=IY (cp / 64 / 64) (by omega)
  have b0:=IG cp
  have b1:=IG (cp / 64)
  have b2:=IG (cp / 64 / 64)
  have u0:=IC cp
  have u1:=IC (cp / 64)
  have u2:=IC (cp / 64 / 64)
  clear hok hb
  unfold nS at hsz
  by_cases h1:cp<128
  ·have e:kK cp=[cp]:=by unfold kK;rw [if_pos h1]
   rw [e] at h
   rw [if_pos h1] at hsz
   have hsz:∀ S' (R:Rt),R (.ret (.int .i64 1)) S'→az Tryz.prog w0 267 [.int .i64 cp] S' R:=hsz
   have wc:bo.wrap (cp:Int)=(cp:Int):=eo _ (by omega)
   have h:R (.ret (.str [aN cp])) S:=h
   clear e h1 hle t0 t1 t2 q0 q1 q2 b0 b1 b2 u0 u1 u2
   refine eN Tryz.func224 rfl Tryz.ntmps224 fun hO=>?_
   repeat' first | refine st ?_ | (refine ca ?_;first | apply hck | apply hsz) | (refine br ?_ ?_<;>intro hb) | fail
   refine fR Tryz.results224 ?_
   exact h
  by_cases h2:cp<2048
  ·have e:kK cp=[192+cp / 64,128+cp % 64]:=by unfold kK;rw [if_neg h1,if_pos h2];try simp only [nl,Cd]
   rw [e] at h
   rw [if_neg h1,if_pos h2] at hsz
   have hsz:∀ S' (R:Rt),R (.ret (.int .i64 2)) S'→az Tryz.prog w0 267 [.int .i64 cp] S' R:=hsz
   obtain⟨tp,htp⟩:∃ tp,cp / 64=tp:=⟨_,rfl⟩
   have wt:ar.wrap (192+(tp:Int))=((192+tp:Nat):Int):=by rw [ay _ (by omega)];omega
   have wu:bo.wrap ((192+tp:Nat):Int)=((192+tp:Nat):Int):=eo _ (by omega)
   rw [htp] at q0 h
   have h:R (.ret (.str [aN (192+tp),aN (128+cp % 64)])) S:=h
   clear e hle htp h1 h2 t1 t2 q1 q2 b1 b2 u1 u2
   refine eN Tryz.func224 rfl Tryz.ntmps224 fun hO=>?_
   repeat' first | refine st ?_ | (refine ca ?_;first | apply hck | apply hsz) | (refine br ?_ ?_<;>intro hb) | apply cP | apply eg | fail
   refine fR Tryz.results224 ?_
   exact h
  by_cases h3:cp<65536
  ·have e:kK cp=[224+cp / 64 / 64,128+cp / 64 % 64,128+cp % 64]:=by unfold kK;rw [if_neg h1,if_neg h2,if_pos h3];try simp only [nl,Cd]
   rw [e] at h
   rw [if_neg h1,if_neg h2,if_pos h3] at hsz
   have hsz:∀ S' (R:Rt),R (.ret (.int .i64 3)) S'→az Tryz.prog w0 267 [.int .i64 cp] S' R:=hsz
   obtain⟨tp,htp⟩:∃ tp,cp / 64 / 64=tp:=⟨_,rfl⟩
   have wt:ar.wrap (224+(tp:Int))=((224+tp:Nat):Int):=by rw [ay _ (by omega)];omega
   have wu:bo.wrap ((224+tp:Nat):Int)=((224+tp:Nat):Int):=eo _ (by omega)
   rw [htp] at q1 h
   have h:R (.ret (.str [aN (224+tp),aN (128+cp / 64 % 64),aN (128+cp % 64)])) S:=h
   clear e hle htp h1 h2 h3 t2 q2 b2 u2
   refine eN Tryz.func224 rfl Tryz.ntmps224 fun hO=>?_
   repeat' first | refine st ?_ | (refine ca ?_;first | apply hck | apply hsz) | (refine br ?_ ?_<;>intro hb) | apply cP | apply eg | fail
   refine fR Tryz.results224 ?_
   exact h
  have e:kK cp=[240+cp / 64 / 64 / 64,128+cp / 64 / 64 % 64,128+cp / 64 % 64,128+cp % 64]:=by unfold kK;rw [if_neg h1,if_neg h2,if_neg h3];try simp only [nl,Cd]
  rw [e] at h
  rw [if_neg h1,if_neg h2,if_neg h3] at hsz
  have hsz:∀ S' (R:Rt),R (.ret (.int .i64 4)) S'→az Tryz.prog w0 267 [.int .i64 cp] S' R:=hsz
  obtain⟨tp,htp⟩:∃ tp,cp / 64 / 64 / 64=tp:=⟨_,rfl⟩
  have wt:ar.wrap (240+(tp:Int))=((240+tp:Nat):Int):=by rw [ay _ (by omega)];omega
  have wu:bo.wrap ((240+tp:Nat):Int)=((240+tp:Nat):Int):=eo _ (by omega)
  rw [htp] at q2 h
  have h:R (.ret (.str [aN (240+tp),aN (128+cp / 64 / 64 % 64),aN (128+cp / 64 % 64),aN (128+cp % 64)])) S:=h
  clear e hle htp h1 h2 h3
  refine eN Tryz.func224 rfl Tryz.ntmps224 fun hO=>?_
  repeat' first | refine st ?_ | (refine ca ?_;first | apply hck | apply hsz) | (refine br ?_ ?_<;>intro hb) | apply cP | apply eg | fail
  refine fR Tryz.results224 ?_
  exact h
theorem Lk (w0:World) (S:List aH) (l:List Nat) (hb:∀ c∈l,c<4294967296) (hl:l.length≤100000000) (R:Rt) (h:R (.ret (.str (fW l))) S):az Tryz.prog w0 178 [.sval false (l.map Co)] S R:=by
 refine eN Tryz.func178 rfl Tryz.ntmps178 fun hO=>?_
 repeat' first | refine st ?_ | (refine br ?_ ?_<;>intro hb) | fail
 refine dX (fun (i:Nat) env S'=>i≤l.length∧env 1000000=.dfr []∧env 0=.sval false (l.map Co)∧env 3=.str (fW (l.take i))∧env 4=.int .i64 (i:Int)∧S'=S) (fun i=>l.length - i) 0 ?_ ?_
 ·exact⟨bI _,ss,ss,ss,ss,ss⟩
 ·rintro i env S' ⟨hi,e0,f0,f3,f4,rfl⟩ IH
  have HI:=au IH
  have H:=au h
  clear IH h
  by_cases hlt:i<l.length
  ·obtain⟨c,hx⟩:∃ c,l[i]? = some c:=⟨_,aC hlt⟩
   have hp:=fun S'=>MV w0 S' c (hb c (aI hx))
   have hsucc:=rM hx
   have hp1:=r_ c
   have h1:decide ((i:Int)<(l.length:Int))=true:=by simpa using hlt
   have hw1:ar.wrap ((i:Int)+1)=(i:Int)+1:=ay _ (by omega)
   have hlm:=pR (l.take i)
   have hlt2:(l.take i).length≤i:=List.length_take_le _ _
   generalize fW (l.take i)=tx at f3 hsucc hlm
   generalize pY c=pc at hp hsucc hp1
   have hbl:tx.length+pc.length≤9223372036854775807:=by omega
   have Hlt:=au hlt
   have Hsucc:=au hsucc
   clear hb hlt hi hl hlm hlt2 hp1 hsucc
   repeat' first | apply dM | apply cW | apply cj | apply cX | apply dN | apply bv | apply dQ | apply bx | apply bl | apply bF | apply bw | apply bj | apply aZ | apply dP | (apply a_;(· rfl)) | (apply bD;simp only [aU]) | (apply bZ;(· rfl);(· simp only [go_sem, *,Co];try rfl);(· rfl);simp only [putA]) | (apply cZ;simp only [putA]) | apply bG | (apply cI [];(· simp only [go_sem, *,Co];try rfl);(· rfl);(· simp only [go_sem, *,Co];try rfl);(· rfl);(iterate 2 (· simp only [go_sem, *,Co];try rfl));(first | apply hp);simp only [aR,putA]) | (apply b_;(· simp only [go_sem, *,Co];try rfl);(· rfl);(· simp only [go_sem, *,Co];try rfl)) | (apply cF;(iterate 2 (· simp only [go_sem, *,Co];try rfl));(· rfl);simp only [putA]) | (apply bi;(· simp only [go_sem, *,Co];try rfl);(· rfl);simp only [putA]) | (apply ce;(· simp only [go_sem, *,Co];try rfl)) | (apply ci;(· simp only [go_sem, *,Co];try rfl)) | (apply bE;(· rfl);(fail_if_success (focus (show _=some true;(· simp only [go_sem, *,Co];try rfl))));(· simp only [go_sem, *,Co];try rfl);all_goals (intro hb;try simp only [ax,aA] at hb)) | (apply cg;(· simp only [go_sem, *,Co];try rfl);all_goals (intro hb;try simp only [ax,aA] at hb)) | fail
   refine HI.out (i+1) _ _ (by have:=Hlt.out;omega) ⟨Hlt.out, ?_, ?_, ?_, ?_, ?_⟩
   ·(simp only [go_sem, *];try rfl)
   ·(simp only [go_sem, *];try rfl)
   ·rw [Hsucc.out];(simp only [go_sem, *];try rfl)
   ·(simp only [go_sem, *];try rfl)
   ·(simp only [go_sem, *];try rfl)
  ·have hie:i=l.length:=by omega
   subst hie
   rw [bQ] at f3
   have h1:decide ((l.length:Int)<(l.length:Int))=false:=by simp
   clear hb hlt hi hl
   have h:=H.out
   repeat' first | refine st ?_ | (refine br ?_ ?_<;>intro hb) | fail
   refine fR Tryz.results178 ?_
   exact h
end Go.Proofs.YthdbijpefkapnaaGreatDoor
