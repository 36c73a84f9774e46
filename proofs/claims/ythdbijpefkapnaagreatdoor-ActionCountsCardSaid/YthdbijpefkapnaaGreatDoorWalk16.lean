/- YthdbijpefkapnaaGreatDoorWalk16. Texts of the proof of a law about texts: a layer of abstract values above the worlds, the types, the walks of the functions that the law reaches, the law and its card. Own work of an AI agent. -/
import Derived.Test.YthdbijpefkapnaaGreatDoorWalk10
import Derived.Test.YthdbijpefkapnaaGreatDoorWalk0
import Derived.Test.YthdbijpefkapnaaGreatDoorWalk1
import Derived.Test.YthdbijpefkapnaaGreatDoorWalk7
import Derived.Test.YthdbijpefkapnaaGreatDoorWalk11
set_option linter.all false
set_option maxHeartbeats 40000000
open Go.Lib renaming hid → au, itoa → cO, itoa_length_le → er
open List renaming all_cons → AG, append_nil → aP, cons_append → al, filter_cons → gP, flatMap_cons → kY, getElem?_append_right → aM, length → lz, length_append → ab, map_cons → aG, map_nil → aL, nil_append → ap, set_append_right → ef, take_add_one → pI, take_length → bQ, take_zero → ao
open UInt8 renaming toNat → aV
namespace Go.Proofs.YthdbijpefkapnaaGreatDoor
open Go Go.Fen
attribute [local irreducible] ba WP az dI ie cU aR cw
set_option maxRecDepth 8000
theorem JV (w0:World) (S:List aH) (l:List (List Int)) (R:Rt) (h:R (.ret (.fn (.func 85) [] [.pro [.sval false (l.map dA)]])) S):az Tryz.prog w0 39 [.sval false (l.map dA)] S R:=by
 refine eN Tryz.func39 rfl Tryz.ntmps39 fun hO=>?_
 repeat' first | refine st ?_ | (refine br ?_ ?_<;>intro hb) | fail
 refine fR Tryz.results39 ?_
 exact h
theorem F6 (w0:World) (hT:Cl w0) (x:Nat) (hx:x<10000) (a n:Nat) (ha:decide (a<n)=true) (S0 S1:List aH) (hn0:S0.length=n) (h1:S1.length=n∧bP S1)
  (hr:∀ (E:List aH) (R':ed→List aH→Prop),(∀ E2,R' (.ret (.bool true)) (S1++(E++E2)))→YA Tryz.prog w0 a [.str [],.str (cO x)] (S0++E) R') (R:Rt) (h:R (.ret (.tup [])) S1) :
  az Tryz.prog w0 85 [.yld a,.pro [.sval false [dA [(x:Int)]]]] S0 R:=by
 have hit:=fun S'=>itoa w0 hT S' (x:Int) (by omega) (by omega)
 have hm1:((x:Int) != -1)=true:=by rw [bne_iff_ne];omega
 have Hr:=au hr
 have H:=au h
 have H1:=au h1
 have Hn:=au hn0
 have hla:decide (a<S0.length)=true:=by rw [hn0];exact ha
 have hla1:decide (a<S1.length)=true:=by rw [h1.1];exact ha
 generalize cO (x:Int)=sx at *
 clear hr h h1 hn0 hT hx
 simp only [dA,aG,aL,gB]
 refine eN Tryz.func85 rfl Tryz.ntmps85 fun hO=>?_
 clear hO
 repeat' first | refine st ?_ | (refine br ?_ ?_<;>intro hb) | fail
 apply cP
 repeat' first | refine st ?_ | (refine br ?_ ?_<;>intro hb) | fail
 apply cP
 repeat' first | refine st ?_ | (refine ca ?_;apply hit) | (refine br ?_ ?_<;>intro hb) | fail
 apply nt
 ·(simp only [go_sem, *];try rfl)
 ·rfl
 ·(simp only [go_sem, *];try rfl)
 ·rfl
 ·(simp only [go_sem, *];try rfl)
 refine Hr.out _ _ ?_
 intro E2
 simp only [aR,putA]
 repeat' first | refine st ?_ | (refine br ?_ ?_<;>intro hb) | fail
 apply eg
 repeat' first | refine st ?_ | (refine br ?_ ?_<;>intro hb) | fail
 refine d8 H1.out.2 0 [0,1,9,10,11] (Hn.out.trans H1.out.1.symm) ss ss ss ?_
 simp only [ao,aP]
 apply eg
 repeat' first | refine st ?_ | (refine br ?_ ?_<;>intro hb) | fail
 refine GQ Tryz.results85 ?_ ?_ ?_
 ·exact H1.out.2
 ·exact H1.out.1.trans Hn.out.symm
 ·exact H.out
theorem F5 (w0:World) (hT:Cl w0) (x y:Nat) (hx:x<10000) (hy:y<10000) (a n:Nat) (ha:decide (a<n)=true) (S0 S1 S2:List aH) (hn0:S0.length=n) (h1:S1.length=n∧bP S1) (h2:S2.length=n∧bP S2)
  (hr:∀ (E:List aH) (R':ed→List aH→Prop),(∀ E2,R' (.ret (.bool true)) (S1++(E++E2)))→YA Tryz.prog w0 a [.str [],.str (cO x)] (S0++E) R')
  (hr2:∀ (E:List aH) (R':ed→List aH→Prop),(∀ E2,R' (.ret (.bool true)) (S2++(E++E2)))→YA Tryz.prog w0 a [.str [59],.str (cO y)] (S1++E) R') (R:Rt) (h:R (.ret (.tup [])) S2) :
  az Tryz.prog w0 85 [.yld a,.pro [.sval false [dA [(x:Int)],dA [(y:Int)]]]] S0 R:=by
 have hit:=fun S'=>itoa w0 hT S' (x:Int) (by omega) (by omega)
 have hity:=fun S'=>itoa w0 hT S' (y:Int) (by omega) (by omega)
 have hm1:((x:Int) != -1)=true:=by rw [bne_iff_ne];omega
 have hm2:((y:Int) != -1)=true:=by rw [bne_iff_ne];omega
 have Hr:=au hr
 have Hr2:=au hr2
 have H:=au h
 have H1:=au h1
 have H2:=au h2
 have Hn:=au hn0
 have hla:decide (a<S0.length)=true:=by rw [hn0];exact ha
 have hla1:decide (a<S1.length)=true:=by rw [h1.1];exact ha
 have hla2:decide (a<S2.length)=true:=by rw [h2.1];exact ha
 generalize cO (x:Int)=sx at *
 generalize cO (y:Int)=sy at *
 clear hr hr2 h h1 h2 hn0 hT hx hy
 simp only [dA,aG,aL,gB]
 refine eN Tryz.func85 rfl Tryz.ntmps85 fun hO=>?_
 clear hO
 repeat' first | refine st ?_ | (refine br ?_ ?_<;>intro hb) | fail
 apply cP
 repeat' first | refine st ?_ | (refine br ?_ ?_<;>intro hb) | fail
 apply cP
 repeat' first | refine st ?_ | (refine ca ?_;apply hit) | (refine br ?_ ?_<;>intro hb) | fail
 apply nt
 ·(simp only [go_sem, *];try rfl)
 ·rfl
 ·(simp only [go_sem, *];try rfl)
 ·rfl
 ·(simp only [go_sem, *];try rfl)
 refine Hr.out _ _ ?_
 intro E2
 simp only [aR,putA]
 repeat' first | refine st ?_ | (refine br ?_ ?_<;>intro hb) | fail
 apply eg
 repeat' first | refine st ?_ | (refine br ?_ ?_<;>intro hb) | fail
 refine d8 H1.out.2 0 [0,1,9,10,11] (Hn.out.trans H1.out.1.symm) ss ss ss ?_
 simp only [ao,aP]
 apply eg
 repeat' first | refine st ?_ | (refine br ?_ ?_<;>intro hb) | fail
 apply cP
 repeat' first | refine st ?_ | (refine ca ?_;apply hity) | (refine br ?_ ?_<;>intro hb) | fail
 apply nt
 ·(simp only [go_sem, *];try rfl)
 ·rfl
 ·(simp only [go_sem, *];try rfl)
 ·rfl
 ·(simp only [go_sem, *];try rfl)
 refine Hr2.out _ _ ?_
 intro E3
 simp only [aR,putA]
 repeat' first | refine st ?_ | (refine br ?_ ?_<;>intro hb) | fail
 apply eg
 repeat' first | refine st ?_ | (refine br ?_ ?_<;>intro hb) | fail
 refine d8 H2.out.2 0 [0,1,9,10,11] (Hn.out.trans H2.out.1.symm) ss ss ss ?_
 simp only [ao,aP]
 apply eg
 repeat' first | refine st ?_ | (refine br ?_ ?_<;>intro hb) | fail
 refine GQ Tryz.results85 ?_ ?_ ?_
 ·exact H2.out.2
 ·exact H2.out.1.trans Hn.out.symm
 ·exact H.out
def fX (ps:List (List UInt8 × List UInt8)):List UInt8:=ps.flatMap (fun q=>q.1++q.2)
theorem rN {l:List (List UInt8 × List UInt8)}{k:Nat}{q:List UInt8 × List UInt8} (h:l[k]? = some q):fX (l.take (k+1))=fX (l.take k)++(q.1++q.2):=by
 unfold fX
 rw [pI,h]
 simp
theorem CK (l:List (List UInt8 × List UInt8)) (k:Nat):(fX (l.take k)).length≤(fX l).length:=by
 conv=>rhs;rw [← List.take_append_drop k l]
 unfold fX
 rw [List.flatMap_append,ab];omega
def EN (a:Nat):Nat→AV
 | 0=>.nilp
 | _+1=>.own a 0
theorem zw (a k:Nat):EN a k=.nilp∨EN a k=.own a 0:=by
 cases k with
 | zero=>exact .inl rfl
 | succ k=>exact .inr rfl
theorem Po (w0:World) (X T:List aH) (ad:AV) (i:Nat) (bs s:List UInt8) (had:ad=.nilp∨ad=.own X.length 0) (hlen:(bs.length+s.length) * 1≤140737488355328) (R:Rt)
  (h:R (.ret (.tup [.int .i64 s.length,.inil])) (X++(aH.cells [.own X.length 0,.sown (X.length+1) (i+1) (bs++s).length] (some 90)::.arr 5 1 0 (i+1) ((bs++s).map iI)::T))) :
  az Tryz.prog w0 40 [.own X.length 0,.str s] (X++(aH.cells [ad,.sown (X.length+1) i bs.length] (some 90)::.arr 5 1 0 i (bs.map iI)::T)) R:=by
 refine qx w0 _ X.length (X.length+1) i ad bs s ⟨by simp,by rw [aM (by omega)];simp,had⟩ hlen R ?_
 have e:((X++(aH.cells [ad,.sown (X.length+1) i bs.length] (some 90)::.arr 5 1 0 i (bs.map iI)::T)).set (X.length+1) (.arr 5 1 0 (i+1) ((bs++s).map iI))).set X.length (.cells [.own X.length 0,.sown (X.length+1) (i+1) (bs.length+s.length)] (some 90)) =
   X++(aH.cells [.own X.length 0,.sown (X.length+1) (i+1) (bs++s).length] (some 90)::.arr 5 1 0 (i+1) ((bs++s).map iI)::T):=by
  rw [ef _ _ (by omega),ef _ _ (by omega)]
  simp
 rw [e]
 exact h
theorem Q9 (w0:World) (X T:List aH) (ad:AV) (i:Nat) (bs:List UInt8) (had:ad=.nilp∨ad=.own X.length 0) (hpos:1≤bs.length) (R:Rt)
  (h:R (.ret (.str bs)) (X++(aH.cells [ad,.sown (X.length+1) i bs.length] (some 90)::.dead::T))) :
  az Tryz.prog w0 41 [.own X.length 0] (X++(aH.cells [ad,.sown (X.length+1) i bs.length] (some 90)::.arr 5 1 0 i (bs.map iI)::T)) R:=by
 refine qo w0 _ X.length (X.length+1) i ad bs ⟨by simp,by rw [aM (by omega)];simp,had⟩ hpos R ?_
 rw [ef _ _ (by omega)]
 simpa using h
theorem Ad (w0:World) (S:List aH) (l:List (List Int)) (hl:oI l) (hok:tI l=0) (ps:List (List UInt8 × List UInt8)) (hlen:(fX ps).length≤100000) (hpos:1≤(fX ps).length)
  (hP:∀ (a n:Nat) (I:Nat→List aH),decide (a<n)=true→(∀ k,k≤ps.length→(I k).length=n∧bP (I k)) →
   (∀ k q,ps[k]? = some q→∀ (E:List aH) (R':ed→List aH→Prop),(∀ E2,R' (.ret (.bool true)) (I (k+1)++(E++E2)))→YA Tryz.prog w0 a [.str q.1,.str q.2] (I k++E) R') →
   ∀ (R:Rt),R (.ret (.tup [])) (I ps.length)→az Tryz.prog w0 85 [.yld a,.pro [.sval false (l.map dA)]] (I 0) R)
  (R:Rt) (h:R (.ret (.tup [.str (fX ps),.int .i64 0])) S):az Tryz.prog w0 22 [.sval false (l.map dA)] S R:=by
 have hck:=fun S'=>p4 w0 S' l hl
 rw [hok] at hck
 have hpt:=fun S'=>JV w0 S' l
 have H:=au h
 have Hpos:=au hpos
 clear h hok hl hpos
 refine eN Tryz.func22 rfl Tryz.ntmps22 fun hO=>?_
 repeat' first | refine st ?_ | (refine ca ?_;first | apply hck | apply hpt) | (refine br ?_ ?_<;>intro hb) | fail
 refine lD (a:=S.length) (j:=1) 5 1 ss ss (by decide) ?_
 simp only [go_sem, *]
 apply rF [5]
 ·rfl
 ·(simp only [go_sem, *];try rfl)
 ·rfl
 ·(simp only [go_sem, *];try rfl)
 ·(simp only [go_sem, *];try rfl)
 intro LB hLB
 have hLB2:∀ m,LB.ltB (S.length+(1+m))=true:=by intro m;rw [hLB];(simp only [go_sem, *];try rfl);simp;omega
 have HLB:=au hLB
 have HO:=au hO
 clear hLB hck hpt hO
 have e0:S++[aH.cells [AV.nilp,AV.sown (S.length+1) 0 0] (some 90),aH.arr 5 1 0 0 []]++[aH.obj (Obj.deferred (some [])),LB]=S++[aH.cells [EN S.length 0,.sown (S.length+1) 0 (fX (ps.take 0)).length] (some 90),aH.arr 5 1 0 0 ((fX (ps.take 0)).map iI),aH.obj (Obj.deferred (some [])),LB]:=by simp [EN,fX]
 rw [e0]
 refine hP (S.length+3) (S.length+4) (fun k=>S++[aH.cells [EN S.length k,.sown (S.length+1) k (fX (ps.take k)).length] (some 90),aH.arr 5 1 0 k ((fX (ps.take k)).map iI),aH.obj (Obj.deferred (some [])),LB]) (by simp) ?_ ?_ _ ?_
 ·intro k _
  have h7:=hLB2 3
  clear hP
  refine⟨by simp,bP.app HO.out ?_⟩
  rcases zw S.length k with e | e<;>rw [e]<;>(simp only [go_sem, *];try rfl)
 ·intro k q hx E R' hR1
  have hle:=CK ps (k+1)
  rw [rN hx,ab,ab] at hle
  have q1:q.1.length+q.2.length≤9223372036854775807:=by omega
  have hw:=Po w0 S
  have had:=zw S.length k
  have htk:=rN hx
  have HR:=au hR1
  have Htk:=au htk
  have Hws:∀ (T:List aH) (R:Rt),R (.ret (.tup [.int .i64 (q.1++q.2).length,.inil])) (S++(aH.cells [.own S.length 0,.sown (S.length+1) (k+1) (fX (ps.take (k+1))).length] (some 90)::.arr 5 1 0 (k+1) ((fX (ps.take (k+1))).map iI)::T)) →
   az Tryz.prog w0 40 [.own S.length 0,.str (q.1++q.2)] (S++(aH.cells [EN S.length k,.sown (S.length+1) k (fX (ps.take k)).length] (some 90)::.arr 5 1 0 k ((fX (ps.take k)).map iI)::T)) R:=by
   intro T R h
   refine Po w0 S T _ k _ _ had (by rw [ab];omega) R ?_
   rw [← htk];exact h
  have HR2:∀ E2,R' (.ret (.bool true)) (S++(aH.cells [.own S.length 0,.sown (S.length+1) (k+1) (fX (ps.take (k+1))).length] (some 90)::.arr 5 1 0 (k+1) ((fX (ps.take (k+1))).map iI)::aH.obj (Obj.deferred (some []))::LB::(E++E2))):=by
   intro E2
   have:=hR1 E2
   simpa only [ki,al,ap,EN] using this
  have HR3:=au HR2
  generalize fX (ps.take (k+1))=t1 at *
  generalize fX (ps.take k)=t0 at *
  generalize EN S.length k=ad0 at *
  clear hP hR1 HR HR2 htk Htk hw hle had hx
  apply rD HLB.out
  ·(simp only [go_sem, *];try rfl)
  ·rfl
  ·decide
  ·rfl
  ·rfl
  ·(simp only [go_sem, *];try rfl)
  intro rb BB hBB
  have HBB:=au hBB
  clear hBB
  repeat' first | refine st ?_ | (refine ca ?_;apply Hws) | (refine br ?_ ?_<;>intro hb) | fail
  apply rC
  ·(simp only [go_sem, *];try rfl)
  ·(simp only [go_sem, *];try rfl)
  repeat' first | refine st ?_ | (refine ca ?_;apply Hws) | (refine br ?_ ?_<;>intro hb) | fail
  apply Jd HLB.out HBB.out
  ·(simp only [go_sem, *];try rfl)
  ·(simp only [go_sem, *];try rfl)
  have key:=HR3.out []
  simpa only [ki,al,ap,aP] using key
 ·have htl:ps.take ps.length=ps:=bQ
  rw [htl]
  have hbs:=fun T=>Q9 w0 S T (EN S.length ps.length) ps.length (fX ps) (zw _ _) Hpos.out
  generalize EN S.length ps.length=ad0 at *
  clear hP hlen
  apply wd HLB.out rfl
  ·(simp only [go_sem, *];try rfl)
  ·(simp only [go_sem, *];try rfl)
  repeat' first | refine st ?_ | (refine ca ?_;apply hbs) | (refine br ?_ ?_<;>intro hb) | fail
  refine fR Tryz.results22 ?_
  exact H.out
theorem Ak (x:Nat):(cO (x:Int)).map aV=ln x:=by
 unfold cO ln
 rw [if_neg (by omega)];simp
theorem xw (x:Nat):1≤(cO (x:Int)).length:=by
 obtain⟨b,s,h,_⟩:=uB x
 rw [← Ak] at h
 have:=congrArg lz h
 simp at this;omega
theorem F4 (w0:World) (hT:Cl w0) (S:List aH) (x:Nat) (hx:x<10000) (R:Rt) (h:R (.ret (.tup [.str (cO x),.int .i64 0])) S):az Tryz.prog w0 22 [.sval false ([[(x:Int)]].map dA)] S R:=by
 have hi:=er (x:Int) (by omega) (by omega)
 have hi1:=xw x
 refine Ad w0 S [[(x:Int)]] ⟨by simp,by simp⟩ (by simp [tI,ep,jJ,nf];omega) [([],cO x)] (by simp [fX];omega) (by simp [fX];omega) ?_ R (by simpa [fX] using h)
 intro a n I ha hI hr R hR
 exact F6 w0 hT x hx a n ha (I 0) (I 1) (hI 0 (by simp)).1 (hI 1 (by simp)) (hr 0 _ rfl) R hR
theorem F3 (w0:World) (hT:Cl w0) (S:List aH) (x y:Nat) (hx:x<10000) (hy:y<10000) (R:Rt) (h:R (.ret (.tup [.str (cO x++59::cO y),.int .i64 0])) S):az Tryz.prog w0 22 [.sval false ([[(x:Int)],[(y:Int)]].map dA)] S R:=by
 have hi:=er (x:Int) (by omega) (by omega)
 have hj:=er (y:Int) (by omega) (by omega)
 have hi1:=xw x
 refine Ad w0 S [[(x:Int)],[(y:Int)]] ⟨by simp,by simp⟩ (by simp [tI,ep,jJ,nf];omega) [([],cO x),([59],cO y)] (by simp [fX];omega) (by simp [fX];omega) ?_ R (by simpa [fX] using h)
 intro a n I ha hI hr R hR
 exact F5 w0 hT x y hx hy a n ha (I 0) (I 1) (I 2) (hI 0 (by simp)).1 (hI 1 (by simp)) (hI 2 (by simp)) (hr 0 _ rfl) (hr 1 _ rfl) R hR
theorem J1 {x:Nat} (hx:x<10000):ep [[(x:Int)]]=true:=by simp [ep,jJ,nf];omega
theorem Dz {x y:Nat} (hx:x<10000) (hy:y<10000):ep [[(x:Int)],[(y:Int)]]=true:=by simp [ep,jJ,nf];omega
def js (x:Nat):Int:=if 1<(x:Int) then (x:Int) else 1
theorem ff {x:Nat} (hx:x<10000):1≤js x∧js x≤9999:=by
 unfold js
 split<;>omega
theorem fx (x:Nat):kF [[(x:Int)]]=js x∧eE [[(x:Int)]] 0 0=x:=by
 have:eE [[(x:Int)]] 0 0=x:=by simp [eE];omega
 refine⟨?_,this⟩
 unfold kF js
 rw [this]
theorem fK (x y:Nat):kF [[(x:Int)],[(y:Int)]]=js x∧eE [[(x:Int)],[(y:Int)]] 0 0=x∧eE [[(x:Int)],[(y:Int)]] 1 0=y:=by
 have:eE [[(x:Int)],[(y:Int)]] 0 0=x:=by simp [eE];omega
 refine⟨?_,this,by simp [eE];omega⟩
 unfold kF js
 rw [this]
theorem Ki (x:Nat):max 1 (x:Int)=js x:=by
 unfold js
 split<;>omega
theorem KX {k n m a b c d:Int} (hk:jD k=some (.rng a b,.rng c d)) (h1:k≠1) (h2:k≠39) (h3:k≠44∧k≠45∧k≠46) (hn:a≤n∧n≤b) (hm:c≤m∧m≤d):dU (ez k n m)=true:=by
 unfold dU ez dJ
 simp [hk,h1,h2,h3,Sp.ok,hn,hm]
theorem ft {k:Int}{l:List (List Int)}{n:Int} (hc:kF l=n) (hn:1≤n∧n≤9999) (hk:jD k=some (.rng 1 9999,.rng 0 0)) (h1:k≠1) (h2:k≠39) (h3:k≠44∧k≠45∧k≠46):(gH (.cnt k) l).filter dU=[ez k n 0]:=by
 have:=KX (n:=n) (m:=0) hk h1 h2 h3 hn (by decide)
 unfold gH
 rw [hc,gP,this];rfl
theorem nZ {k w:Int}{l:List (List Int)}{n:Int} (hc:kF l=n) (hn:1≤n∧n≤9999){a b:Int} (hk:jD k=some (.rng a b,.rng 1 9999)) (h1:k≠1) (h2:k≠39) (h3:k≠44∧k≠45∧k≠46) (hw:a≤w∧w≤b):(gH (.way k w) l).filter dU=[ez k w n]:=by
 have:=KX (n:=w) (m:=n) hk h1 h2 h3 hw hn
 unfold gH
 rw [hc,gP,this];rfl
theorem De {x y:Nat} (hx:x<10000) (hy:y<10000):(gH .cursor [[(x:Int)],[(y:Int)]]).filter dU=[ez 19 (js x) (js y)]:=by
 have:=KX (k:=19) (n:=js x) (m:=js y) rfl (by decide) (by decide) (by decide) (ff hx) (ff hy)
 unfold gH
 rw [(fK x y).1,(fK x y).2.2,Ki,gP,this];rfl
theorem Jc {x y:Nat} (hx:x<10000) (hy:y<10000):(gH .margins [[(x:Int)],[(y:Int)]]).filter dU=[ez 38 x y]:=by
 have:=KX (k:=38) (n:=x) (m:=y) (a:=0) (b:=9999) (c:=0) (d:=9999) rfl (by decide) (by decide) (by decide) (by omega) (by omega)
 unfold gH
 rw [(fK x y).2.1,(fK x y).2.2,gP,this];rfl
theorem Dd {k bit:Int}{x y:Nat} (hx:x<10000) (hy:y<10000) (hk:jD k=some (.rng 0 9999,.rng 0 1)) (h1:k≠1) (h2:k≠39) (h3:k≠44∧k≠45∧k≠46) (hb:0≤bit∧bit≤1):(gH (.modes k bit) [[(x:Int)],[(y:Int)]]).filter dU=[ez k x bit,ez k y bit]:=by
 have e1:=KX (n:=x) (m:=bit) hk h1 h2 h3 (by omega) hb
 have e2:=KX (n:=y) (m:=bit) hk h1 h2 h3 (by omega) hb
 have e:gH (.modes k bit) [[(x:Int)],[(y:Int)]]=[ez k (eE [[(x:Int)],[(y:Int)]] 0 0) bit,ez k (eE [[(x:Int)],[(y:Int)]] 1 0) bit]:=rfl
 rw [e,(fK x y).2.1,(fK x y).2.2,gP,e1,gP,e2];rfl
theorem LH {pv b:Nat}{q:Sq}{l:List (List Int)} (hq:nL ⟨pv,[],b⟩=some q) (hok:ep l=true):wo ⟨4,0,pv,b,l,[],[]⟩=(gH q l).filter dU:=by
 unfold wo lj td zk
 simp [hq,hok]
theorem DR (w0:World) (hB:lx w0){pv b:Nat}{q:Sq}{l:List (List Int)} (s:List UInt8) (hs:s.length≤4096) (hf:dH (cY 0) (s.map aV)=(cY 0,[⟨4,0,pv,b,l,[],[]⟩])) (hq:nL ⟨pv,[],b⟩=some q) (hnp:q≠.pens) (hok:ep l=true) (L:List Ac) (hL:(gH q l).filter dU=L) (hLl:L.length≤1000)
  (S:List aH) (R:Rt) (h:R (.ret (.bool true)) S):az Tryz.prog w0 19 [.str s,.sval false (L.map Ac.av)] S R:=by
 refine Pw w0 hB.hM hB.hW hB.hQ hB.hP S s hs _ hf ?_ L ?_ (by omega) R h
 ·unfold GS lj
  simp only [AG,List.all_nil,hq,hok]
  cases q<;>first | rfl | exact absurd rfl hnp
 ·simp only [kY,List.flatMap_nil,LH hq hok,hL,aP]
theorem vH (w0:World) (hB:lx w0){x:Nat} (hx:x<10000) (c:UInt8){q:Sq} (hq:nL ⟨0,[],c.toNat⟩=some q) (h1:64≤c.toNat) (h2:c.toNat<127) (hnp:q≠.pens) (L:List Ac) (hL:(gH q [[(x:Int)]]).filter dU=L) (hLl:L.length≤1000)
  (S:List aH) (R:Rt) (h:R (.ret (.bool true)) S):az Tryz.prog w0 19 [.str (27::91::(cO (x:Int)++[c])),.sval false (L.map Ac.av)] S R:=by
 have hi:=er (x:Int) (by omega) (by omega)
 refine DR w0 hB _ (by simp;omega) ?_ hq hnp (J1 hx) L hL hLl S R h
 have:=D4 (x:=x) (b:=c.toNat) (by omega) h1 h2
 simpa [Ak] using this
theorem yi (w0:World) (hB:lx w0){x y:Nat} (hx:x<10000) (hy:y<10000) (c:UInt8){q:Sq} (hq:nL ⟨0,[],c.toNat⟩=some q) (h1:64≤c.toNat) (h2:c.toNat<127) (hnp:q≠.pens) (L:List Ac) (hL:(gH q [[(x:Int)],[(y:Int)]]).filter dU=L) (hLl:L.length≤1000)
  (S:List aH) (R:Rt) (h:R (.ret (.bool true)) S):az Tryz.prog w0 19 [.str (27::91::((cO (x:Int)++59::cO (y:Int))++[c])),.sval false (L.map Ac.av)] S R:=by
 have hi:=er (x:Int) (by omega) (by omega)
 have hj:=er (y:Int) (by omega) (by omega)
 refine DR w0 hB _ (by simp;omega) ?_ hq hnp (Dz hx hy) L hL hLl S R h
 have:=D3 (x:=x) (y:=y) (b:=c.toNat) (by omega) (by omega) h1 h2
 simpa [Ak] using this
theorem Nh (w0:World) (hB:lx w0){x y:Nat} (hx:x<10000) (hy:y<10000) (c:UInt8){q:Sq} (hq:nL ⟨63,[],c.toNat⟩=some q) (h1:64≤c.toNat) (h2:c.toNat<127) (hnp:q≠.pens) (L:List Ac) (hL:(gH q [[(x:Int)],[(y:Int)]]).filter dU=L) (hLl:L.length≤1000)
  (S:List aH) (R:Rt) (h:R (.ret (.bool true)) S):az Tryz.prog w0 19 [.str (27::91::63::((cO (x:Int)++59::cO (y:Int))++[c])),.sval false (L.map Ac.av)] S R:=by
 have hi:=er (x:Int) (by omega) (by omega)
 have hj:=er (y:Int) (by omega) (by omega)
 refine DR w0 hB _ (by simp;omega) ?_ hq hnp (Dz hx hy) L hL hLl S R h
 have:=BE (x:=x) (y:=y) (b:=c.toNat) (by omega) (by omega) h1 h2
 simpa [Ak] using this
end Go.Proofs.YthdbijpefkapnaaGreatDoor
