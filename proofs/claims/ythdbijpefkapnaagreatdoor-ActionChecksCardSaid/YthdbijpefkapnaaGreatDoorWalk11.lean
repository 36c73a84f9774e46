/- YthdbijpefkapnaaGreatDoorWalk11. Texts of the proof of a law about texts: a layer of abstract values above the worlds, the types, the walks of the functions that the law reaches, the law and its card. Own work of an AI agent. -/
import Derived.Test.YthdbijpefkapnaaGreatDoorWalk10
import Derived.Test.YthdbijpefkapnaaGreatDoorCore4
import Derived.Test.YthdbijpefkapnaaGreatDoorWalk8
import Derived.Test.YthdbijpefkapnaaGreatDoorWalk7
set_option linter.all false
set_option maxHeartbeats 40000000
open And renaming intro → cD
open BitVec renaming ofInt → aD
open Bool renaming and_eq_true → aB, not_eq_false' → aA, not_eq_true' → ax, or_eq_true → fc
open Go.IntKind renaming i64 → ar
open Go.IntWalk renaming i64_in → ay
open Go.Lib renaming hid → au
open List renaming all_eq_true → aF, append_assoc → ai, cons_append → al, getElem?_append_right → aM, getElem?_eq_getElem → aC, length_append → ab, length_cons → ah, length_map → bB, length_nil → aj, map_append → co, map_nil → aL, mem_map → aX, mem_of_getElem? → aI, mem_of_mem_take → EJ, nil_append → ap, take → qR, take_add_one → pI, take_length → bQ, take_of_length_le → dW, take_take → tq, take_zero → ao
open Nat renaming le_trans → fb, min_comm → yd, zero_le → bI
open UInt8 renaming toNat → aV
namespace Go.Proofs.YthdbijpefkapnaaGreatDoor
open Go Go.Fen
attribute [local irreducible] ba WP az dI ie cU aR cw
set_option maxRecDepth 8000
theorem CL (p:Ps) (b:Nat):(fe p b).2.length≤2:=by
 have hd:∀ p e,(lm p e).2.length≤2:=fun p e=>fb (uA p e) (by decide)
 have hp:∀ q b,(jd q b).2.length≤2:=fun q b=>by
  unfold jd
  have h1:=qi (eh q.utf b).2 ({ cY 0 with utf:=(eh q.utf b).1 },[])
  have h2:=(kn q.utf b).2
  exact fb h1 (by simpa using h2)
 have hla:∀ p b,(mV p b).2.length≤2:=fun p b=>fb (DN p b) (by decide)
 have h1:∀ p b,(take1 p b).2.length≤2:=fun p b=>by
  unfold take1
  split
  ·exact hp _ _
  ·split
   ·simp
   ·split
    ·split<;>simp
    ·split
     ·unfold jY
      repeat' split
      all_goals first | exact hd _ _ | simp
     ·split
      ·exact hp _ _
      ·split
       ·split<;>simp
       ·split
        ·simp
        ·unfold eX
         split
         ·simp
         ·unfold BK
          repeat' split
          all_goals first | exact hd _ _ | simp
         ·unfold pT
          split
          ·simp
          ·exact hd _ _
         ·unfold lR
          repeat' split
          all_goals first | exact hla _ _ | simp
         ·unfold lR
          repeat' split
          all_goals first | exact hla _ _ | simp
         ·unfold jr
          repeat' split
          all_goals first | exact hla _ _ | simp
         ·unfold jr
          repeat' split
          all_goals first | exact hla _ _ | simp
         ·unfold kS
          repeat' split
          all_goals first | exact hla _ _ | simp
         ·unfold kS
          repeat' split
          all_goals first | exact hla _ _ | simp
         ·simp
 unfold fe
 split
 ·unfold xF
  repeat' split
  ·exact h1 _ _
  ·exact hd _ _
  ·exact hd _ _
  ·simp
 ·exact h1 _ _
theorem sF:∀ (s:List Nat) (p:Ps),(dH p s).2.length≤2 * s.length
 | [],p=>by simp [kB]
 | b::s,p=>by
  rw [eY]
  have h1:=sF s (fe p b).1
  have h2:=CL p b
  simp only [ab,ah];omega
theorem BF {s:List Nat}{i b:Nat} (p:Ps) (h:s[i]? = some b):dH p (s.take (i+1))=((fe (dH p (s.take i)).1 b).1,(dH p (s.take i)).2++(fe (dH p (s.take i)).1 b).2):=by
 rw [pI,h]
 show dH p (s.take i++[b])=_
 rw [il,eY,kB]
 simp
theorem ED (e:Ev):(Ev.av e).plain=true:=by simp only [Ev.av,go_sem,dA.plainL]
@[go_sem] theorem Ev.plainL (l:List Ev):plainL (l.map Ev.av)=true:=gk ED l
theorem I3 (w0:World) (S:List aH) (B C:aH) (p:Ps) (l:List Ev) (b:Nat) (hl:l.length≤900000) (hp:gq p) (hb:b<256) (R:Rt) (h:R (.ret (.tup [])) (S++[B,C,dV (fe p b).1 (S.length+3) (l++(fe p b).2).length,dZ (l++(fe p b).2)])) :
  az Tryz.prog w0 82 [.own (S.length+2) 0,.int .u8 b] (S++[B,C,dV p (S.length+3) l.length,dZ l]) R:=by
 have k:=Lb w0 (S++[B,C]) p l b hl hp hb R
 have e:(S++[B,C]).length=S.length+2:=by simp
 unfold aY at k
 rw [e] at k
 simp only [ai,al,ap] at k
 exact k h
theorem Lf (w0:World) (S:List aH) (p:Ps) (s:List Nat) (hp:gq p) (hs:s.length≤4096) (hb:∀ b∈s,b<256) (hck:∀ (S':List aH) (R:Rt),R (.ret (.int .i64 0)) S'→az Tryz.prog w0 81 [p.av] S' R) (R:Rt)
  (h:R (.ret (.tup [(dH p s).1.av,.sval false ((dH p s).2.map Ev.av),.int .i64 0])) S):az Tryz.prog w0 37 [p.av,.sval false (s.map By)] S R:=by
 have hgt:decide ((4096:Int)<(s.length:Int))=false:=by simp;omega
 have Hp:=au hp
 have Hb:=au hb
 have H:=au h
 clear hp hb h
 unfold Ps.av at hck ⊢
 refine eN Tryz.func37 rfl Tryz.ntmps37 fun hO=>?_
 repeat' first | refine st ?_ | (refine ca ?_;apply hck) | (refine br ?_ ?_<;>intro hb) | fail
 refine lD (a:=S.length+2) (j:=8) 40 7 ss ss (by decide) ?_
 simp only [go_sem, *]
 refine dX (fun (i:Nat) env S'=>i≤s.length∧env 1000000=.dfr []∧env 4=.own (S.length+1) 0∧env 8=.own (S.length+2) 0∧env 24=.sval false (s.map By)∧env 25=.int .i64 s.length∧env 26=.int .i64 (i:Int) ∧
  S'=S++[aH.cells [.int .i64 p.st,.sval false (p.utf.map By),.int .u8 p.pv,.int .u8 p.fn,.sval false (p.pars.map dA),.str p.inter,.str p.text,.bool p.bad],aH.cells [.int .i64 0,.snil,.int .u8 0,.int .u8 0,.snil,.str [],.str [],.bool false],dV (dH p (s.take i)).1 (S.length+3) (dH p (s.take i)).2.length,dZ (dH p (s.take i)).2]) (fun i=>s.length - i) 0 ?_ ?_
 ·exact⟨bI _,ss,ss,ss,ss,ss,ss,rfl⟩
 ·rintro i env S' ⟨hi,e0,f4,f8,f24,f25,f26,rfl⟩ IH
  have HI:=au IH
  clear IH hck
  by_cases hlt:i<s.length
  ·obtain⟨b,hx⟩:∃ b,s[i]? = some b:=⟨_,aC hlt⟩
   have h1:decide ((i:Int)<(s.length:Int))=true:=by simpa using hlt
   have hw:ar.wrap ((i:Int)+1)=((i+1:Nat):Int):=by rw [ay _ (by omega)];omega
   have hco:By b=.int .u8 b:=rfl
   have hpi:gq (dH p (s.take i)).1:=Ar _ _ Hp.out fun x hx=>Hb.out x (EJ hx)
   have hsu:=BF p hx
   have hle:=sF (s.take i) p
   have htk:(s.take i).length≤i:=List.length_take_le _ _
   generalize dH p (s.take i)=y at hsu hpi hle
   obtain⟨y1,y2⟩:=y
   simp only at hpi hle hsu
   have k1:=I3 w0 S (aH.cells [.int .i64 p.st,.sval false (p.utf.map By),.int .u8 p.pv,.int .u8 p.fn,.sval false (p.pars.map dA),.str p.inter,.str p.text,.bool p.bad]) (aH.cells [.int .i64 0,.snil,.int .u8 0,.int .u8 0,.snil,.str [],.str [],.bool false]) y1 y2 b (by omega) hpi (Hb.out b (aI hx))
   have Hsu:=au hsu
   have Hlt:=au hlt
   clear hsu hlt hpi hle htk hi
   simp only [dV,dZ] at k1 ⊢
   repeat' first | refine st ?_ | (refine ca ?_;apply k1) | (refine br ?_ ?_<;>intro hb) | fail
   refine HI.out (i+1) _ _ (by have:=Hlt.out;omega) ⟨Hlt.out, ?_, ?_, ?_, ?_, ?_, ?_, ?_⟩
   ·(simp only [go_sem, *];try rfl)
   ·(simp only [go_sem, *];try rfl)
   ·(simp only [go_sem, *];try rfl)
   ·(simp only [go_sem, *];try rfl)
   ·(simp only [go_sem, *];try rfl)
   ·(simp only [go_sem, *];try rfl)
   ·rw [Hsu.out]
    rfl
  ·have h1:decide ((i:Int)<(s.length:Int))=false:=by simpa using hlt
   have hie:i=s.length:=by omega
   have htk:s.take i=s:=dW (by omega)
   rw [htk]
   have hh:=H.out
   generalize dH p s=y at hh
   obtain⟨y1,y2⟩:=y
   unfold Ps.av at hh
   simp only at hh
   have H2:=au hh
   clear hlt hi hie htk HI hh H
   simp only [dV,dZ]
   repeat' first | refine st ?_ | (refine br ?_ ?_<;>intro hb) | refine sd ?_ | refine sx ?_ | apply aE | (apply aO;(· decide +kernel)) | refine bd ?_ ?_ | fail
   all_goals refine fR Tryz.results37 ?_
   all_goals exact H2.out
theorem C7 (w0:World) (S:List aH) (R:Rt) (h:R (.ret (.agg [.int .i64 1,.int .i64 0,.int .i64 130,.int .i64 0,.int .i64 136,.int .i64 146,.int .i64 192,.int .i64 192,.int .i64 0,.int .i64 136,.int .i64 146,.int .i64 244,.int .i64 244,.int .i64 0,.int .i64 0])) S):az Tryz.prog w0 161 [] S R:=by
 have H:=au h
 clear h
 refine eN Tryz.func161 rfl Tryz.ntmps161 fun hO=>?_
 repeat' first | refine st ?_ | (refine br ?_ ?_<;>intro hb) | fail
 refine fR Tryz.results161 ?_
 exact H.out
theorem C6 (w0:World) (S:List aH) (a:Nat) (what:Int) (R:Rt) (hw:(ar.wrap ((aD 64 1 &&& aD 64 what).toNat:Int) != 0)=false) (ha:S[a]? = some (.cells [.int .i64 1] none)) (h:R (.ret (.bool false)) S):az Tryz.prog w0 162 [.int .i64 what,.own a 0] S R:=by
 refine eN Tryz.func162 rfl Tryz.ntmps162 fun hO=>?_
 repeat' first | refine st ?_ | (refine br ?_ ?_<;>intro hb) | fail
 refine fR Tryz.results162 ?_
 exact(congrArg (fun z=>R (.ret (.bool z)) S) hw).mpr h
theorem FH (w0:World) (S:List aH) (R:Rt) (h:R (.ret (.int .i64 0)) S):az Tryz.prog w0 81 [(cY 0).av] S R:=by
 have hg:=C7 w0
 have hu:=fun S'=>yv w0 S' [] (by decide)
 have hpc:=fun S'=>p4 w0 S' [] ⟨by decide,by simp⟩
 have e1:fM []=true:=rfl
 have e2:tI []=0:=by decide
 rw [e1] at hu
 rw [e2] at hpc
 simp only [aL] at hu hpc
 have H:=au h
 clear h e1 e2
 rw [show (cY 0).av=.agg [.int .i64 0,.sval false [],.int .u8 0,.int .u8 0,.sval false [],.str [],.str [],.bool false] from rfl]
 refine eN Tryz.func81 rfl Tryz.ntmps81 fun hO=>?_
 refine share ?K1 ?hK1 fun key1=>?main1
 case main1 =>
  repeat' ((fail_if_success (apply bA 3));first | refine st ?_ | (refine br ?_ ?_<;>intro hb) | fail)
  repeat' ((fail_if_success (apply bA 9));first | refine st ?_ | (refine ca ?_;apply hg) | (refine br ?_ ?_<;>intro hb) | refine sd ?_ | apply aE | (apply aO;(· decide +kernel)) | refine bd ?_ ?_ | (refine cd ?_;apply hg) | fail)
  all_goals
   refine mf [1000000,1,4] ?_
   simp only [iz,go_sem]
   exact key1
 case hK1 =>
  rintro env ⟨e0,e1,e4⟩
  have h8:=fun R=>C6 w0 (S++[aH.cells [.int .i64 0,.sval false [],.int .u8 0,.int .u8 0,.sval false [],.str [],.str [],.bool false],aH.cells [.int .i64 1]]) (S.length+1) 8 R (by decide) (by rw [aM (by omega)];simp)
  have h32:=fun R=>C6 w0 (S++[aH.cells [.int .i64 0,.sval false [],.int .u8 0,.int .u8 0,.sval false [],.str [],.str [],.bool false],aH.cells [.int .i64 1]]) (S.length+1) 32 R (by decide) (by rw [aM (by omega)];simp)
  have h2:=fun R=>C6 w0 (S++[aH.cells [.int .i64 0,.sval false [],.int .u8 0,.int .u8 0,.sval false [],.str [],.str [],.bool false],aH.cells [.int .i64 1]]) (S.length+1) 2 R (by decide) (by rw [aM (by omega)];simp)
  simp only [List.append_eq,al,ap]
  refine eR (n:=120) mixed rfl ?_;refine xM 120 0 rfl (by decide +kernel) (by decide +kernel) (by decide +kernel) ?_
  repeat' first | refine st ?_ | (refine ca ?_;first | apply h8 | apply h32 | apply h2 | apply hu | apply hpc) | (refine br ?_ ?_<;>intro hb) | refine sq ?_ | (apply pX;(iterate 2 (· simp only [go_sem, *];try rfl));(· rfl);(· simp only [go_sem, *];try rfl);(· rfl);(· rfl);(· simp only [go_sem, *];try rfl);(· intro R hR;(first | apply h8 | apply h32 | apply h2 | apply hu | apply hpc);exact hR)) | (refine bq ?_ ?_;all_goals (intro hb;try simp only [ax,aA] at hb)) | fail
  clear h8 h32 h2 hu hpc
  apply oU
  ·(simp only [go_sem, *];try rfl)
  ·rfl
  ·(simp only [go_sem, *];try rfl)
  ·(simp only [go_sem, *];try rfl)
  ·(simp only [go_sem, *];try rfl)
  ·(simp only [go_sem, *];try rfl)
  ·rfl
  simp only [putA,aL]
  repeat' first | refine st ?_ | (refine br ?_ ?_<;>intro hb) | apply cP | apply eg | fail
  apply oU
  ·(simp only [go_sem, *];try rfl)
  ·rfl
  ·(simp only [go_sem, *];try rfl)
  ·(simp only [go_sem, *];try rfl)
  ·(simp only [go_sem, *];try rfl)
  ·(simp only [go_sem, *];try rfl)
  ·rfl
  simp only [putA,aL]
  repeat' first | refine st ?_ | (refine br ?_ ?_<;>intro hb) | apply cP | apply eg | fail
  refine fR Tryz.results81 ?_
  exact H.out
theorem Ly (w0:World) (S:List aH) (R:Rt) (h:R (.ret (.bool true)) S):az Tryz.prog w0 172 [.sval false [],.sval false [],.fn (.func 173) [] []] S R:=by
 refine eN Tryz.func172 rfl Tryz.ntmps172 fun hO=>?_
 repeat' first | refine st ?_ | (refine br ?_ ?_<;>intro hb) | apply cP | apply eg | fail
 refine fR Tryz.results172 ?_
 exact h
theorem JU (w0:World) (S:List aH) (R:Rt) (h:R (.ret (.bool true)) S):az Tryz.prog w0 84 [.sval false [],.sval false []] S R:=by
 have hf:=Ly w0
 refine eN Tryz.func84 rfl Tryz.ntmps84 fun hO=>?_
 repeat' first | refine st ?_ | (refine ca ?_;apply hf) | (refine br ?_ ?_<;>intro hb) | fail
 refine fR Tryz.results84 ?_
 exact h
theorem G9 (w0:World) (S:List aH) (R:Rt) (h:R (.ret (.bool true)) S):az Tryz.prog w0 83 [.sval false [],.sval false []] S R:=by
 refine eN Tryz.func83 rfl Tryz.ntmps83 fun hO=>?_
 repeat' first | refine st ?_ | (refine br ?_ ?_<;>intro hb) | fail
 refine fR Tryz.results83 ?_
 exact h
theorem I8 (w0:World) (S:List aH) (R:Rt) (h:R (.ret (.bool true)) S):az Tryz.prog w0 38 [(cY 0).av,(cY 0).av] S R:=by
 have hp:=JU w0
 have hb:=G9 w0
 rw [show (cY 0).av=.agg [.int .i64 0,.sval false [],.int .u8 0,.int .u8 0,.sval false [],.str [],.str [],.bool false] from rfl]
 refine eN Tryz.func38 rfl Tryz.ntmps38 fun hO=>?_
 repeat' first | refine st ?_ | (refine ca ?_;first | apply hp | apply hb) | (refine br ?_ ?_<;>intro hb) | fail
 refine fR Tryz.results38 ?_
 exact h
theorem FK (w0:World) (S:List aH) (L:List Ac) (hl:L.length≤1000000) (R:Rt) (h:R (.ret (.bool true)) S):az Tryz.prog w0 21 [.sval false (L.map Ac.av),.sval false (L.map Ac.av)] S R:=by
 have hb0:∀ l:List UInt8,(l==l)=true:=by simp
 have hb1:∀ i:Int,(i==i)=true:=by simp
 have hne:((L.length:Int) != (L.length:Int))=false:=by simp
 have H:=au h
 have Hl:=au hl
 clear h hl
 refine eN Tryz.func21 rfl Tryz.ntmps21 fun hO=>?_
 repeat' first | refine st ?_ | (refine br ?_ ?_<;>intro hb) | fail
 refine dX (fun (i:Nat) env S'=>i≤L.length∧env 1000000=.dfr []∧env 0=.sval false (L.map Ac.av)∧env 1=.sval false (L.map Ac.av)∧env 5=.int .i64 (i:Int)∧S'=S) (fun i=>L.length - i) 0 ?_ ?_
 ·exact⟨bI _,ss,ss,ss,ss,rfl⟩
 ·rintro i env S' ⟨hi,e0,f0,f1,f5,rfl⟩ IH
  have HI:=au IH
  clear IH
  by_cases hlt:i<L.length
  ·obtain⟨a,hx⟩:∃ a,L[i]? = some a:=⟨_,aC hlt⟩
   have h1:decide ((i:Int)<(L.length:Int))=true:=by simpa using hlt
   have hw:ar.wrap ((i:Int)+1)=((i+1:Nat):Int):=by have:=Hl.out;rw [ay _ (by omega)];omega
   obtain⟨k1,k2,k3,k4,k5,k6⟩:=a
   have hav:Ac.av ⟨k1,k2,k3,k4,k5,k6⟩=.agg [.int .i64 k1,.int .i64 k2,.int .i64 k3,.int .i64 k4,.int .i64 k5,.str k6]:=rfl
   have Hlt:=au hlt
   clear hlt hi
   repeat' first | refine st ?_ | (refine br ?_ ?_<;>intro hb) | refine sd ?_ | refine sx ?_ | apply aE | (apply aO;(· decide +kernel)) | refine bd ?_ ?_ | fail
   all_goals
    refine HI.out (i+1) _ _ (by have:=Hlt.out;omega) ⟨Hlt.out, ?_, ?_, ?_, ?_,rfl⟩
    all_goals (simp only [go_sem, *];try rfl)
  ·have h1:decide ((i:Int)<(L.length:Int))=false:=by simpa using hlt
   clear hlt hi HI
   repeat' first | refine st ?_ | (refine br ?_ ?_<;>intro hb) | fail
   refine fR Tryz.results21 ?_
   exact H.out
theorem Px (w0:World) (S:List aH) (k n m:Int) (R:Rt) (h:R (.ret (.agg [.int .i64 k,.int .i64 n,.int .i64 m,.int .i64 0,.int .i64 0,.str []])) S):az Tryz.prog w0 20 [.int .i64 k,.int .i64 n,.int .i64 m] S R:=by
 refine eN Tryz.func20 rfl Tryz.ntmps20 fun hO=>?_
 repeat' first | refine st ?_ | (refine br ?_ ?_<;>intro hb) | fail
 refine fR Tryz.results20 ?_
 exact h
theorem Bx {α β:Type}{f:α→List β}{l:List α}{i:Nat}{x:α} (h:l[i]? = some x):(l.take (i+1)).flatMap f=(l.take i).flatMap f++f x:=by
 rw [pI,h];simp
theorem GM {α β:Type} (f:α→List β) (l:List α) (i:Nat):((l.take i).flatMap f).length≤(l.flatMap f).length:=by
 have:l.flatMap f=(l.take i).flatMap f++(l.drop i).flatMap f:=by rw [← List.flatMap_append,List.take_append_drop]
 rw [this,ab];omega
def GS (e:Ev):Bool:=lj e&&(decide (e.text.length≤8192)&&(match nL ⟨e.priv,e.inter,e.fin⟩ with | some .pens=>false | _=>true))
theorem Pw (w0:World) (hM:lY w0) (hW:lW w0) (hQ:nJ w0) (hQ2:lX w0) (S:List aH) (s:List UInt8) (hs:s.length≤4096) (evs:List Ev) (hf:dH (cY 0) (s.map aV)=(cY 0,evs)) (he:evs.all GS=true) (L:List Ac) (hL:evs.flatMap wo=L) (hLl:L.length≤100000)
  (R:Rt) (h:R (.ret (.bool true)) S):az Tryz.prog w0 19 [.str s,.sval false (L.map Ac.av)] S R:=by
 have hel:evs.length≤10000:=by
  have:=sF (s.map aV) (cY 0)
  rw [hf,bB] at this
  simp only at this;omega
 have hfd:=fun S'=>Lf w0 S' (cY 0) (s.map aV) (gq.beg (by decide)) (by rw [bB];exact hs) (by intro b hb;obtain⟨x,_,rfl⟩:=aX.1 hb;exact x.toNat_lt) (FH w0)
 rw [hf,List.map_map] at hfd
 have hbv:s.map jn=s.map (By∘aV):=rfl
 rw [← hbv,show (cY 0).av=.agg [.int .i64 0,.sval false [],.int .u8 0,.int .u8 0,.sval false [],.str [],.str [],.bool false] from rfl] at hfd
 simp only at hfd
 have hof:=fun S' (e:Ev) (h:e∈evs)=>by
  have h1:=aF.1 he e h
  unfold GS at h1
  simp only [aB,decide_eq_true_eq] at h1
  have hsh:oI e.pars:=by
   have h2:=h1.1
   unfold lj ep at h2
   simp only [aB,decide_eq_true_eq,ax,List.any_eq_false] at h2
   refine⟨by omega,fun x hx=>?_⟩
   have:=h2.2.2.2 x hx
   unfold jJ at this
   simp only [fc,not_or,decide_eq_true_eq] at this
   omega
  have:=Nr w0 hM hW hQ hQ2 S' e hsh h1.2.1 (fun _ _ hp=>by rw [hp] at h1;cases h1.2.2)
  rw [h1.1] at this
  simp only [if_true] at this
  exact this
 have hsm:=I8 w0
 rw [show (cY 0).av=.agg [.int .i64 0,.sval false [],.int .u8 0,.int .u8 0,.sval false [],.str [],.str [],.bool false] from rfl] at hsm
 have hr9:=fun S'=>FK w0 S' L (by omega)
 have H:=au h
 have HOf:=au hof
 have HSm:=au hsm
 have HR9:=au hr9
 have HLL:=au (cD hL (cD hLl hel))
 clear h hof hsm hr9 hf hbv hL hLl he hel
 refine eN Tryz.func19 rfl Tryz.ntmps19 fun hO=>?_
 repeat' first | refine st ?_ | (refine br ?_ ?_<;>intro hb) | fail
 apply oU
 ·(simp only [go_sem, *];try rfl)
 ·rfl
 ·(simp only [go_sem, *];try rfl)
 ·(simp only [go_sem, *];try rfl)
 ·(simp only [go_sem, *];try rfl)
 ·(simp only [go_sem, *];try rfl)
 ·rfl
 simp only [putA]
 have hpl:plainL (s.map jn)=true:=gk (fun _=>rfl) s
 repeat' first | refine st ?_ | (refine ca ?_;apply hfd) | (refine br ?_ ?_<;>intro hb) | fail
 refine nW (t:=8) (e:=25) (sz:=6) ss (by decide) ?_
 clear hfd hpl
 refine dX (fun (i:Nat) env S'=>i≤evs.length∧env 1000000=.dfr []∧env 1=.sval false (L.map Ac.av)∧env 5=.own S.length 0∧env 6=.sval false (evs.map Ev.av)∧env 7=.int .i64 0∧env 8=.sown (S.length+1) i ((evs.take i).flatMap wo).length∧env 9=.int .i64 (i:Int) ∧
  S'=S++[.cells [.int .i64 0,.sval false [],.int .u8 0,.int .u8 0,.sval false [],.str [],.str [],.bool false] none,.arr 25 6 0 i (((evs.take i).flatMap wo).map Ac.av)]) (fun i=>evs.length - i) 0 ?_ ?_
 ·exact⟨bI _,ss,ss,ss,ss,ss,by simp only [ao,List.flatMap_nil,aj];(simp only [go_sem, *];try rfl),ss,by simp⟩
 ·rintro i env S' ⟨hi,e0,f1,f5,f6,f7,f8,f9,rfl⟩ IH
  have HI:=au IH
  clear IH
  by_cases hlt:i<evs.length
  ·obtain⟨e,hx⟩:∃ e,evs[i]? = some e:=⟨_,aC hlt⟩
   have h1:decide ((i:Int)<(evs.length:Int))=true:=by simpa using hlt
   have hw:ar.wrap ((i:Int)+1)=((i+1:Nat):Int):=by have:=HLL.out.2.2;rw [ay _ (by omega)];omega
   have Hsu:=au (Bx (f:=wo) hx)
   have hc:=fun S'=>HOf.out S' e (aI hx)
   have hfl:=GM wo evs (i+1)
   rw [HLL.out.1,Hsu.out,ab] at hfl
   have hfl2:=HLL.out.2.1
   generalize (evs.take i).flatMap wo=F at hfl Hsu f8 ⊢
   generalize hG:wo e=G at hfl Hsu hc
   have hb:(F.length+G.length) * 56≤140737488355328:=by omega
   have okG:=Ac.ok G
   simp only [dz,AV.cells] at okG
   have Hlt:=au hlt
   obtain⟨k1,k2,k3,k4,k5,k6,k7⟩:=e
   have hev:Ev.av ⟨k1,k2,k3,k4,k5,k6,k7⟩=.agg [.int .i64 k1,.int .i64 k2,.int .u8 k3,.int .u8 k4,.sval false (k5.map dA),.str k6,.str k7]:=rfl
   rw [hev] at hc
   clear hlt hi hfl hfl2 hG
   repeat' first | refine st ?_ | (refine ca ?_;apply hc) | (refine br ?_ ?_<;>intro hb) | fail
   refine HI.out (i+1) _ _ (by have:=Hlt.out;omega) ⟨Hlt.out, ?_, ?_, ?_, ?_, ?_, ?_, ?_, ?_⟩
   ·(simp only [go_sem, *];try rfl)
   ·(simp only [go_sem, *];try rfl)
   ·(simp only [go_sem, *];try rfl)
   ·(simp only [go_sem, *];try rfl)
   ·(simp only [go_sem, *];try rfl)
   ·rw [Hsu.out,ab];(simp only [go_sem, *];try rfl)
   ·(simp only [go_sem, *];try rfl)
   ·rw [Hsu.out,co]
  ·have h1:decide ((i:Int)<(evs.length:Int))=false:=by simpa using hlt
   have htk:evs.take i=evs:=dW (by omega)
   rw [htk,HLL.out.1] at f8
   rw [htk,HLL.out.1]
   have hsm:=HSm.out
   have hr9:=HR9.out
   have hle:(L.map Ac.av).length=L.length:=by simp
   clear hlt hi htk HI
   repeat' ((fail_if_success (apply bA 10));first | refine st ?_ | (refine br ?_ ?_<;>intro hb) | fail)
   refine ja (S.length+1) ss ?_
   repeat' first | refine st ?_ | (refine ca ?_;first | apply hsm | apply hr9) | (refine br ?_ ?_<;>intro hb) | fail
   refine fR Tryz.results19 ?_
   exact H.out
structure lx (w0:World):Prop where
 hM:lY w0
 hW:lW w0
 hQ:nJ w0
 hP:lX w0
def Py (s:List UInt8) (L:List Ac):Bool :=
 decide (dH (cY 0) (s.map aV)=(cY 0,(dH (cY 0) (s.map aV)).2))&&((dH (cY 0) (s.map aV)).2.all GS&&(decide ((dH (cY 0) (s.map aV)).2.flatMap wo=L)&&(decide (L.length≤1000))))
theorem wq (w0:World) (hB:lx w0) (s:List UInt8) (L:List Ac) (hs:s.length≤4096) (h:Py s L=true) (S:List aH) (R:Rt) (hR:R (.ret (.bool true)) S):az Tryz.prog w0 19 [.str s,.sval false (L.map Ac.av)] S R:=by
 unfold Py at h
 simp only [aB,decide_eq_true_eq] at h
 exact Pw w0 hB.hM hB.hW hB.hQ hB.hP S s hs _ h.1 h.2.1 L h.2.2.1 (by omega) R hR
theorem Q0 (w0:World) (hB:lx w0):∀ (S:List aH) (R:Rt),R (.ret (.bool true)) S→az Tryz.prog w0 19 [.str [27,91,53,59,48,72,27,91,72],.sval false [.agg [.int .i64 19,.int .i64 5,.int .i64 1,.int .i64 0,.int .i64 0,.str []],.agg [.int .i64 19,.int .i64 1,.int .i64 1,.int .i64 0,.int .i64 0,.str []]]] S R :=
 fun S R h=>wq w0 hB [27,91,53,59,48,72,27,91,72] [ez 19 5 1,ez 19 1 1] (by decide +kernel) (by decide +kernel) S R h
theorem QZ (w0:World) (hB:lx w0):∀ (S:List aH) (R:Rt),R (.ret (.bool true)) S→az Tryz.prog w0 19 [.str [27,91,63,50,53,59,55,108],.sval false [.agg [.int .i64 37,.int .i64 25,.int .i64 0,.int .i64 0,.int .i64 0,.str []],.agg [.int .i64 37,.int .i64 7,.int .i64 0,.int .i64 0,.int .i64 0,.str []]]] S R :=
 fun S R h=>wq w0 hB [27,91,63,50,53,59,55,108] [ez 37 25 0,ez 37 7 0] (by decide +kernel) (by decide +kernel) S R h
theorem QY (w0:World) (hB:lx w0):∀ (S:List aH) (R:Rt),R (.ret (.bool true)) S→az Tryz.prog w0 19 [.str [27,91,51,75,27,91,50,75],.sval false [.agg [.int .i64 27,.int .i64 2,.int .i64 0,.int .i64 0,.int .i64 0,.str []]]] S R :=
 fun S R h=>wq w0 hB [27,91,51,75,27,91,50,75] [ez 27 2 0] (by decide +kernel) (by decide +kernel) S R h
theorem QX (w0:World) (hB:lx w0):∀ (S:List aH) (R:Rt),R (.ret (.bool true)) S→az Tryz.prog w0 19 [.str [27,41,48,27,40,65],.sval false [.agg [.int .i64 17,.int .i64 1,.int .i64 1,.int .i64 0,.int .i64 0,.str []]]] S R :=
 fun S R h=>wq w0 hB [27,41,48,27,40,65] [ez 17 1 1] (by decide +kernel) (by decide +kernel) S R h
theorem QW (w0:World) (hB:lx w0):∀ (S:List aH) (R:Rt),R (.ret (.bool true)) S→az Tryz.prog w0 19 [.str [27,91,63,54,36,112,27,91,52,32,113],.sval false [.agg [.int .i64 43,.int .i64 6,.int .i64 1,.int .i64 0,.int .i64 0,.str []],.agg [.int .i64 40,.int .i64 4,.int .i64 0,.int .i64 0,.int .i64 0,.str []]]] S R :=
 fun S R h=>wq w0 hB [27,91,63,54,36,112,27,91,52,32,113] [ez 43 6 1,ez 40 4 0] (by decide +kernel) (by decide +kernel) S R h
theorem QV (w0:World) (hB:lx w0):∀ (S:List aH) (R:Rt),R (.ret (.bool true)) S→az Tryz.prog w0 19 [.str [27,93,50,59,116,7,5],.sval false [.agg [.int .i64 44,.int .i64 0,.int .i64 0,.int .i64 0,.int .i64 0,.str [116]]]] S R :=
 fun S R h=>wq w0 hB [27,93,50,59,116,7,5] [⟨44,0,0,0,0,[116]⟩] (by decide +kernel) (by decide +kernel) S R h
theorem Nb (w0:World) (hB:lx w0):∀ (S:List aH) (R:Rt),R (.ret (.tup [.sval false [],.int .i64 0])) S→az Tryz.prog w0 17 [.agg [.int .i64 1,.int .i64 159,.int .u8 0,.int .u8 0,.sval false [],.str [],.str []]] S R:=by
 intro S R h
 have e1:lj ⟨1,159,0,0,[],[],[]⟩=true:=by decide +kernel
 have e2:wo ⟨1,159,0,0,[],[],[]⟩=[]:=by decide +kernel
 have k:=Nr w0 hB.hM hB.hW hB.hQ hB.hP S ⟨1,159,0,0,[],[],[]⟩ ⟨by decide,by simp⟩ (by decide) (fun _ hk=>by cases hk) R
 rw [e1,e2] at k
 exact k h
theorem vG (w0:World) (hB:lx w0) (S:List aH) (R:Rt) (h:R (.ret (.bool true)) S):az Tryz.prog w0 13 [] S R:=by
 have hac:=Px w0
 have h9:=Nb w0 hB
 have k0:=Q0 w0 hB
 have k1:=QZ w0 hB
 have k2:=QY w0 hB
 have k3:=QX w0 hB
 have k4:=QW w0 hB
 have k5:=QV w0 hB
 have e0:(((0:Nat):Int)==0)=true:=rfl
 have H:=au h
 clear h hB
 refine eN Tryz.func13 rfl Tryz.ntmps13 fun hO=>?_
 repeat' ((fail_if_success (apply dE 8 rfl));first | refine st ?_ | (refine ca ?_;first | apply hac | apply h9) | (refine br ?_ ?_<;>intro hb) | fail)
 refine ja (S.length) ss ?_
 repeat' ((fail_if_success (apply dE 13 rfl));first | refine st ?_ | (refine ca ?_;first | apply hac | apply h9 | apply k0) | (refine br ?_ ?_<;>intro hb) | fail)
 refine ja (S.length+1) ss ?_
 repeat' ((fail_if_success (apply dE 18 rfl));first | refine st ?_ | (refine ca ?_;first | apply hac | apply h9 | apply k0 | apply k1) | (refine br ?_ ?_<;>intro hb) | fail)
 refine ja (S.length+2) ss ?_
 repeat' ((fail_if_success (apply dE 22 rfl));first | refine st ?_ | (refine ca ?_;first | apply hac | apply h9 | apply k0 | apply k1 | apply k2) | (refine br ?_ ?_<;>intro hb) | fail)
 refine ja (S.length+3) ss ?_
 repeat' ((fail_if_success (apply dE 27 rfl));first | refine st ?_ | (refine ca ?_;first | apply hac | apply h9 | apply k0 | apply k1 | apply k2 | apply k3) | (refine br ?_ ?_<;>intro hb) | fail)
 refine ja (S.length+4) ss ?_
 repeat' ((fail_if_success (apply dE 41 rfl));first | refine st ?_ | (refine ca ?_;first | apply hac | apply h9 | apply k0 | apply k1 | apply k2 | apply k3 | apply k4) | (refine br ?_ ?_<;>intro hb) | fail)
 refine ja (S.length+5) ss ?_
 repeat' first | refine st ?_ | (refine ca ?_;first | apply hac | apply h9 | apply k0 | apply k1 | apply k2 | apply k3 | apply k4 | apply k5) | (refine br ?_ ?_<;>intro hb) | fail
 refine fR Tryz.results13 ?_
 exact H.out
theorem Nm (w0:World) (hB:lx w0) (a:Ac) (v:Int) (hv:(if dU a then 0 else 200)=v) (hm:uI a.m) (ht:a.text.length≤10000):∀ (S:List aH) (R:Rt),R (.ret (.int .i64 v)) S→az Tryz.prog w0 11 [a.av] S R:=by
 intro S R h
 subst hv
 exact ng w0 hB.hM hB.hW hB.hQ S a hm ht R h
theorem KJ (w0:World) (hB:lx w0):∀ (S:List aH) (R:Rt),R (.ret (.int .i64 200)) S→az Tryz.prog w0 11 [.agg [.int .i64 19,.int .i64 1,.int .i64 10000,.int .i64 0,.int .i64 0,.str []]] S R :=
 Nm w0 hB (ez 19 1 10000) 200 (by decide +kernel) ⟨by decide,by decide⟩ (by decide)
def bf (k n m rgb:Nat) (t:List UInt8):AV:=.agg [.int .u16 k,.int .u16 n,.int .u16 m,.int .u32 rgb,.str t]
def xe (k m:Nat):Int:=match k with
 | 1=>[4,8,16,32,64,128,1,2].getD (m % 8) 0
 | 2=>[4,8,16,32,64,128,3].getD (m % 7) 0
 | 3=>((m % 6:Nat):Int)
 | _=>0
def n7 (k m rgb:Nat):Int × Int:=if 4≤k then (match m % 4 with
 | 1=>(2,((rgb % 16777216:Nat):Int))
 | 2=>(1,((rgb % 256:Nat):Int))
 | 3=>(1,((rgb % 18:Nat):Int))
 | _=>(0,0)) else (0,0)
def ua (n m rgb:Nat):Ac:=⟨39,((n % 7:Nat):Int),xe (n % 7) m,(n7 (n % 7) m rgb).1,(n7 (n % 7) m rgb).2,[]⟩
theorem M7 (w0:World) (S:List aH) (d n m rgb:Nat) (t:List UInt8) (hn:n % 7=0) (R:Rt) (h:R (.ret (.agg [.int .i64 39,.int .i64 0,.int .i64 0,.int .i64 0,.int .i64 0,.str []])) S):az Tryz.prog w0 24 [bf d n m rgb t] S R:=by
 have hw:(n:Int).tmod 7=0:=by have:=gm n 7;rw [hn] at this;exact this
 clear hn
 unfold bf
 refine eN Tryz.func24 rfl Tryz.ntmps24 fun hO=>?_
 repeat' first | refine st ?_ | (refine br ?_ ?_<;>intro hb) | fail
 refine fR Tryz.results24 ?_
 exact h
theorem JP (w0:World) (S:List aH) (d n m rgb:Nat) (t:List UInt8) (hn:n % 7=1) (hm:m % 8=0) (R:Rt) (h:R (.ret (.agg [.int .i64 39,.int .i64 1,.int .i64 4,.int .i64 0,.int .i64 0,.str []])) S):az Tryz.prog w0 24 [bf d n m rgb t] S R:=by
 have hw:(n:Int).tmod 7=1:=by have:=gm n 7;rw [hn] at this;exact this
 have hv:(m:Int).tmod 8=0:=by have:=gm m 8;rw [hm] at this;exact this
 clear hm
 clear hn
 unfold bf
 refine eN Tryz.func24 rfl Tryz.ntmps24 fun hO=>?_
 repeat' ((fail_if_success (apply bA 5));first | refine st ?_ | (refine br ?_ ?_<;>intro hb) | fail)
 refine gV (t:=4) (a:=S.length+3) (o:=0) ss ss ?_
 repeat' first | refine st ?_ | (refine br ?_ ?_<;>intro hb) | refine sd ?_ | apply aE | (apply aO;(· decide +kernel)) | refine bd ?_ ?_ | fail
 refine fR Tryz.results24 ?_
 exact h
theorem JO (w0:World) (S:List aH) (d n m rgb:Nat) (t:List UInt8) (hn:n % 7=1) (hm:m % 8=1) (R:Rt) (h:R (.ret (.agg [.int .i64 39,.int .i64 1,.int .i64 8,.int .i64 0,.int .i64 0,.str []])) S):az Tryz.prog w0 24 [bf d n m rgb t] S R:=by
 have hw:(n:Int).tmod 7=1:=by have:=gm n 7;rw [hn] at this;exact this
 have hv:(m:Int).tmod 8=1:=by have:=gm m 8;rw [hm] at this;exact this
 clear hm
 clear hn
 unfold bf
 refine eN Tryz.func24 rfl Tryz.ntmps24 fun hO=>?_
 repeat' ((fail_if_success (apply bA 5));first | refine st ?_ | (refine br ?_ ?_<;>intro hb) | fail)
 refine gV (t:=4) (a:=S.length+3) (o:=0) ss ss ?_
 repeat' first | refine st ?_ | (refine br ?_ ?_<;>intro hb) | refine sd ?_ | apply aE | (apply aO;(· decide +kernel)) | refine bd ?_ ?_ | fail
 refine fR Tryz.results24 ?_
 exact h
theorem JN (w0:World) (S:List aH) (d n m rgb:Nat) (t:List UInt8) (hn:n % 7=1) (hm:m % 8=2) (R:Rt) (h:R (.ret (.agg [.int .i64 39,.int .i64 1,.int .i64 16,.int .i64 0,.int .i64 0,.str []])) S):az Tryz.prog w0 24 [bf d n m rgb t] S R:=by
 have hw:(n:Int).tmod 7=1:=by have:=gm n 7;rw [hn] at this;exact this
 have hv:(m:Int).tmod 8=2:=by have:=gm m 8;rw [hm] at this;exact this
 clear hm
 clear hn
 unfold bf
 refine eN Tryz.func24 rfl Tryz.ntmps24 fun hO=>?_
 repeat' ((fail_if_success (apply bA 5));first | refine st ?_ | (refine br ?_ ?_<;>intro hb) | fail)
 refine gV (t:=4) (a:=S.length+3) (o:=0) ss ss ?_
 repeat' first | refine st ?_ | (refine br ?_ ?_<;>intro hb) | refine sd ?_ | apply aE | (apply aO;(· decide +kernel)) | refine bd ?_ ?_ | fail
 refine fR Tryz.results24 ?_
 exact h
theorem JM (w0:World) (S:List aH) (d n m rgb:Nat) (t:List UInt8) (hn:n % 7=1) (hm:m % 8=3) (R:Rt) (h:R (.ret (.agg [.int .i64 39,.int .i64 1,.int .i64 32,.int .i64 0,.int .i64 0,.str []])) S):az Tryz.prog w0 24 [bf d n m rgb t] S R:=by
 have hw:(n:Int).tmod 7=1:=by have:=gm n 7;rw [hn] at this;exact this
 have hv:(m:Int).tmod 8=3:=by have:=gm m 8;rw [hm] at this;exact this
 clear hm
 clear hn
 unfold bf
 refine eN Tryz.func24 rfl Tryz.ntmps24 fun hO=>?_
 repeat' ((fail_if_success (apply bA 5));first | refine st ?_ | (refine br ?_ ?_<;>intro hb) | fail)
 refine gV (t:=4) (a:=S.length+3) (o:=0) ss ss ?_
 repeat' first | refine st ?_ | (refine br ?_ ?_<;>intro hb) | refine sd ?_ | apply aE | (apply aO;(· decide +kernel)) | refine bd ?_ ?_ | fail
 refine fR Tryz.results24 ?_
 exact h
theorem JL (w0:World) (S:List aH) (d n m rgb:Nat) (t:List UInt8) (hn:n % 7=1) (hm:m % 8=4) (R:Rt) (h:R (.ret (.agg [.int .i64 39,.int .i64 1,.int .i64 64,.int .i64 0,.int .i64 0,.str []])) S):az Tryz.prog w0 24 [bf d n m rgb t] S R:=by
 have hw:(n:Int).tmod 7=1:=by have:=gm n 7;rw [hn] at this;exact this
 have hv:(m:Int).tmod 8=4:=by have:=gm m 8;rw [hm] at this;exact this
 clear hm
 clear hn
 unfold bf
 refine eN Tryz.func24 rfl Tryz.ntmps24 fun hO=>?_
 repeat' ((fail_if_success (apply bA 5));first | refine st ?_ | (refine br ?_ ?_<;>intro hb) | fail)
 refine gV (t:=4) (a:=S.length+3) (o:=0) ss ss ?_
 repeat' first | refine st ?_ | (refine br ?_ ?_<;>intro hb) | refine sd ?_ | apply aE | (apply aO;(· decide +kernel)) | refine bd ?_ ?_ | fail
 refine fR Tryz.results24 ?_
 exact h
theorem JK (w0:World) (S:List aH) (d n m rgb:Nat) (t:List UInt8) (hn:n % 7=1) (hm:m % 8=5) (R:Rt) (h:R (.ret (.agg [.int .i64 39,.int .i64 1,.int .i64 128,.int .i64 0,.int .i64 0,.str []])) S):az Tryz.prog w0 24 [bf d n m rgb t] S R:=by
 have hw:(n:Int).tmod 7=1:=by have:=gm n 7;rw [hn] at this;exact this
 have hv:(m:Int).tmod 8=5:=by have:=gm m 8;rw [hm] at this;exact this
 clear hm
 clear hn
 unfold bf
 refine eN Tryz.func24 rfl Tryz.ntmps24 fun hO=>?_
 repeat' ((fail_if_success (apply bA 5));first | refine st ?_ | (refine br ?_ ?_<;>intro hb) | fail)
 refine gV (t:=4) (a:=S.length+3) (o:=0) ss ss ?_
 repeat' first | refine st ?_ | (refine br ?_ ?_<;>intro hb) | refine sd ?_ | apply aE | (apply aO;(· decide +kernel)) | refine bd ?_ ?_ | fail
 refine fR Tryz.results24 ?_
 exact h
theorem JJ (w0:World) (S:List aH) (d n m rgb:Nat) (t:List UInt8) (hn:n % 7=1) (hm:m % 8=6) (R:Rt) (h:R (.ret (.agg [.int .i64 39,.int .i64 1,.int .i64 1,.int .i64 0,.int .i64 0,.str []])) S):az Tryz.prog w0 24 [bf d n m rgb t] S R:=by
 have hw:(n:Int).tmod 7=1:=by have:=gm n 7;rw [hn] at this;exact this
 have hv:(m:Int).tmod 8=6:=by have:=gm m 8;rw [hm] at this;exact this
 clear hm
 clear hn
 unfold bf
 refine eN Tryz.func24 rfl Tryz.ntmps24 fun hO=>?_
 repeat' ((fail_if_success (apply bA 5));first | refine st ?_ | (refine br ?_ ?_<;>intro hb) | fail)
 refine gV (t:=4) (a:=S.length+3) (o:=0) ss ss ?_
 repeat' first | refine st ?_ | (refine br ?_ ?_<;>intro hb) | refine sd ?_ | apply aE | (apply aO;(· decide +kernel)) | refine bd ?_ ?_ | fail
 refine fR Tryz.results24 ?_
 exact h
theorem JI (w0:World) (S:List aH) (d n m rgb:Nat) (t:List UInt8) (hn:n % 7=1) (hm:m % 8=7) (R:Rt) (h:R (.ret (.agg [.int .i64 39,.int .i64 1,.int .i64 2,.int .i64 0,.int .i64 0,.str []])) S):az Tryz.prog w0 24 [bf d n m rgb t] S R:=by
 have hw:(n:Int).tmod 7=1:=by have:=gm n 7;rw [hn] at this;exact this
 have hv:(m:Int).tmod 8=7:=by have:=gm m 8;rw [hm] at this;exact this
 clear hm
 clear hn
 unfold bf
 refine eN Tryz.func24 rfl Tryz.ntmps24 fun hO=>?_
 repeat' ((fail_if_success (apply bA 5));first | refine st ?_ | (refine br ?_ ?_<;>intro hb) | fail)
 refine gV (t:=4) (a:=S.length+3) (o:=0) ss ss ?_
 repeat' first | refine st ?_ | (refine br ?_ ?_<;>intro hb) | refine sd ?_ | apply aE | (apply aO;(· decide +kernel)) | refine bd ?_ ?_ | fail
 refine fR Tryz.results24 ?_
 exact h
theorem JG (w0:World) (S:List aH) (d n m rgb:Nat) (t:List UInt8) (hn:n % 7=2) (hm:m % 7=0) (R:Rt) (h:R (.ret (.agg [.int .i64 39,.int .i64 2,.int .i64 4,.int .i64 0,.int .i64 0,.str []])) S):az Tryz.prog w0 24 [bf d n m rgb t] S R:=by
 have hw:(n:Int).tmod 7=2:=by have:=gm n 7;rw [hn] at this;exact this
 have hv:(m:Int).tmod 7=0:=by have:=gm m 7;rw [hm] at this;exact this
 clear hm
 clear hn
 unfold bf
 refine eN Tryz.func24 rfl Tryz.ntmps24 fun hO=>?_
 repeat' ((fail_if_success (apply bA 7));first | refine st ?_ | (refine br ?_ ?_<;>intro hb) | fail)
 refine gV (t:=4) (a:=S.length+3) (o:=0) ss ss ?_
 repeat' first | refine st ?_ | (refine br ?_ ?_<;>intro hb) | refine sd ?_ | apply aE | (apply aO;(· decide +kernel)) | refine bd ?_ ?_ | fail
 refine fR Tryz.results24 ?_
 exact h
theorem JF (w0:World) (S:List aH) (d n m rgb:Nat) (t:List UInt8) (hn:n % 7=2) (hm:m % 7=1) (R:Rt) (h:R (.ret (.agg [.int .i64 39,.int .i64 2,.int .i64 8,.int .i64 0,.int .i64 0,.str []])) S):az Tryz.prog w0 24 [bf d n m rgb t] S R:=by
 have hw:(n:Int).tmod 7=2:=by have:=gm n 7;rw [hn] at this;exact this
 have hv:(m:Int).tmod 7=1:=by have:=gm m 7;rw [hm] at this;exact this
 clear hm
 clear hn
 unfold bf
 refine eN Tryz.func24 rfl Tryz.ntmps24 fun hO=>?_
 repeat' ((fail_if_success (apply bA 7));first | refine st ?_ | (refine br ?_ ?_<;>intro hb) | fail)
 refine gV (t:=4) (a:=S.length+3) (o:=0) ss ss ?_
 repeat' first | refine st ?_ | (refine br ?_ ?_<;>intro hb) | refine sd ?_ | apply aE | (apply aO;(· decide +kernel)) | refine bd ?_ ?_ | fail
 refine fR Tryz.results24 ?_
 exact h
theorem JE (w0:World) (S:List aH) (d n m rgb:Nat) (t:List UInt8) (hn:n % 7=2) (hm:m % 7=2) (R:Rt) (h:R (.ret (.agg [.int .i64 39,.int .i64 2,.int .i64 16,.int .i64 0,.int .i64 0,.str []])) S):az Tryz.prog w0 24 [bf d n m rgb t] S R:=by
 have hw:(n:Int).tmod 7=2:=by have:=gm n 7;rw [hn] at this;exact this
 have hv:(m:Int).tmod 7=2:=by have:=gm m 7;rw [hm] at this;exact this
 clear hm
 clear hn
 unfold bf
 refine eN Tryz.func24 rfl Tryz.ntmps24 fun hO=>?_
 repeat' ((fail_if_success (apply bA 7));first | refine st ?_ | (refine br ?_ ?_<;>intro hb) | fail)
 refine gV (t:=4) (a:=S.length+3) (o:=0) ss ss ?_
 repeat' first | refine st ?_ | (refine br ?_ ?_<;>intro hb) | refine sd ?_ | apply aE | (apply aO;(· decide +kernel)) | refine bd ?_ ?_ | fail
 refine fR Tryz.results24 ?_
 exact h
theorem JD (w0:World) (S:List aH) (d n m rgb:Nat) (t:List UInt8) (hn:n % 7=2) (hm:m % 7=3) (R:Rt) (h:R (.ret (.agg [.int .i64 39,.int .i64 2,.int .i64 32,.int .i64 0,.int .i64 0,.str []])) S):az Tryz.prog w0 24 [bf d n m rgb t] S R:=by
 have hw:(n:Int).tmod 7=2:=by have:=gm n 7;rw [hn] at this;exact this
 have hv:(m:Int).tmod 7=3:=by have:=gm m 7;rw [hm] at this;exact this
 clear hm
 clear hn
 unfold bf
 refine eN Tryz.func24 rfl Tryz.ntmps24 fun hO=>?_
 repeat' ((fail_if_success (apply bA 7));first | refine st ?_ | (refine br ?_ ?_<;>intro hb) | fail)
 refine gV (t:=4) (a:=S.length+3) (o:=0) ss ss ?_
 repeat' first | refine st ?_ | (refine br ?_ ?_<;>intro hb) | refine sd ?_ | apply aE | (apply aO;(· decide +kernel)) | refine bd ?_ ?_ | fail
 refine fR Tryz.results24 ?_
 exact h
theorem JC (w0:World) (S:List aH) (d n m rgb:Nat) (t:List UInt8) (hn:n % 7=2) (hm:m % 7=4) (R:Rt) (h:R (.ret (.agg [.int .i64 39,.int .i64 2,.int .i64 64,.int .i64 0,.int .i64 0,.str []])) S):az Tryz.prog w0 24 [bf d n m rgb t] S R:=by
 have hw:(n:Int).tmod 7=2:=by have:=gm n 7;rw [hn] at this;exact this
 have hv:(m:Int).tmod 7=4:=by have:=gm m 7;rw [hm] at this;exact this
 clear hm
 clear hn
 unfold bf
 refine eN Tryz.func24 rfl Tryz.ntmps24 fun hO=>?_
 repeat' ((fail_if_success (apply bA 7));first | refine st ?_ | (refine br ?_ ?_<;>intro hb) | fail)
 refine gV (t:=4) (a:=S.length+3) (o:=0) ss ss ?_
 repeat' first | refine st ?_ | (refine br ?_ ?_<;>intro hb) | refine sd ?_ | apply aE | (apply aO;(· decide +kernel)) | refine bd ?_ ?_ | fail
 refine fR Tryz.results24 ?_
 exact h
theorem JB (w0:World) (S:List aH) (d n m rgb:Nat) (t:List UInt8) (hn:n % 7=2) (hm:m % 7=5) (R:Rt) (h:R (.ret (.agg [.int .i64 39,.int .i64 2,.int .i64 128,.int .i64 0,.int .i64 0,.str []])) S):az Tryz.prog w0 24 [bf d n m rgb t] S R:=by
 have hw:(n:Int).tmod 7=2:=by have:=gm n 7;rw [hn] at this;exact this
 have hv:(m:Int).tmod 7=5:=by have:=gm m 7;rw [hm] at this;exact this
 clear hm
 clear hn
 unfold bf
 refine eN Tryz.func24 rfl Tryz.ntmps24 fun hO=>?_
 repeat' ((fail_if_success (apply bA 7));first | refine st ?_ | (refine br ?_ ?_<;>intro hb) | fail)
 refine gV (t:=4) (a:=S.length+3) (o:=0) ss ss ?_
 repeat' first | refine st ?_ | (refine br ?_ ?_<;>intro hb) | refine sd ?_ | apply aE | (apply aO;(· decide +kernel)) | refine bd ?_ ?_ | fail
 refine fR Tryz.results24 ?_
 exact h
theorem JA (w0:World) (S:List aH) (d n m rgb:Nat) (t:List UInt8) (hn:n % 7=2) (hm:m % 7=6) (R:Rt) (h:R (.ret (.agg [.int .i64 39,.int .i64 2,.int .i64 3,.int .i64 0,.int .i64 0,.str []])) S):az Tryz.prog w0 24 [bf d n m rgb t] S R:=by
 have hw:(n:Int).tmod 7=2:=by have:=gm n 7;rw [hn] at this;exact this
 have hv:(m:Int).tmod 7=6:=by have:=gm m 7;rw [hm] at this;exact this
 clear hm
 clear hn
 unfold bf
 refine eN Tryz.func24 rfl Tryz.ntmps24 fun hO=>?_
 repeat' ((fail_if_success (apply bA 7));first | refine st ?_ | (refine br ?_ ?_<;>intro hb) | fail)
 refine gV (t:=4) (a:=S.length+3) (o:=0) ss ss ?_
 repeat' first | refine st ?_ | (refine br ?_ ?_<;>intro hb) | refine sd ?_ | apply aE | (apply aO;(· decide +kernel)) | refine bd ?_ ?_ | fail
 refine fR Tryz.results24 ?_
 exact h
theorem M6 (w0:World) (S:List aH) (d n m rgb:Nat) (t:List UInt8) (hn:n % 7=3) (R:Rt) (h:R (.ret (.agg [.int .i64 39,.int .i64 3,.int .i64 ((m % 6:Nat):Int),.int .i64 0,.int .i64 0,.str []])) S):az Tryz.prog w0 24 [bf d n m rgb t] S R:=by
 have hw:(n:Int).tmod 7=3:=by have:=gm n 7;rw [hn] at this;exact this
 have hv:(m:Int).tmod 6=((m % 6:Nat):Int):=gm m 6
 have k3:ar.wrap ((m % 6:Nat):Int)=((m % 6:Nat):Int):=ay _ (by omega)
 clear hn
 unfold bf
 refine eN Tryz.func24 rfl Tryz.ntmps24 fun hO=>?_
 repeat' first | refine st ?_ | (refine br ?_ ?_<;>intro hb) | fail
 refine fR Tryz.results24 ?_
 exact h
theorem Jz (w0:World) (S:List aH) (d n m rgb:Nat) (t:List UInt8) (hn:n % 7=4) (hm:m % 4=0) (R:Rt) (h:R (.ret (.agg [.int .i64 39,.int .i64 4,.int .i64 0,.int .i64 0,.int .i64 0,.str []])) S):az Tryz.prog w0 24 [bf d n m rgb t] S R:=by
 have hw:(n:Int).tmod 7=4:=by have:=gm n 7;rw [hn] at this;exact this
 have hv:(m:Int).tmod 4=0:=by have:=gm m 4;rw [hm] at this;exact this
 clear hm
 clear hn
 unfold bf
 refine eN Tryz.func24 rfl Tryz.ntmps24 fun hO=>?_
 repeat' first | refine st ?_ | (refine br ?_ ?_<;>intro hb) | fail
 refine fR Tryz.results24 ?_
 exact h
theorem Jy (w0:World) (S:List aH) (d n m rgb:Nat) (t:List UInt8) (hn:n % 7=4) (hm:m % 4=1) (R:Rt) (h:R (.ret (.agg [.int .i64 39,.int .i64 4,.int .i64 0,.int .i64 2,.int .i64 ((rgb % 16777216:Nat):Int),.str []])) S):az Tryz.prog w0 24 [bf d n m rgb t] S R:=by
 have hw:(n:Int).tmod 7=4:=by have:=gm n 7;rw [hn] at this;exact this
 have hv:(m:Int).tmod 4=1:=by have:=gm m 4;rw [hm] at this;exact this
 clear hm
 have k2:(rgb:Int).tmod 16777216=((rgb % 16777216:Nat):Int):=gm rgb 16777216
 have k3:ar.wrap ((rgb % 16777216:Nat):Int)=((rgb % 16777216:Nat):Int):=ay _ (by omega)
 clear hn
 unfold bf
 refine eN Tryz.func24 rfl Tryz.ntmps24 fun hO=>?_
 repeat' first | refine st ?_ | (refine br ?_ ?_<;>intro hb) | fail
 refine fR Tryz.results24 ?_
 exact h
theorem Jx (w0:World) (S:List aH) (d n m rgb:Nat) (t:List UInt8) (hn:n % 7=4) (hm:m % 4=2) (R:Rt) (h:R (.ret (.agg [.int .i64 39,.int .i64 4,.int .i64 0,.int .i64 1,.int .i64 ((rgb % 256:Nat):Int),.str []])) S):az Tryz.prog w0 24 [bf d n m rgb t] S R:=by
 have hw:(n:Int).tmod 7=4:=by have:=gm n 7;rw [hn] at this;exact this
 have hv:(m:Int).tmod 4=2:=by have:=gm m 4;rw [hm] at this;exact this
 clear hm
 have k2:(rgb:Int).tmod 256=((rgb % 256:Nat):Int):=gm rgb 256
 have k3:ar.wrap ((rgb % 256:Nat):Int)=((rgb % 256:Nat):Int):=ay _ (by omega)
 clear hn
 unfold bf
 refine eN Tryz.func24 rfl Tryz.ntmps24 fun hO=>?_
 repeat' first | refine st ?_ | (refine br ?_ ?_<;>intro hb) | fail
 refine fR Tryz.results24 ?_
 exact h
theorem Jw (w0:World) (S:List aH) (d n m rgb:Nat) (t:List UInt8) (hn:n % 7=4) (hm:m % 4=3) (R:Rt) (h:R (.ret (.agg [.int .i64 39,.int .i64 4,.int .i64 0,.int .i64 1,.int .i64 ((rgb % 18:Nat):Int),.str []])) S):az Tryz.prog w0 24 [bf d n m rgb t] S R:=by
 have hw:(n:Int).tmod 7=4:=by have:=gm n 7;rw [hn] at this;exact this
 have hv:(m:Int).tmod 4=3:=by have:=gm m 4;rw [hm] at this;exact this
 clear hm
 have k2:(rgb:Int).tmod 18=((rgb % 18:Nat):Int):=gm rgb 18
 have k3:ar.wrap ((rgb % 18:Nat):Int)=((rgb % 18:Nat):Int):=ay _ (by omega)
 clear hn
 unfold bf
 refine eN Tryz.func24 rfl Tryz.ntmps24 fun hO=>?_
 repeat' first | refine st ?_ | (refine br ?_ ?_<;>intro hb) | fail
 refine fR Tryz.results24 ?_
 exact h
theorem Jv (w0:World) (S:List aH) (d n m rgb:Nat) (t:List UInt8) (hn:n % 7=5) (hm:m % 4=0) (R:Rt) (h:R (.ret (.agg [.int .i64 39,.int .i64 5,.int .i64 0,.int .i64 0,.int .i64 0,.str []])) S):az Tryz.prog w0 24 [bf d n m rgb t] S R:=by
 have hw:(n:Int).tmod 7=5:=by have:=gm n 7;rw [hn] at this;exact this
 have hv:(m:Int).tmod 4=0:=by have:=gm m 4;rw [hm] at this;exact this
 clear hm
 clear hn
 unfold bf
 refine eN Tryz.func24 rfl Tryz.ntmps24 fun hO=>?_
 repeat' first | refine st ?_ | (refine br ?_ ?_<;>intro hb) | fail
 refine fR Tryz.results24 ?_
 exact h
theorem Ju (w0:World) (S:List aH) (d n m rgb:Nat) (t:List UInt8) (hn:n % 7=5) (hm:m % 4=1) (R:Rt) (h:R (.ret (.agg [.int .i64 39,.int .i64 5,.int .i64 0,.int .i64 2,.int .i64 ((rgb % 16777216:Nat):Int),.str []])) S):az Tryz.prog w0 24 [bf d n m rgb t] S R:=by
 have hw:(n:Int).tmod 7=5:=by have:=gm n 7;rw [hn] at this;exact this
 have hv:(m:Int).tmod 4=1:=by have:=gm m 4;rw [hm] at this;exact this
 clear hm
 have k2:(rgb:Int).tmod 16777216=((rgb % 16777216:Nat):Int):=gm rgb 16777216
 have k3:ar.wrap ((rgb % 16777216:Nat):Int)=((rgb % 16777216:Nat):Int):=ay _ (by omega)
 clear hn
 unfold bf
 refine eN Tryz.func24 rfl Tryz.ntmps24 fun hO=>?_
 repeat' first | refine st ?_ | (refine br ?_ ?_<;>intro hb) | fail
 refine fR Tryz.results24 ?_
 exact h
theorem Jt (w0:World) (S:List aH) (d n m rgb:Nat) (t:List UInt8) (hn:n % 7=5) (hm:m % 4=2) (R:Rt) (h:R (.ret (.agg [.int .i64 39,.int .i64 5,.int .i64 0,.int .i64 1,.int .i64 ((rgb % 256:Nat):Int),.str []])) S):az Tryz.prog w0 24 [bf d n m rgb t] S R:=by
 have hw:(n:Int).tmod 7=5:=by have:=gm n 7;rw [hn] at this;exact this
 have hv:(m:Int).tmod 4=2:=by have:=gm m 4;rw [hm] at this;exact this
 clear hm
 have k2:(rgb:Int).tmod 256=((rgb % 256:Nat):Int):=gm rgb 256
 have k3:ar.wrap ((rgb % 256:Nat):Int)=((rgb % 256:Nat):Int):=ay _ (by omega)
 clear hn
 unfold bf
 refine eN Tryz.func24 rfl Tryz.ntmps24 fun hO=>?_
 repeat' first | refine st ?_ | (refine br ?_ ?_<;>intro hb) | fail
 refine fR Tryz.results24 ?_
 exact h
theorem Js (w0:World) (S:List aH) (d n m rgb:Nat) (t:List UInt8) (hn:n % 7=5) (hm:m % 4=3) (R:Rt) (h:R (.ret (.agg [.int .i64 39,.int .i64 5,.int .i64 0,.int .i64 1,.int .i64 ((rgb % 18:Nat):Int),.str []])) S):az Tryz.prog w0 24 [bf d n m rgb t] S R:=by
 have hw:(n:Int).tmod 7=5:=by have:=gm n 7;rw [hn] at this;exact this
 have hv:(m:Int).tmod 4=3:=by have:=gm m 4;rw [hm] at this;exact this
 clear hm
 have k2:(rgb:Int).tmod 18=((rgb % 18:Nat):Int):=gm rgb 18
 have k3:ar.wrap ((rgb % 18:Nat):Int)=((rgb % 18:Nat):Int):=ay _ (by omega)
 clear hn
 unfold bf
 refine eN Tryz.func24 rfl Tryz.ntmps24 fun hO=>?_
 repeat' first | refine st ?_ | (refine br ?_ ?_<;>intro hb) | fail
 refine fR Tryz.results24 ?_
 exact h
theorem Jr (w0:World) (S:List aH) (d n m rgb:Nat) (t:List UInt8) (hn:n % 7=6) (hm:m % 4=0) (R:Rt) (h:R (.ret (.agg [.int .i64 39,.int .i64 6,.int .i64 0,.int .i64 0,.int .i64 0,.str []])) S):az Tryz.prog w0 24 [bf d n m rgb t] S R:=by
 have hw:(n:Int).tmod 7=6:=by have:=gm n 7;rw [hn] at this;exact this
 have hv:(m:Int).tmod 4=0:=by have:=gm m 4;rw [hm] at this;exact this
 clear hm
 clear hn
 unfold bf
 refine eN Tryz.func24 rfl Tryz.ntmps24 fun hO=>?_
 repeat' first | refine st ?_ | (refine br ?_ ?_<;>intro hb) | fail
 refine fR Tryz.results24 ?_
 exact h
theorem Jq (w0:World) (S:List aH) (d n m rgb:Nat) (t:List UInt8) (hn:n % 7=6) (hm:m % 4=1) (R:Rt) (h:R (.ret (.agg [.int .i64 39,.int .i64 6,.int .i64 0,.int .i64 2,.int .i64 ((rgb % 16777216:Nat):Int),.str []])) S):az Tryz.prog w0 24 [bf d n m rgb t] S R:=by
 have hw:(n:Int).tmod 7=6:=by have:=gm n 7;rw [hn] at this;exact this
 have hv:(m:Int).tmod 4=1:=by have:=gm m 4;rw [hm] at this;exact this
 clear hm
 have k2:(rgb:Int).tmod 16777216=((rgb % 16777216:Nat):Int):=gm rgb 16777216
 have k3:ar.wrap ((rgb % 16777216:Nat):Int)=((rgb % 16777216:Nat):Int):=ay _ (by omega)
 clear hn
 unfold bf
 refine eN Tryz.func24 rfl Tryz.ntmps24 fun hO=>?_
 repeat' first | refine st ?_ | (refine br ?_ ?_<;>intro hb) | fail
 refine fR Tryz.results24 ?_
 exact h
theorem Jp (w0:World) (S:List aH) (d n m rgb:Nat) (t:List UInt8) (hn:n % 7=6) (hm:m % 4=2) (R:Rt) (h:R (.ret (.agg [.int .i64 39,.int .i64 6,.int .i64 0,.int .i64 1,.int .i64 ((rgb % 256:Nat):Int),.str []])) S):az Tryz.prog w0 24 [bf d n m rgb t] S R:=by
 have hw:(n:Int).tmod 7=6:=by have:=gm n 7;rw [hn] at this;exact this
 have hv:(m:Int).tmod 4=2:=by have:=gm m 4;rw [hm] at this;exact this
 clear hm
 have k2:(rgb:Int).tmod 256=((rgb % 256:Nat):Int):=gm rgb 256
 have k3:ar.wrap ((rgb % 256:Nat):Int)=((rgb % 256:Nat):Int):=ay _ (by omega)
 clear hn
 unfold bf
 refine eN Tryz.func24 rfl Tryz.ntmps24 fun hO=>?_
 repeat' first | refine st ?_ | (refine br ?_ ?_<;>intro hb) | fail
 refine fR Tryz.results24 ?_
 exact h
theorem Jo (w0:World) (S:List aH) (d n m rgb:Nat) (t:List UInt8) (hn:n % 7=6) (hm:m % 4=3) (R:Rt) (h:R (.ret (.agg [.int .i64 39,.int .i64 6,.int .i64 0,.int .i64 1,.int .i64 ((rgb % 18:Nat):Int),.str []])) S):az Tryz.prog w0 24 [bf d n m rgb t] S R:=by
 have hw:(n:Int).tmod 7=6:=by have:=gm n 7;rw [hn] at this;exact this
 have hv:(m:Int).tmod 4=3:=by have:=gm m 4;rw [hm] at this;exact this
 clear hm
 have k2:(rgb:Int).tmod 18=((rgb % 18:Nat):Int):=gm rgb 18
 have k3:ar.wrap ((rgb % 18:Nat):Int)=((rgb % 18:Nat):Int):=ay _ (by omega)
 clear hn
 unfold bf
 refine eN Tryz.func24 rfl Tryz.ntmps24 fun hO=>?_
 repeat' first | refine st ?_ | (refine br ?_ ?_<;>intro hb) | fail
 refine fR Tryz.results24 ?_
 exact h
theorem Ji (w0:World) (S:List aH) (d n m rgb:Nat) (t:List UInt8) (R:Rt) (h:R (.ret (ua n m rgb).av) S):az Tryz.prog w0 24 [bf d n m rgb t] S R:=by
 unfold ua at h
 have h7:n % 7=0∨n % 7=1∨n % 7=2∨n % 7=3∨n % 7=4∨n % 7=5∨n % 7=6:=by omega
 rcases h7 with e | e | e | e | e | e | e<;>rw [e] at h
 ·exact M7 w0 S d n m rgb t e R h
 ·have h8:m % 8=0∨m % 8=1∨m % 8=2∨m % 8=3∨m % 8=4∨m % 8=5∨m % 8=6∨m % 8=7:=by omega
  unfold xe at h
  rcases h8 with f | f | f | f | f | f | f | f<;>simp only [f] at h
  ·exact JP w0 S d n m rgb t e f R h
  ·exact JO w0 S d n m rgb t e f R h
  ·exact JN w0 S d n m rgb t e f R h
  ·exact JM w0 S d n m rgb t e f R h
  ·exact JL w0 S d n m rgb t e f R h
  ·exact JK w0 S d n m rgb t e f R h
  ·exact JJ w0 S d n m rgb t e f R h
  ·exact JI w0 S d n m rgb t e f R h
 ·have h8:m % 7=0∨m % 7=1∨m % 7=2∨m % 7=3∨m % 7=4∨m % 7=5∨m % 7=6:=by omega
  unfold xe at h
  rcases h8 with f | f | f | f | f | f | f<;>simp only [f] at h
  ·exact JG w0 S d n m rgb t e f R h
  ·exact JF w0 S d n m rgb t e f R h
  ·exact JE w0 S d n m rgb t e f R h
  ·exact JD w0 S d n m rgb t e f R h
  ·exact JC w0 S d n m rgb t e f R h
  ·exact JB w0 S d n m rgb t e f R h
  ·exact JA w0 S d n m rgb t e f R h
 ·exact M6 w0 S d n m rgb t e R h
 ·have h8:m % 4=0∨m % 4=1∨m % 4=2∨m % 4=3:=by omega
  unfold n7 at h
  rcases h8 with f | f | f | f<;>simp only [f] at h
  ·exact Jz w0 S d n m rgb t e f R h
  ·exact Jy w0 S d n m rgb t e f R h
  ·exact Jx w0 S d n m rgb t e f R h
  ·exact Jw w0 S d n m rgb t e f R h
 ·have h8:m % 4=0∨m % 4=1∨m % 4=2∨m % 4=3:=by omega
  unfold n7 at h
  rcases h8 with f | f | f | f<;>simp only [f] at h
  ·exact Jv w0 S d n m rgb t e f R h
  ·exact Ju w0 S d n m rgb t e f R h
  ·exact Jt w0 S d n m rgb t e f R h
  ·exact Js w0 S d n m rgb t e f R h
 ·have h8:m % 4=0∨m % 4=1∨m % 4=2∨m % 4=3:=by omega
  unfold n7 at h
  rcases h8 with f | f | f | f<;>simp only [f] at h
  ·exact Jr w0 S d n m rgb t e f R h
  ·exact Jq w0 S d n m rgb t e f R h
  ·exact Jp w0 S d n m rgb t e f R h
  ·exact Jo w0 S d n m rgb t e f R h
def ou (a:Ac):Prop:=dU a=true∧a.text.length≤300∧(0≤a.m∧a.m≤70000)∧(1≤a.kind∧a.kind≤46)
theorem Be (w0:World) (S:List aH) (k n m rgb:Nat) (t:List UInt8) (hk:(k:Int).tmod 46=44) (R:Rt) (h:R (.ret (.agg [.int .i64 45,.int .i64 ((n % 256:Nat):Int),.int .i64 0,.int .i64 2,.int .i64 ((rgb % 16777216:Nat):Int),.str []])) S):az Tryz.prog w0 10 [bf k n m rgb t] S R:=by
 have k1:(n:Int).tmod 256=((n % 256:Nat):Int):=gm n 256
 have k2:(rgb:Int).tmod 16777216=((rgb % 16777216:Nat):Int):=gm rgb 16777216
 have k3:ar.wrap ((rgb % 16777216:Nat):Int)=((rgb % 16777216:Nat):Int):=ay _ (by omega)
 have k4:ar.wrap ((n % 256:Nat):Int)=((n % 256:Nat):Int):=ay _ (by omega)
 have H:=au h
 clear h
 unfold bf
 refine eN Tryz.func10 rfl Tryz.ntmps10 fun hO=>?_
 repeat' ((fail_if_success (apply bA 8));first | refine st ?_ | (refine br ?_ ?_<;>intro hb) | fail)
 refine eR (n:=13) mixed rfl ?_
 refine Il 10 2 rfl (by decide +kernel) (by decide +kernel) (by decide +kernel) (by decide +kernel) ?_
 repeat' first | refine st ?_ | (refine br ?_ ?_<;>intro hb) | refine sq ?_ | (refine bq ?_ ?_;all_goals (intro hb;try simp only [ax,aA] at hb)) | fail
 refine Ah (fl:=[4,5,6,7,8]) ss ss ss (by decide +kernel) ?_ ?_
 ·iterate 5 (refine Ap ss ss ss ss ss ?_)
  exact D0
 ·repeat' first | refine st ?_ | (refine br ?_ ?_<;>intro hb) | refine sd ?_ | apply aE | (apply aO;(· decide +kernel)) | refine bd ?_ ?_ | refine sq ?_ | (refine bq ?_ ?_;all_goals (intro hb;try simp only [ax,aA] at hb)) | fail
  refine fR Tryz.results10 ?_
  exact H.out
theorem Af (i:Nat) (h:i<5):∃ v:Int,(List.drop i [AV.int .i64 65536,.int .i64 10000,.int .i64 7,.int .i64 4,.int .i64 2]).head? = some (.int .i64 v)∧(v=0)=False:=by
 match i,h with
 | 0,_=>exact⟨_,rfl,by simp⟩
 | 1,_=>exact⟨_,rfl,by simp⟩
 | 2,_=>exact⟨_,rfl,by simp⟩
 | 3,_=>exact⟨_,rfl,by simp⟩
 | 4,_=>exact⟨_,rfl,by simp⟩
theorem H5 (m:Nat) (v:Int) (hm:m<65536):0≤(m:Int).tmod v∧(m:Int).tmod v<65536:=by
 have h1:(m:Int).tmod v=(m:Int) % v:=Int.tmod_eq_emod_of_nonneg (by omega)
 by_cases hv:v=0
 ·subst hv;simp;omega
 ·have h2:=Int.emod_nonneg (m:Int) hv
  have h3:(m:Int).tmod v≤(m:Int):=by
   rcases Int.natAbs_eq v with e | e<;>rw [e]
   ·rw [gm];have:=Nat.mod_le m v.natAbs;omega
   ·rw [Int.tmod_neg,gm];have:=Nat.mod_le m v.natAbs;omega
  omega
theorem yF (w0:World) (S:List aH) (k n m rgb q:Nat) (t:List UInt8) (hk:(k:Int).tmod 46=(q:Int)) (hq:q<46) (hq1:q≠43∧q≠44∧q≠45∧q≠38) (hn:n<65536) (hm:m<65536) (R:Rt) (h:∀ a,ou a→R (.ret a.av) S):az Tryz.prog w0 10 [bf k n m rgb t] S R:=by
 have hr:∀ S' (N M:Int) (R:Rt),R (.ret (.bool (dU ⟨((q+1:Nat):Int),N,M,0,0,[]⟩))) S'→az Tryz.prog w0 23 [.agg [.int .i64 ((q+1:Nat):Int),.int .i64 N,.int .i64 M,.int .i64 0,.int .i64 0,.str []]] S' R:=fun S' N M R h=>rk w0 S' ⟨((q+1:Nat):Int),N,M,0,0,[]⟩ (by simp) R h
 have kw0:ar.wrap (q:Int)=(q:Int):=ay _ (by omega)
 have kw1:ar.wrap (1+(q:Int))=((q+1:Nat):Int):=by rw [ay _ (by omega)];omega
 have c1:(((q+1:Nat):Int)==44)=false:=by simp only [beq_eq_false_iff_ne];omega
 have c2:(((q+1:Nat):Int)==45)=false:=by simp only [beq_eq_false_iff_ne];omega
 have c3:(((q+1:Nat):Int)==46)=false:=by simp only [beq_eq_false_iff_ne];omega
 have c4:(((q+1:Nat):Int)==39)=false:=by simp only [beq_eq_false_iff_ne];omega
 have wn:ar.wrap (n:Int)=(n:Int):=ay _ (by omega)
 have wm:ar.wrap (m:Int)=(m:Int):=ay _ (by omega)
 have H:=au h
 have Hq:=au (cD hq hm)
 clear h hq hq1 hn hm
 unfold bf
 refine eN Tryz.func10 rfl Tryz.ntmps10 fun hO=>?_
 repeat' ((fail_if_success (apply bA 13));first | refine st ?_ | (refine br ?_ ?_<;>intro hb) | fail)
 repeat' first | refine st ?_ | (refine br ?_ ?_<;>intro hb) | fail
 have HO:=au hO
 clear hO hk kw0 kw1 c1 c2 c3 c4
 refine dX (fun (i:Nat) env S'=>i≤5∧env 1000000=.dfr []∧env 1=.own S.length 0∧env 2=.own (S.length+1) 0∧env 3=.own (S.length+2) 0∧env 4=.own (S.length+3) 0∧env 5=.int .i64 (i:Int) ∧
  S'=S++[.cells [.int .u16 k,.int .u16 n,.int .u16 m,.int .u32 rgb,.str t] none,.cells [.int .i64 0,.int .i64 0,.int .i64 0,.int .i64 0,.int .i64 0,.str []] none,.cells [.int .i64 ((q+1:Nat):Int),.int .i64 0,.int .i64 0,.int .i64 0,.int .i64 0,.str []] none,.cells [.int .i64 65536,.int .i64 10000,.int .i64 7,.int .i64 4,.int .i64 2] none]) (fun i=>5 - i) 0 ?_ ?_
 ·exact⟨by omega,ss,ss,ss,ss,ss,ss,ss⟩
 ·rintro i env S' ⟨hi,e0,e1,e2,e3,e4,e5,rfl⟩ IH
  have HI:=au IH
  clear IH
  by_cases hlt:i<5
  ·have h1:decide ((i:Int)<5)=true:=by simp only [decide_eq_true_eq];omega
   have hw:ar.wrap ((i:Int)+1)=((i+1:Nat):Int):=by rw [ay _ (by omega)];omega
   obtain⟨v1,hv1,hz1⟩:=Af i hlt
   have Hi:=au hlt
   have HV:=au (cD hv1 (cD hz1 hw))
   clear hlt hi hv1 hz1 hw
   repeat' ((fail_if_success (apply bA 17));first | refine st ?_ | (refine br ?_ ?_<;>intro hb) | fail)
   refine dX (fun (j:Nat) env S'=>j≤5∧env 1000000=.dfr []∧env 1=.own S.length 0∧env 2=.own (S.length+1) 0∧env 3=.own (S.length+2) 0∧env 4=.own (S.length+3) 0∧env 5=.int .i64 (i:Int)∧env 6=.int .i64 (j:Int) ∧
    S'=S++[.cells [.int .u16 k,.int .u16 n,.int .u16 m,.int .u32 rgb,.str t] none,.cells [.int .i64 0,.int .i64 0,.int .i64 0,.int .i64 0,.int .i64 0,.str []] none,.cells [.int .i64 ((q+1:Nat):Int),.int .i64 0,.int .i64 0,.int .i64 0,.int .i64 0,.str []] none,.cells [.int .i64 65536,.int .i64 10000,.int .i64 7,.int .i64 4,.int .i64 2] none]) (fun j=>5 - j) 0 ?_ ?_
   ·exact⟨by omega,ss,ss,ss,ss,ss,ss,ss,ss⟩
   ·clear h1 e0 e1 e2 e3 e4 e5
    rintro j env S' ⟨hj,e0,e1,e2,e3,e4,e5,e6,rfl⟩ IH
    have HJ:=au IH
    clear IH
    by_cases hlt:j<5
    ·have h1:decide ((j:Int)<5)=true:=by simp only [decide_eq_true_eq];omega
     have hw:ar.wrap ((j:Int)+1)=((j+1:Nat):Int):=by rw [ay _ (by omega)];omega
     obtain⟨v2,hv2,hz2⟩:=Af j hlt
     have Hj:=au hlt
     have HW:=au (cD hv2 (cD hz2 hw))
     clear hlt hj hv2 hz2 hw
     repeat' ((fail_if_success (apply bA 20));first | refine st ?_ | (refine br ?_ ?_<;>intro hb) | fail)
     refine dX (fun (b:Nat) env S'=>b≤5∧env 1000000=.dfr []∧env 1=.own S.length 0∧env 2=.own (S.length+1) 0∧env 3=.own (S.length+2) 0∧env 4=.own (S.length+3) 0∧env 5=.int .i64 (i:Int)∧env 6=.int .i64 (j:Int)∧env 7=.int .i64 (b:Int) ∧
      S'=S++[.cells [.int .u16 k,.int .u16 n,.int .u16 m,.int .u32 rgb,.str t] none,.cells [.int .i64 0,.int .i64 0,.int .i64 0,.int .i64 0,.int .i64 0,.str []] none,.cells [.int .i64 ((q+1:Nat):Int),.int .i64 0,.int .i64 0,.int .i64 0,.int .i64 0,.str []] none,.cells [.int .i64 65536,.int .i64 10000,.int .i64 7,.int .i64 4,.int .i64 2] none]) (fun b=>5 - b) 0 ?_ ?_
     ·exact⟨by omega,ss,ss,ss,ss,ss,ss,ss,ss,ss⟩
     ·clear h1 e0 e1 e2 e3 e4 e5 e6
      rintro b env S' ⟨hb5,e0,e1,e2,e3,e4,e5,e6,e7,rfl⟩ IH
      have HB:=au IH
      clear IH
      by_cases hlt:b<5
      ·have h1:decide ((b:Int)<5)=true:=by simp only [decide_eq_true_eq];omega
       have hw:ar.wrap ((b:Int)+1)=((b+1:Nat):Int):=by rw [ay _ (by omega)];omega
       have Hb:=au hlt
       have hw2:ar.wrap ((m:Int).tmod v2+1)=(m:Int).tmod v2+1:=by have:=H5 m v2 Hq.out.2;rw [ay _ (by omega)]
       have hi5:((i:Nat):Int)<((5:Nat):Int):=by have:=Hi.out;omega
       have hj5:((j:Nat):Int)<((5:Nat):Int):=by have:=Hj.out;omega
       have hbd:=H5 m v2 Hq.out.2
       have hK:(1:Int)≤((q+1:Nat):Int)∧((q+1:Nat):Int)≤46:=by have:=Hq.out.1;omega
       have hM0:(0:Int)≤(m:Int).tmod v2∧(m:Int).tmod v2≤70000:=by omega
       have hM1:(0:Int)≤(m:Int).tmod v2+1∧(m:Int).tmod v2+1≤70000:=by omega
       have hM2:(0:Int)≤0∧(0:Int)≤70000:=by decide
       clear hbd
       have hi6:i * 1=i:=Nat.mul_one i
       have hj6:j * 1=j:=Nat.mul_one j
       obtain⟨hv1,hz1,_⟩:=HV.out
       obtain⟨hv2,hz2,_⟩:=HW.out
       clear hlt hb5
       repeat' ((fail_if_success (apply bA 23));first | refine st ?_ | (refine br ?_ ?_<;>intro hb) | fail)
       refine eR (n:=20) mixed rfl ?_
       refine Il 17 2 rfl (by decide +kernel) (by decide +kernel) (by decide +kernel) (by decide +kernel) ?_
       repeat' first | refine st ?_ | (refine br ?_ ?_<;>intro hb) | refine sq ?_ | (refine bq ?_ ?_;all_goals (intro hb;try simp only [ax,aA] at hb)) | fail
       refine Ah (fl:=[9,10,11,12,13,14,15]) ss ss ss (by decide +kernel) ?_ ?_
       ·iterate 7 (refine Ap ss ss ss ss ss ?_)
        exact D0
       ·repeat' first | refine st ?_ | (refine ca ?_;apply hr) | (refine br ?_ ?_<;>intro hb) | refine sd ?_ | apply aE | (apply aO;(· decide +kernel)) | refine bd ?_ ?_ | (refine cd ?_;apply hr) | refine sq ?_ | (apply pX;(iterate 2 (· simp only [go_sem, *];try rfl));(· rfl);(· simp only [go_sem, *];try rfl);(· rfl);(· rfl);(· simp only [go_sem, *];try rfl);(· intro R hR;(apply hr);exact hR)) | (refine bq ?_ ?_;all_goals (intro hb;try simp only [ax,aA] at hb)) | fail
        ·rename_i hb
         refine fR Tryz.results10 ?_
         exact H.out ⟨((q+1:Nat):Int),_,(m:Int).tmod v2,0,0,[]⟩ ⟨hb,bI _,hM0,hK⟩
        ·rename_i hb
         refine fR Tryz.results10 ?_
         exact H.out ⟨((q+1:Nat):Int),_,(m:Int).tmod v2+1,0,0,[]⟩ ⟨hb,bI _,hM1,hK⟩
        ·rename_i hb
         refine fR Tryz.results10 ?_
         exact H.out ⟨((q+1:Nat):Int),_,0,0,0,[]⟩ ⟨hb,bI _,hM2,hK⟩
        ·refine fq HO.out 4 [1,2,3,4,5,6,7] rfl ss ss ss ?_
         refine HB.out (b+1) _ _ (by have:=Hb.out;omega) ⟨by have:=Hb.out;omega,ss,ss,ss,ss,ss,ss,ss,ss,ss⟩
      ·have h1:decide ((b:Int)<5)=false:=by simp only [decide_eq_false_iff_not];omega
       have hw:=HW.out.2.2
       clear hlt hb5 HB
       repeat' first | refine st ?_ | (refine br ?_ ?_<;>intro hb) | fail
       refine HJ.out (j+1) _ _ (by have:=Hj.out;omega) ⟨by have:=Hj.out;omega,ss,ss,ss,ss,ss,ss,ss,ss⟩
    ·have h1:decide ((j:Int)<5)=false:=by simp only [decide_eq_false_iff_not];omega
     have hw:=HV.out.2.2
     clear hlt hj HJ
     repeat' first | refine st ?_ | (refine br ?_ ?_<;>intro hb) | fail
     refine HI.out (i+1) _ _ (by have:=Hi.out;omega) ⟨by have:=Hi.out;omega,ss,ss,ss,ss,ss,ss,ss⟩
  ·have h1:decide ((i:Int)<5)=false:=by simp only [decide_eq_false_iff_not];omega
   clear hlt hi HI
   repeat' first | refine st ?_ | (refine br ?_ ?_<;>intro hb) | fail
   refine fR Tryz.results10 ?_
   exact H.out ⟨2,0,0,0,0,[]⟩ ⟨by decide +kernel,bI _,by decide,by decide⟩
theorem wZ (w0:World) (S:List aH) (k n m rgb:Nat) (t:List UInt8) (hk:(k:Int).tmod 46=43) (R:Rt) (h:∀ a,ou a→R (.ret a.av) S):az Tryz.prog w0 10 [bf k n m rgb t] S R:=by
 have hmn:(if (300:Int)<(t.length:Int) then 300 else (t.length:Int))=((min t.length 300:Nat):Int):=by split<;>omega
 have hm2:((min t.length 300:Nat):Int)≤(t.length:Int):=by omega
 have hq:qR (min t.length 300) t=t.take 300:=by rw [yd,← tq,bQ]
 have hl:(t.take 300).length≤300:=by simp;omega
 generalize t.take 300=s at hq hl
 have hr:∀ S' (R:Rt),R (.ret (.bool (dU ⟨44,0,0,0,0,s⟩))) S'→az Tryz.prog w0 23 [.agg [.int .i64 44,.int .i64 0,.int .i64 0,.int .i64 0,.int .i64 0,.str s]] S' R:=fun S' R h=>rk w0 S' ⟨44,0,0,0,0,s⟩ (by simp only;omega) R h
 have H:=au h
 have HL:=au hl
 clear h hl
 unfold bf
 refine eN Tryz.func10 rfl Tryz.ntmps10 fun hO=>?_
 repeat' first | refine st ?_ | (refine ca ?_;apply hr) | (refine br ?_ ?_<;>intro hb) | fail
 ·refine fR Tryz.results10 ?_
  exact H.out ⟨44,0,0,0,0,[116]⟩ ⟨by decide +kernel,by decide,by decide,by decide⟩
 ·refine fR Tryz.results10 ?_
  exact H.out ⟨44,0,0,0,0,s⟩ ⟨hb,HL.out,(by decide:(0:Int)≤0∧(0:Int)≤70000),(by decide:(1:Int)≤44∧(44:Int)≤46)⟩
theorem wY (w0:World) (S:List aH) (k n m rgb:Nat) (t:List UInt8) (hk:(k:Int).tmod 46=45) (R:Rt) (h:∀ a,ou a→R (.ret a.av) S):az Tryz.prog w0 10 [bf k n m rgb t] S R:=by
 have hmn:(if (300:Int)<(t.length:Int) then 300 else (t.length:Int))=((min t.length 300:Nat):Int):=by split<;>omega
 have hm2:((min t.length 300:Nat):Int)≤(t.length:Int):=by omega
 have hq:qR (min t.length 300) t=t.take 300:=by rw [yd,← tq,bQ]
 have hl:(t.take 300).length≤300:=by simp;omega
 generalize t.take 300=s at hq hl
 have hr:∀ S' (R:Rt),R (.ret (.bool (dU ⟨46,0,0,0,0,s⟩))) S'→az Tryz.prog w0 23 [.agg [.int .i64 46,.int .i64 0,.int .i64 0,.int .i64 0,.int .i64 0,.str s]] S' R:=fun S' R h=>rk w0 S' ⟨46,0,0,0,0,s⟩ (by simp only;omega) R h
 have H:=au h
 have HL:=au hl
 clear h hl
 unfold bf
 refine eN Tryz.func10 rfl Tryz.ntmps10 fun hO=>?_
 repeat' first | refine st ?_ | (refine ca ?_;apply hr) | (refine br ?_ ?_<;>intro hb) | fail
 ·refine fR Tryz.results10 ?_
  exact H.out ⟨46,0,0,0,0,[116]⟩ ⟨by decide +kernel,by decide,by decide,by decide⟩
 ·refine fR Tryz.results10 ?_
  exact H.out ⟨46,0,0,0,0,s⟩ ⟨hb,HL.out,(by decide:(0:Int)≤0∧(0:Int)≤70000),(by decide:(1:Int)≤46∧(46:Int)≤46)⟩
theorem Bd (w0:World) (S:List aH) (k n m rgb:Nat) (t:List UInt8) (hk:(k:Int).tmod 46=38) (R:Rt) (h:R (.ret (ua n m rgb).av) S):az Tryz.prog w0 10 [bf k n m rgb t] S R:=by
 have hp:=fun S'=>Ji w0 S' k n m rgb t
 have hav:(ua n m rgb).av=.agg [.int .i64 39,.int .i64 ((n % 7:Nat):Int),.int .i64 (xe (n % 7) m),.int .i64 (n7 (n % 7) m rgb).1,.int .i64 (n7 (n % 7) m rgb).2,.str []]:=rfl
 rw [hav] at hp h
 have H:=au h
 clear h hav
 unfold bf at hp ⊢
 refine eN Tryz.func10 rfl Tryz.ntmps10 fun hO=>?_
 repeat' first | refine st ?_ | (refine ca ?_;apply hp) | (refine br ?_ ?_<;>intro hb) | fail
 refine fR Tryz.results10 ?_
 exact H.out
end Go.Proofs.YthdbijpefkapnaaGreatDoor
