/- A part of the proof. -/
import Derived.Test.YthdbijpefkapnaaGreatDoorOfWalk9
import Derived.Test.YthdbijpefkapnaaGreatDoorOfWalk12
import Derived.Test.YthdbijpefkapnaaGreatDoorOfWalk13
set_option linter.all false
set_option maxHeartbeats 40000000
open Bool renaming and_assoc → yE, eq_iff_iff → eU, false_eq_true → aZ
open Function renaming comp_def → aY
open Go.Lib renaming hid → ab
open Go.RowKit renaming Hid → CC
open Int renaming cast_ofNat_Int → bA
open List renaming all_eq_true → aD, append_assoc → aP, append_nil → aG, cons_append → fQ, drop_zero → cQ, find?_cons → ld, find?_eq_none → kl, map → bn, map_append → aM, map_cons → al, map_map → Fl, map_nil → aj, mem_append → bV, mem_append_left → lA, mem_append_right → dF, mem_cons → bD, mem_cons_of_mem → iv, mem_cons_self → dG, mem_map → aN, mem_of_find?_eq_some → oJ, mem_singleton → a_, nil_append → gu, nodup_append → ig, not_mem_nil → gZ, set_append_right → eI, take_succ_cons → aR, take_zero → aO
open List.Perm renaming append_left → iR
open List.cons renaming injEq → mz
open Nat renaming le_refl → ba, sub_self → la
open Option renaming isSome_none → Cr, isSome_some → Cq, map_eq_none_iff → wJ, map_eq_some_iff → aL
open Prod renaming fst → cP
open Prod.mk renaming injEq → k_
namespace Go.Proofs.YthdbijpefkapnaaGreatDoor
open Go Go.Fen Go.Proofs.Tryz
attribute [local irreducible] aX WP ao dS i7 cJ aU cC
set_option maxRecDepth 8000
variable (w0:World) (S:List aH)
inductive Sp where
 | rng (a b:Int)
 | zt
def Sp.ok:Sp→Int→Bool
 | .rng a b,n=>decide (a≤n)&&decide (n≤b)
 | .zt,n=>n==0||n==3
def Sp.fv:Sp→AV
 | .rng a b=>.fn (.func 35) [.agg [.int .i64 a,.int .i64 b]] []
 | .zt=>.fn (.func 54) [] []
def zg:List (Int × Sp × Sp):=[(17,.rng 0 3,.rng 0 1),(18,.rng 2 3,.rng 0 0),(19,.rng 1 9999,.rng 1 9999),(20,.rng 0 3,.rng 1 9999),(26,.rng 0 3,.rng 0 0),(27,.rng 0 2,.rng 0 0),(35,.zt,.rng 0 0),(38,.rng 0 9999,.rng 0 9999),(40,.rng 0 6,.rng 0 0),(41,.rng 5 6,.rng 0 0),(2,.rng 0 0,.rng 0 0),(3,.rng 0 0,.rng 0 0),(4,.rng 0 0,.rng 0 0),(5,.rng 0 0,.rng 0 0),(6,.rng 0 0,.rng 0 0),(8,.rng 0 0,.rng 0 0),(9,.rng 0 0,.rng 0 0),(10,.rng 0 0,.rng 0 0),(11,.rng 0 0,.rng 0 0),(12,.rng 0 0,.rng 0 0),(13,.rng 0 0,.rng 0 0),(15,.rng 0 0,.rng 0 0),(16,.rng 0 0,.rng 0 0),(7,.rng 0 1,.rng 0 0),(14,.rng 0 1,.rng 0 0),(42,.rng 0 1,.rng 0 0),(21,.rng 0 1,.rng 1 9999),(33,.rng 0 1,.rng 1 9999),(22,.rng 1 9999,.rng 0 0),(23,.rng 1 9999,.rng 0 0),(24,.rng 1 9999,.rng 0 0),(25,.rng 1 9999,.rng 0 0),(28,.rng 1 9999,.rng 0 0),(29,.rng 1 9999,.rng 0 0),(30,.rng 1 9999,.rng 0 0),(31,.rng 1 9999,.rng 0 0),(32,.rng 1 9999,.rng 0 0),(34,.rng 1 9999,.rng 0 0),(36,.rng 0 9999,.rng 0 1),(37,.rng 0 9999,.rng 0 1),(43,.rng 0 9999,.rng 0 1)]
def BN:List (AV × AV):=zg.map fun p=>(.int .i64 p.1,.agg [p.2.1.fv,p.2.2.fv])
theorem M3(a b n:Int)(R:Rt)(h:R (.ret (.bool (decide (a≤n)&&decide (n≤b)))) S):ao prog w0 35 [.agg [.int .i64 a,.int .i64 b],.int .i64 n] S R:=by
 cases d:decide (a≤n)<;>rw [d] at h
 all_goals
  refine γR0 func35 ntmps35 results35 ?_
  first|exact h|(simpa using h)
theorem RF(n:Int)(R:Rt)(h:R (.ret (.bool (n==0||n==3))) S):ao prog w0 54 [.int .i64 n] S R:=by
 cases d:n==0<;>rw [d] at h
 all_goals
  refine γR0 func54 ntmps54 results54 ?_
  first|exact h|(simpa using h)
theorem II(R:Rt)(h:R (.ret (.tup [(Sp.rng 0 0).fv,(Sp.rng 0 1).fv,(Sp.rng 1 9999).fv,(Sp.rng 0 9999).fv])) S):ao prog w0 53 [] S R:=by
 simp only [Sp.fv] at h
 exact γR0 func53 ntmps53 results53 h
theorem Fa(R:Rt)(h:R (.ret (.mval BN)) S):ao prog w0 29 [] S R:=by
 have hl:=II w0
 simp only [Sp.fv] at hl
 simp only [BN,zg,al,aj,Sp.fv] at h
 have H:=ab h
 clear h
 refine eN func29 rfl ntmps29 fun hO=>?_
 repeat' first|refine st ?_|(refine ca ?_;apply hl)|(refine br ?_ ?_<;>intro hb)|apply cS|apply gn|fail
 refine fR results29 ?_
 exact H.out
def nP(k:Int):Option (Sp × Sp):=(zg.find? fun p=>k==p.1).map (·.2)
def fm(a:Ac):Bool :=
 if a.kind=1 then decide (0≤jq a.n)&&(a.m==0&&(ep a.ck a.cn&&a.text==[]))
 else if a.kind=39 then qR a
 else if a.kind=44∨a.kind=45∨a.kind=46 then (cU a).isSome
 else match nP a.kind with
  | some (x,y)=>x.ok a.n&&(y.ok a.m&&(ep a.ck a.cn&&a.text==[]))
  | none=>false
theorem yx(k n m:Int)(R:Rt)(h:R (.ret (.agg [.int .i64 k,.int .i64 n,.int .i64 m,.int .i64 0,.int .i64 0,.str []])) S):ao prog w0 26 [.int .i64 k,.int .i64 n,.int .i64 m] S R:=by
 exact γR0 func26 ntmps26 results26 h
theorem sN(k:Int):∀ l:List (Int × Sp × Sp),(l.map fun p=>((.int .i64 p.1:AV),(AV.agg [p.2.1.fv,p.2.2.fv]))).find? (fun e=>kR (.int .i64 k) e.1)=((l.find? fun p=>k==p.1).map fun p=>((.int .i64 p.1:AV),(AV.agg [p.2.1.fv,p.2.2.fv])))
 | []=>rfl
 | p::l=>by
  rw [al,ld,ld,sN k l]
  show (match k==p.1 with|true=>_|false=>_)=_
  cases k==p.1<;>rfl
theorem Hh{k:Int}{x y:Sp}(h:nP k=some (x,y)):∃ c d,y=.rng c d:=by
 unfold nP at h
 obtain⟨p,hp,e⟩:=aL.1 h
 have hall:(zg.all fun p=>match p.2.2 with | .rng _ _=>true | .zt=>false)=true:=δ
 have:=aD.1 hall p (oJ hp)
 rw [e] at this
 cases y with
 | rng c d=>exact⟨c,d,rfl⟩
 | zt=>cases this
theorem KT(k:Int):k=1∨k=39∨(k=44∨k=45∨k=46)∨((k==1)=false∧(k==39)=false∧(k==44)=false∧(k==45)=false∧(k==46)=false):=by
 simp only [beq_eq_false_iff_ne]
 omega
theorem B1{k:Int}{x y:Sp}(h:nP k=some (x,y)):∃ j:Int,BN.find? (fun e=>kR (.int .i64 k) e.1)=some (.int .i64 j,.agg [x.fv,y.fv]):=by
 unfold nP at h
 obtain⟨⟨j,x',y'⟩,hp,e⟩:=aL.1 h
 cases e
 exact⟨j,by unfold BN;rw [sN,hp];rfl⟩
theorem B2{k:Int}(h:nP k=none):BN.find? (fun e=>kR (.int .i64 k) e.1)=none:=by
 unfold nP at h
 have:=wJ.1 h
 unfold BN
 rw [sN,this];rfl
theorem Jh(n m ck cn:Int)(t:List UInt8):fm ⟨1,n,m,ck,cn,t⟩=(decide (0≤jq n)&&(m==0&&(ep ck cn&&t==[]))):=rfl
theorem E7(n m ck cn:Int)(t:List UInt8):fm ⟨39,n,m,ck,cn,t⟩=qR ⟨39,n,m,ck,cn,t⟩:=rfl
theorem A3{k:Int}(hk:k=44∨k=45∨k=46)(n m ck cn:Int)(t:List UInt8):fm ⟨k,n,m,ck,cn,t⟩=(cU ⟨k,n,m,ck,cn,t⟩).isSome:=by
 unfold fm
 rw [if_neg (by simp only;omega),if_neg (by simp only;omega),if_pos hk]
def AF(k n m ck cn:Int)(t:List UInt8):Option (Sp × Sp)→Bool
 | some (x,y)=>x.ok n&&(y.ok m&&(ep ck cn&&t==[]))
 | none=>false
theorem A4{k:Int}(c1:(k==1)=false)(c2:(k==39)=false)(c3:(k==44)=false)(c4:(k==45)=false)(c5:(k==46)=false)(n m ck cn:Int)(t:List UInt8):fm ⟨k,n,m,ck,cn,t⟩=AF k n m ck cn t (nP k):=by
 simp only [beq_eq_false_iff_ne] at c1 c2 c3 c4 c5
 unfold fm
 rw [if_neg (by simp only;omega),if_neg (by simp only;omega),if_neg (by simp only;omega)]
 unfold AF
 cases nP k<;>rfl
theorem Fc(w0:World)(hM:l6 w0)(hW:lY w0)(hQ:nL w0)(S:List aH)(a:Ac)(hm:LJ a.m)(ht:a.text.length≤10000)(R:Rt)(h:R (.ret (.int .i64 (if fm a then 0 else 200))) S):ao prog w0 11 [a.av] S R:=by
 have hpen:=fun S'=>Bv w0 S' a hm
 have hpr:=fun S'=>hQ S' a ht
 rw [uq] at hpr
 obtain⟨k,n,m,ck,cn,t⟩:=a
 have hwd:=fun S'=>Q8 w0 hM hW S' n
 have hac:=yx w0
 have hb0:∀ l:List UInt8,(l==l)=true:=χ
 have hb1:∀ i:Int,(i==i)=true:=χ
 simp only at hm ht
 rcases KT k with rfl|rfl|hk|⟨c1,c2,c3,c4,c5⟩
 ·rw [Jh] at h
  have e0:decide (0≤jq n) = !decide (jq n<0):=by rw [eU];simp
  rw [e0] at h
  generalize jq n=w at h hwd
  unfold Ac.av
  simp only
  clear hpen hpr hQ hM hW hm ht e0
  cases hdw:decide (w<0)
  all_goals
   refine eN func11 rfl ntmps11 fun hO=>?_
   repeat' first|refine st ?_|(refine ca ?_;first|apply hwd|apply hac)|(refine br ?_ ?_<;>intro hb)|refine sd ?_|apply aw|(apply aF;(· decide +kernel))|refine bd ?_ ?_|(refine cd ?_;first|apply hwd|apply hac)|fail
   all_goals refine fR results11 ?_
  all_goals
   refine(congrArg (fun z=>R (.ret (.int .i64 z)) S) (?_:_=_)).mpr h
   clear h hO hwd hac
   simp_all [ep]
 ·rw [E7] at h
  generalize qR ⟨39,n,m,ck,cn,t⟩=b at h hpen
  unfold Ac.av at hpen ⊢
  simp only at hpen ⊢
  clear hwd hac hpr hQ hM hW hm ht
  cases b
  all_goals
   refine eN func11 rfl ntmps11 fun hO=>?_
   repeat' first|refine st ?_|(refine ca ?_;apply hpen)|(refine br ?_ ?_<;>intro hb)|fail
   refine fR results11 ?_
   exact h
 ·have hk1:(k==1)=false∧(k==39)=false:=by simp only [beq_eq_false_iff_ne];omega
  rw [A3 hk] at h
  unfold NJ at hpr
  generalize cU ⟨k,n,m,ck,cn,t⟩=b at h hpr
  generalize NG b=u at hpr
  unfold Ac.av at hpr ⊢
  simp only at hpr ⊢
  clear hwd hac hpen hQ hM hW hm ht
  obtain⟨k1,k2⟩:=hk1
  cases b
  all_goals
   simp only [Cr,Cq,aZ,if_true,if_false] at h hpr
   rcases hk with rfl|rfl|rfl
   all_goals
    clear k1 k2
    refine eN func11 rfl ntmps11 fun hO=>?_
    repeat' first|refine st ?_|(refine ca ?_;apply hpr)|(refine br ?_ ?_<;>intro hb)|fail
    refine fR results11 ?_
    exact h
 ·rw [A4 c1 c2 c3 c4 c5] at h
  have hnu:=Fa w0
  have h2:=M3 w0
  have h3:=RF w0
  clear hpen hpr hwd hac hQ hM hW hm ht
  unfold Ac.av
  simp only
  cases ho:nP k with
  | none =>
   have hf:=B2 ho
   simp only [go_sem] at hf
   rw [ho] at h
   clear ho h2 h3
   refine eN func11 rfl ntmps11 fun hO=>?_
   repeat' first|refine st ?_|(refine ca ?_;apply hnu)|(refine br ?_ ?_<;>intro hb)|refine sd ?_|apply aw|(apply aF;(· decide +kernel))|refine bd ?_ ?_|(refine cd ?_;apply hnu)|fail
   all_goals refine fR results11 ?_
   all_goals exact h
  | some q =>
   obtain⟨x,y⟩:=q
   obtain⟨j,hf⟩:=B1 ho
   obtain⟨c,d,rfl⟩:=Hh ho
   simp only [go_sem] at hf
   rw [ho] at h
   clear ho
   rw [show AF k n m ck cn t (some (x,.rng c d))=(x.ok n&&((Sp.rng c d).ok m&&(ep ck cn&&t==[]))) from rfl] at h
   cases x with
   | rng a b =>
    simp only [Sp.fv] at hf
    generalize hu1:(Sp.rng a b).ok n=u1 at h
    generalize hu2:(Sp.rng c d).ok m=u2 at h
    have g1:=fun S'=>h2 S' a b n
    have g2:=fun S'=>h2 S' c d m
    rw [show (decide (a≤n)&&decide (n≤b))=u1 from hu1] at g1
    rw [show (decide (c≤m)&&decide (m≤d))=u2 from hu2] at g2
    clear hu1 hu2 h2 h3
    refine eN func11 rfl ntmps11 fun hO=>?_
    refine share ?K1 ?hK1 fun key1=>?main1
    case main1 =>
     repeat' ((fail_if_success (apply ci 4));first|refine st ?_|(refine ca ?_;apply hnu)|(refine br ?_ ?_<;>intro hb)|refine sd ?_|apply aw|(apply aF;(· decide +kernel))|refine bd ?_ ?_|(refine cd ?_;apply hnu)|fail)
     all_goals
      refine g_ [1000000,1,3,4,5] ?_
      simp only [fb,go_sem]
      exact key1
    case hK1 =>
     rintro env ⟨e0,e1,e3,e4,e5⟩
     repeat' first|refine st ?_|(refine ca ?_;first|apply g1|apply g2)|(refine br ?_ ?_<;>intro hb)|fail
     all_goals refine fR results11 ?_
     all_goals
      refine(congrArg (fun z=>R (.ret (.int .i64 z)) S) (?_:_=_)).mpr h
      clear h hO g1 g2 hf hnu e0 e1 e3 e4 e5
      simp_all [ep]
   | zt =>
    simp only [Sp.fv] at hf
    generalize hu1:Sp.zt.ok n=u1 at h
    generalize hu2:(Sp.rng c d).ok m=u2 at h
    have g1:=fun S'=>h3 S' n
    have g2:=fun S'=>h2 S' c d m
    rw [show (n==0||n==3)=u1 from hu1] at g1
    rw [show (decide (c≤m)&&decide (m≤d))=u2 from hu2] at g2
    clear hu1 hu2 h2 h3
    refine eN func11 rfl ntmps11 fun hO=>?_
    refine share ?K2 ?hK2 fun key1=>?main2
    case main2 =>
     repeat' ((fail_if_success (apply ci 4));first|refine st ?_|(refine ca ?_;apply hnu)|(refine br ?_ ?_<;>intro hb)|refine sd ?_|apply aw|(apply aF;(· decide +kernel))|refine bd ?_ ?_|(refine cd ?_;apply hnu)|fail)
     all_goals
      refine g_ [1000000,1,3,4,5] ?_
      simp only [fb,go_sem]
      exact key1
    case hK2 =>
     rintro env ⟨e0,e1,e3,e4,e5⟩
     repeat' first|refine st ?_|(refine ca ?_;first|apply g1|apply g2)|(refine br ?_ ?_<;>intro hb)|fail
     all_goals refine fR results11 ?_
     all_goals
      refine(congrArg (fun z=>R (.ret (.int .i64 z)) S) (?_:_=_)).mpr h
      clear h hO g1 g2 hf hnu e0 e1 e3 e4 e5
      simp_all [ep]
theorem DC(n a b:Int)(R:Rt)(h:R (.ret (.bool (decide (a≤n)&&decide (n≤b)))) S):ao prog w0 71 [.int .i64 n,.int .i64 a,.int .i64 b] S R:=by
 cases d:decide (a≤n)<;>rw [d] at h
 all_goals
  refine γR0 func71 ntmps71 results71 ?_
  first|exact h|(simpa using h)
theorem DD(n:Int)(R:Rt)(h:R (.ret (.bool (decide (1≤n)&&decide (n≤9999)))) S):ao prog w0 95 [.int .i64 n] S R:=by
 have hi:=DC w0
 exact γR1 hi func95 ntmps95 results95 h
def qU(k n m:Int):Bool:=if k=1 then decide (0≤jq n)&&m==0 else match nP k with
 | some (x,y)=>x.ok n&&y.ok m
 | none=>false
theorem DB(k n m ck cn:Int)(t:List UInt8)(R:Rt)(h:R (.ret (.bool (qU k n m))) S):ao prog w0 44 [.agg [.int .i64 k,.int .i64 n,.int .i64 m,.int .i64 ck,.int .i64 cn,.str t]] S R:=by
  have hi:=DC w0
  have hc:=DD w0
  have hw:=fun S'=>Q9 w0 S' n
  refine eN func44 rfl ntmps44 fun hO=>?_
  repeat' first|refine st ?_|(refine ca ?_;first|apply hi|apply hc|apply hw)|(refine br ?_ ?_<;>intro hb)|fail
  all_goals refine fR results44 ?_
  all_goals
    refine(congrArg (fun z=>R (.ret (.bool z)) S) (?_:_=_)).mpr h
    clear h hO hi hc hw
    simp only [beq_iff_eq,beq_eq_false_iff_ne] at *
    rw [eU]
    first
    | (simp_all [qU,nP,zg,List.find?,Sp.ok];done)
    | (simp_all [qU,nP,zg,List.find?,Sp.ok]<;>omega)
    | (have hn:nP k=none:=by
        unfold nP
        simp only [wJ,kl,zg,List.forall_mem_cons]
        simp_all
       simp_all [qU])
theorem E6{k:Int}(c2:(k==39)=false)(c3:(k==44)=false)(c4:(k==45)=false)(c5:(k==46)=false)(n m ck cn:Int)(t:List UInt8):fm ⟨k,n,m,ck,cn,t⟩=(qU k n m&&(ep ck cn&&t==[])):=by
 by_cases c1:k=1
 ·subst c1
  rw [Jh]
  unfold qU
  rw [if_pos rfl,yE]
 ·rw [A4 (beq_eq_false_iff_ne.2 c1) c2 c3 c4 c5]
  unfold qU
  rw [if_neg c1]
  cases nP k with
  | none=>rfl
  | some q=>obtain⟨x,y⟩:=q;simp only [AF,yE]
theorem Gm(a:Ac)(ht:a.text.length≤10000)(R:Rt)(h:R (.ret (.bool (fm a))) S):ao prog w0 23 [a.av] S R:=by
 have hpen:=fun S'=>BA w0 S' a
 have hpr:=fun S'=>J5 w0 S' a ht
 rw [uq] at hpr
 obtain⟨k,n,m,ck,cn,t⟩:=a
 have hnu:=fun S'=>DB w0 S' k n m ck cn t
 simp only at ht
 by_cases c39:k=39
 ·subst c39
  rw [E7] at h
  generalize qR ⟨39,n,m,ck,cn,t⟩=b at h hpen
  unfold Ac.av at hpen ⊢
  simp only at hpen ⊢
  clear hnu hpr ht
  cases b
  all_goals
   refine eN func23 rfl ntmps23 fun hO=>?_
   repeat' first|refine st ?_|(refine ca ?_;apply hpen)|(refine br ?_ ?_<;>intro hb)|fail
   refine fR results23 ?_
   exact h
 by_cases hk:k=44∨k=45∨k=46
 ·rw [A3 hk] at h
  unfold NJ at hpr
  generalize cU ⟨k,n,m,ck,cn,t⟩=b at h hpr
  generalize NG b=u at hpr
  unfold Ac.av at hpr ⊢
  simp only at hpr ⊢
  clear hnu hpen ht
  cases b
  all_goals
   simp only [Cr,Cq,aZ,if_true,if_false] at h hpr
   rcases hk with rfl|rfl|rfl
   all_goals
    clear c39
    refine eN func23 rfl ntmps23 fun hO=>?_
    repeat' first|refine st ?_|(refine ca ?_;apply hpr)|(refine br ?_ ?_<;>intro hb)|fail
    refine fR results23 ?_
    exact h
 ·have c2:(k==39)=false:=by rw [beq_eq_false_iff_ne];exact c39
  have c3:(k==44)=false:=ν
  have c4:(k==45)=false:=ν
  have c5:(k==46)=false:=ν
  rw [E6 c2 c3 c4 c5] at h
  generalize qU k n m=b at h hnu
  unfold Ac.av
  simp only
  clear hpen hpr ht hk c39
  refine eN func23 rfl ntmps23 fun hO=>?_
  repeat' first|refine st ?_|(refine ca ?_;apply hnu)|(refine br ?_ ?_<;>intro hb)|fail
  all_goals refine fR results23 ?_
  all_goals
   refine(congrArg (fun z=>R (.ret (.bool z)) S) (?_:_=_)).mpr h
   clear h hO hnu
   simp_all [ep]
structure Ev where
 kind:Int
 code:Int
 priv:Nat
 fin:Nat
 pars:List (List Int)
 inter:List UInt8
 text:List UInt8
 deriving DecidableEq
def Ev.av(e:Ev):AV:=.agg [.int .i64 e.kind,.int .i64 e.code,.int .u8 e.priv,.int .u8 e.fin,.sval false (e.pars.map ct),.str e.inter,.str e.text]
def j7(e:Ev):Bool:=(decide (1≤e.kind)&&decide (e.kind≤6))&&db e.pars
theorem yw(e:Ev)(hl:oE e.pars)(R:Rt)(h:R (.ret (.int .i64 (if j7 e then 0 else 201))) S):ao prog w0 18 [e.av] S R:=by
 have hp:=fun S'=>su w0 S' e.pars hl
 have hh:=fun S'=>M3 w0 S' 1 6 e.kind
 obtain⟨k,c,pr,fi,l,it,t⟩:=e
 unfold j7 at h
 unfold mQ at hp
 unfold Ev.av
 simp only at h hp hh ⊢ hl
 generalize db l=b at h hp
 generalize (decide (1≤k)&&decide (k≤6))=d at h hh
 clear hl
 cases b<;>cases d
 all_goals
  exact γR2 hp hh func18 ntmps18 results18 h
theorem xo(e:Ev)(R:Rt)(h:R (.ret (.int .i64 (if j7 e then 0 else 201))) S):ao prog w0 33 [e.av] S R:=by
 have hp:=fun S'=>o5 w0 S' e.pars
 have hh:=fun S'=>DC w0 S' e.kind 1 6
 obtain⟨k,c,pr,fi,l,it,t⟩:=e
 unfold j7 at h
 unfold mQ at hp
 unfold Ev.av
 simp only at h hp hh ⊢
 generalize db l=b at h hp
 generalize (decide (1≤k)&&decide (k≤6))=d at h hh
 cases b<;>cases d
 all_goals
  exact γR2 hp hh func33 ntmps33 results33 h
theorem jQ(l:List (List Int))(R:Rt)(h:R (.ret (.int .i64 (eg l 0 0))) S):ao prog w0 146 [.sval false (l.map ct)] S R:=by
 have hv:=fun S' R h=>(li w0 S' l 0 0 R h).1
 exact γR1 hv func146 ntmps146 results146 h
theorem jw(l:List (List Int))(R:Rt)(h:R (.ret (.int .i64 (eg l 1 0))) S):ao prog w0 149 [.sval false (l.map ct)] S R:=by
 have hv:=fun S' R h=>(li w0 S' l 1 0 R h).1
 exact γR1 hv func149 ntmps149 results149 h
def mn(l:List (List Int)):Int:=if 1<eg l 0 0 then eg l 0 0 else 1
theorem ie(l:List (List Int))(R:Rt)(h:R (.ret (.int .i64 (mn l))) S):ao prog w0 144 [.sval false (l.map ct)] S R:=by
 have hv:=jQ w0
 unfold mn at h
 by_cases hc:1<eg l 0 0
 ·rw [if_pos hc] at h
  have hc1:((1:Int)<eg l 0 0)=True:=eq_true hc
  clear hc
  refine γR1 hv func144 ntmps144 results144 ?_
  first|exact h|(simpa using h)
 ·rw [if_neg hc] at h
  have hc1:((1:Int)<eg l 0 0)=False:=eq_false hc
  clear hc
  refine γR1 hv func144 ntmps144 results144 ?_
  first|exact h|(simpa using h)
def b7(k n m:Int):AV:=.agg [.int .i64 k,.int .i64 n,.int .i64 m,.int .i64 0,.int .i64 0,.str []]
theorem jn(k n m:Int):(gP k n m).av=b7 k n m:=rfl
def vG:List (AV × AV):=wk.map fun p=>(.int .i64 p.1,p.2.av)
def plainP(m:Nat):List im:=[.mk 3,.val 4 (b7 2 0 0),.ent (.int .i64 7) (b7 2 0 0),.val 5 (b7 3 0 0),.ent (.int .i64 8) (b7 3 0 0),.val 6 (b7 4 0 0),.ent (.int .i64 9) (b7 4 0 0),.val 7 (b7 5 0 0),.ent (.int .i64 10) (b7 5 0 0),.val 8 (b7 5 0 0),.ent (.int .i64 11) (b7 5 0 0),.val 9 (b7 5 0 0),.ent (.int .i64 12) (b7 5 0 0),
 .val 10 (b7 6 0 0),.ent (.int .i64 13) (b7 6 0 0),.val 11 (b7 7 1 0),.ent (.int .i64 14) (b7 7 1 0),.val 12 (b7 7 0 0),.ent (.int .i64 15) (b7 7 0 0),.val 13 (.mown m),.val 0 (.mown m)]
theorem LA(R:Rt)(h:R (.ret (.mval vG)) S):ao prog w0 72 [] S R:=by
 have hac:=yx w0
 have H:=ab h
 clear h
 refine eN func72 rfl ntmps72 fun hO=>?_
 repeat' ((fail_if_success (apply ci 2));first|refine st ?_|(refine ca ?_;apply hac)|(refine br ?_ ?_<;>intro hb)|fail)
 refine gy (n:=21) mixed rfl ?_
 refine Lk (plainP (S.length+1)) 0 (t:=135) (kt:=3) (et:=25) rfl ?ok ?dep ?ty ?ky ?st ?fin
 case ok=>kernel_rfl
 case dep=>decide +kernel
 case ty=>simp only [go_sem]
 case ky=>simp [plainP,jD,mV,kR,tV,fh,kw,go_sem]
 case st =>
  refine⟨?s0, ?s1, ?s2, ?s3, ?s4, ?s5, ?s6, ?s7, ?s8, ?s9, ?s10, ?s11, ?s12, ?s13, ?s14, ?s15, ?s16, ?s17, ?s18, ?s19, ?s20,trivial⟩
  case s0 =>
   intro env hd
   refine Δ0 ?_
   first|exact⟨trivial,trivial⟩|(constructor<;>first|rfl|trivial|simp)
  case s1 =>
   intro env S' hd hS
   clear hd hS
   refine Δ1 hac ?_
   first|exact⟨trivial,trivial⟩|(constructor<;>first|rfl|trivial|simp)
  case s2 =>
   exact⟨_,_,_,_,rfl,rfl,rfl,.inr rfl,fun env hd=>⟨hd.1 0 (by decide +kernel) _ rfl _ rfl,rfl,hd.1 1 (by decide +kernel) _ rfl _ rfl⟩⟩
  case s3 =>
   intro env S' hd hS
   clear hd hS
   refine Δ1 hac ?_
   first|exact⟨trivial,trivial⟩|(constructor<;>first|rfl|trivial|simp)
  case s4 =>
   exact⟨_,_,_,_,rfl,rfl,rfl,.inr rfl,fun env hd=>⟨hd.1 0 (by decide +kernel) _ rfl _ rfl,rfl,hd.1 3 (by decide +kernel) _ rfl _ rfl⟩⟩
  case s5 =>
   intro env S' hd hS
   clear hd hS
   refine Δ1 hac ?_
   first|exact⟨trivial,trivial⟩|(constructor<;>first|rfl|trivial|simp)
  case s6 =>
   exact⟨_,_,_,_,rfl,rfl,rfl,.inr rfl,fun env hd=>⟨hd.1 0 (by decide +kernel) _ rfl _ rfl,rfl,hd.1 5 (by decide +kernel) _ rfl _ rfl⟩⟩
  case s7 =>
   intro env S' hd hS
   have q1:=hd.2 1 rfl
   simp only [go_sem] at q1
   clear hd
   rcases hS with rfl|⟨es,rfl⟩
   all_goals
    refine Δ0 ?_
    first|exact⟨trivial,trivial⟩|(constructor<;>first|rfl|trivial|simp)
  case s8 =>
   exact⟨_,_,_,_,rfl,rfl,rfl,.inr rfl,fun env hd=>⟨hd.1 0 (by decide +kernel) _ rfl _ rfl,rfl,hd.1 7 (by decide +kernel) _ rfl _ rfl⟩⟩
  case s9 =>
   intro env S' hd hS
   have q1:=hd.2 1 rfl
   simp only [go_sem] at q1
   clear hd
   rcases hS with rfl|⟨es,rfl⟩
   all_goals
    refine Δ0 ?_
    first|exact⟨trivial,trivial⟩|(constructor<;>first|rfl|trivial|simp)
  case s10 =>
   exact⟨_,_,_,_,rfl,rfl,rfl,.inr rfl,fun env hd=>⟨hd.1 0 (by decide +kernel) _ rfl _ rfl,rfl,hd.1 9 (by decide +kernel) _ rfl _ rfl⟩⟩
  case s11 =>
   intro env S' hd hS
   have q1:=hd.2 1 rfl
   simp only [go_sem] at q1
   clear hd
   rcases hS with rfl|⟨es,rfl⟩
   all_goals
    refine Δ0 ?_
    first|exact⟨trivial,trivial⟩|(constructor<;>first|rfl|trivial|simp)
  case s12 =>
   exact⟨_,_,_,_,rfl,rfl,rfl,.inr rfl,fun env hd=>⟨hd.1 0 (by decide +kernel) _ rfl _ rfl,rfl,hd.1 11 (by decide +kernel) _ rfl _ rfl⟩⟩
  case s13 =>
   intro env S' hd hS
   clear hd hS
   refine Δ1 hac ?_
   first|exact⟨trivial,trivial⟩|(constructor<;>first|rfl|trivial|simp)
  case s14 =>
   exact⟨_,_,_,_,rfl,rfl,rfl,.inr rfl,fun env hd=>⟨hd.1 0 (by decide +kernel) _ rfl _ rfl,rfl,hd.1 13 (by decide +kernel) _ rfl _ rfl⟩⟩
  case s15 =>
   intro env S' hd hS
   clear hd hS
   refine Δ1 hac ?_
   first|exact⟨trivial,trivial⟩|(constructor<;>first|rfl|trivial|simp)
  case s16 =>
   exact⟨_,_,_,_,rfl,rfl,rfl,.inr rfl,fun env hd=>⟨hd.1 0 (by decide +kernel) _ rfl _ rfl,rfl,hd.1 15 (by decide +kernel) _ rfl _ rfl⟩⟩
  case s17 =>
   intro env S' hd hS
   clear hd hS
   refine Δ1 hac ?_
   first|exact⟨trivial,trivial⟩|(constructor<;>first|rfl|trivial|simp)
  case s18 =>
   exact⟨_,_,_,_,rfl,rfl,rfl,.inr rfl,fun env hd=>⟨hd.1 0 (by decide +kernel) _ rfl _ rfl,rfl,hd.1 17 (by decide +kernel) _ rfl _ rfl⟩⟩
  case s19 =>
   intro env S' hd hS
   have q1:=hd.1 0 (by decide +kernel) _ rfl _ rfl
   simp only [im.out,go_sem] at q1
   clear hd hS
   refine Δ0 ?_
   first|exact⟨trivial,trivial⟩|(constructor<;>first|rfl|trivial|simp)
  case s20 =>
   intro env S' hd hS
   have q1:=hd.1 19 (by decide +kernel) _ rfl _ rfl
   simp only [im.out,go_sem] at q1
   clear hd hS
   refine Δ0 ?_
   first|exact⟨trivial,trivial⟩|(constructor<;>first|rfl|trivial|simp)
 case fin =>
  intro env hs hk
  have q0:=hs 20 _ rfl _ rfl
  have q5:=hk 1000000 rfl
  clear hs hk
  simp only [im.out,go_sem] at q0 q5
  simp only [plainP,jD,al,aj]
  refine ε0 ?_
  refine fR results72 ?_
  exact H.out
def mj:List (AV × AV):=yp.map fun p=>(.int .u8 p.1,p.2.av)
def Ie:List (AV × AV):=xX.map fun p=>(p.1.av,p.2.av)
def Cz(e:AV × AV):AV × AV:=(.agg [.int .u8 0,.str [],e.1],e.2)
def pq:AV × AV:=(.agg [.int .u8 0,.str [35],.int .u8 56],b7 16 0 0)
theorem pI{e:AV × AV}(h:e∈mj):∃ (n:Int) (k a m:Int),e=(.int .u8 n,b7 k a m):=by
 unfold mj at h
 obtain⟨⟨n,x⟩,hp,rfl⟩:=aN.1 h
 have:∃ k a m,x=gP k a m:=by
  simp only [yp,bD,gZ,or_false,k_] at hp
  rcases hp with⟨_,rfl⟩|⟨_,rfl⟩|⟨_,rfl⟩|⟨_,rfl⟩|⟨_,rfl⟩|⟨_,rfl⟩|⟨_,rfl⟩|⟨_,rfl⟩|⟨_,rfl⟩|⟨_,rfl⟩|⟨_,rfl⟩
  all_goals exact⟨_,_,_,rfl⟩
 obtain⟨k,a,m,rfl⟩:=this
 exact⟨n,k,a,m,rfl⟩
theorem zQ:(mj.map cP).Nodup:=by
 simp [mj,yp]
theorem AH{es:List (AV × AV)}(h:∀ x∈es,∃ k a j q m,x=(.int k a,b7 j q m))(n:Nat):nB n es=true:=by
 rw [e_]
 intro x hx
 obtain⟨k,a,j,q,m,rfl⟩:=h x hx
 exact⟨rfl,rfl⟩
theorem Ee{es:List (AV × AV)}(h:∀ x∈es,∃ a s b j q m,x=(.agg [.int .u8 a,.str s,.int .u8 b],b7 j q m))(n:Nat):nB n es=true:=by
 rw [e_]
 intro x hx
 obtain⟨k,a,j,q,m,_,rfl⟩:=h x hx
 exact⟨rfl,rfl⟩
theorem jY(a:Int)(s:List UInt8)(b:Int):fh prog 140 (.agg [.int .u8 a,.str s,.int .u8 b])=true:=by
 simp [fh,kw,eS,go_sem]
theorem EX{vis rest:List (AV × AV)}{e:AV × AV}(hp:mj.Perm (vis++e::rest)):(Cz e).1∉(pq::vis.map Cz).map cP:=by
 have h1:=(hp.map cP).nodup_iff.1 zQ
 rw [aM,ig] at h1
 rw [al,Fl]
 intro hm
 rcases bD.1 hm with hm|hm
 ·have:=congrArg (fun x=>match x with|AV.agg [_,AV.str s,_]=>s|_=>[]) hm
  simp [Cz,pq] at this
 ·obtain⟨x,hx,he⟩:=aN.1 hm
  have hxe:x.1=e.1:=by
   simp only [aY,Cz,AV.agg.injEq,mz,true_and,and_true] at he
   exact he
  exact h1.2.2 _ (aN.2 ⟨x,hx,rfl⟩) _ (aN.2 ⟨e,dG ..,rfl⟩) hxe
theorem Fb(R:Rt)(h:R (.ret (.mval Ie)) S):ao prog w0 73 [] S R:=by
 have hac:=yx w0
 have H:=ab h
 have Hac:=ab hac
 clear h
 refine eN func73 rfl ntmps73 fun hO=>?_
 repeat' ((fail_if_success (apply ci 3));first|refine st ?_|(refine ca ?_;apply hac)|(refine br ?_ ?_<;>intro hb)|fail)
 refine i8 (S.length+1) ss ?_
 refine ε0 ?_
 refine cD (fun (p:Option (AV × AV) × List (AV × AV) × List (AV × AV)) env S'=>mj.Perm (p.2.1++p.2.2)∧(∀ n,(aH.mit p.1 []).ltB n=true)∧env 1000000=.dfr []∧env 1=.mown S.length∧env 25=.own (S.length+2) 0 ∧
  S'=S++[.mp false (pq::p.2.1.map Cz),.mp true mj,.mit p.1 p.2.2]) (fun p=>p.2.2.length) (none,[],mj) ?_ ?_
 ·exact⟨.refl _,fun _=>rfl,ss,ss,ss,rfl⟩
 ·rintro⟨cur,vis,rest⟩ env S' ⟨hp,hcur,e0,e1,e25,rfl⟩ IH
  have HI:=ab IH
  have HP:=ab hp
  have HO:=ab hO
  clear IH hp hac
  simp only at hcur
  refine ε0 ?_
  apply ry
  ·exact ss
  ·rfl
  ·exact ss
  ·exact ss
  ·rfl
  ·intro hr
   have hp:=HP.out
   rw [hr,aG] at hp
   subst hr
   simp only [putA]
   refine oO S.length (es':=pq::mj.map Cz) ss ((hp.symm.map Cz).cons pq) ss ?_
   simp only [mj,yp,al,aj,Cz,pq,Ac.av,gP,b7,bA]
   have Hac2:=Hac.out
   clear hp HI HP
   repeat' first|refine st ?_|(refine ca ?_;apply Hac2)|(refine br ?_ ?_<;>intro hb)|apply cS|apply gn|fail
   refine fR results73 ?_
   exact H.out
  ·intro e rest' hr
   have hp:mj.Perm (vis++e::rest'):=HP.out.trans (iR _ hr)
   have hnew:=EX hp
   obtain⟨n,k,a,m,rfl⟩:=pI (hp.mem_iff.2 (dF _ (dG ..)))
   have hkeys:∀ x∈pq::vis.map Cz,∃ a s b j q m,x=(.agg [.int .u8 a,.str s,.int .u8 b],b7 j q m):=by
    intro x hx
    rcases bD.1 hx with rfl|hx
    ·exact⟨_,_,_,_,_,_,rfl⟩
    ·obtain⟨y,hy,rfl⟩:=aN.1 hx
     obtain⟨n,k,a,m,rfl⟩:=pI (hp.mem_iff.2 (lA _ hy))
     exact⟨_,_,_,_,_,_,rfl⟩
   have HN:=ab hnew
   have HK:=ab hkeys
   have HP2:=ab hp
   have HR:=ab hr
   have HL1:=ab (Ee (es:=(pq::vis.map Cz)++[(.agg [.int .u8 0,.str [],.int .u8 n],b7 k a m)]) (by
    intro x hx
    rcases bV.1 hx with hx|hx
    ·exact hkeys x hx
    ·simp at hx;subst hx;exact⟨_,_,_,_,_,_,rfl⟩))
   have HL2:=ab (AH (es:=rest') (by
    intro x hx
    obtain⟨n,k,a,m,rfl⟩:=pI (hp.mem_iff.2 (dF _ (iv _ hx)))
    exact⟨_,_,_,_,_,rfl⟩))
   have HL3:=ab (AH (es:=mj) (by
    intro x hx
    obtain⟨n,k,a,m,rfl⟩:=pI hx
    exact⟨_,_,_,_,_,rfl⟩))
   clear hp hnew hkeys hr
   simp only [putA,b7]
   refine ε0 ?_
   have hka:∀ x∈pq::vis.map Cz,fh prog 140 x.1=true:=by
    intro x hx
    obtain⟨a,s,b,_,_,_,rfl⟩:=HK.out x hx
    exact jY a s b
   have hkk:=jY 0 [] n
   apply IW
   ·exact ss
   ·rfl
   ·exact ss
   ·exact ss
   ·exact ss
   ·exact ss
   ·exact ss
   ·exact hkk
   ·exact aD.2 hka
   ·exact lP hkk hka HN.out
   ·rfl
   ·exact ss
   clear hka hkk
   simp only [putA]
   refine ε0 ?_
   refine bX HO.out 3 [1,25] rfl ss ss ?_ ?_
   ·have l1:=HL1.out
    have l2:=HL2.out
    have l3:=HL3.out
    simp only [b7,fQ] at l1
    (simp only [go_sem, *];try rfl)
   simp only [aR,aO]
   refine HI.out (some (.int .u8 n,b7 k a m),vis++[(.int .u8 n,b7 k a m)],rest') _ _ ?_ ⟨?_, ?_, ?_, ?_, ?_, ?_⟩
   ·have:=HR.out.length_eq;simp at this ⊢;omega
   ·simpa using HP2.out
   ·intro n;rfl
   ·exact ss
   ·exact ss
   ·exact ss
   ·simp [Cz,b7]
def gK(f:AV):AV:=.fn (.func 139) [] [.pro [f]]
def vj:Sq→AV
 | .cnt k=>gK (.fn (.func 143) [] [.pro [.int .i64 k]])
 | .first k=>gK (.fn (.func 145) [] [.pro [.int .i64 k]])
 | .way k n=>gK (.fn (.func 147) [] [.pro [.int .i64 k,.int .i64 n,.int .i64 0,.int .i64 0,.int .i64 0,.str []]])
 | .cursor=>gK (.fn (.func 148) [] [])
 | .modes k bit=>.fn (.func 141) [] [.pro [.int .i64 k],.pro [.int .i64 bit]]
 | .ask n=>.fn (.func 150) [] [.pro [.int .i64 n]]
 | .margins=>gK (.fn (.func 151) [] [])
 | .const k=>gK (.fn (.func (if k=12 then 152 else if k=13 then 153 else 157)) [] [])
 | .pens=>.fn (.func 154) [] []
 | .shape=>gK (.fn (.func 156) [] [])
 | .askMode n=>gK (.fn (.func 158) [] [.pro [.int .i64 n]])
def FL:List (AV × AV):=rj.map fun p=>(p.1.av,vj p.2)
theorem vS{base L vis rest:List (AV × AV)}{e:AV × AV}{f:AV × AV→AV × AV}(hn:((base++L.map f).map cP).Nodup)(hp:L.Perm (vis++e::rest)):(f e).1∉(base++vis.map f).map cP:=by
 have h1:=(((hp.map f).append_left base).map cP).nodup_iff.1 hn
 rw [show base++bn f (vis++e::rest)=(base++vis.map f)++f e::rest.map f by simp,aM,al,ig] at h1
 intro hm
 exact h1.2.2 _ hm _ (dG ..) rfl
theorem E_(g:FuncId)(cap:List AV)(hp:plainL cap=true)(hl:∀ n,Go.Fen.ltL n cap=true)(R:Rt)(h:R (.ret (gK (.fn (.func g) [] cap))) S):ao prog w0 138 [.fn (.func g) [] cap] S R:=by
 unfold gK at h
 exact γR0 func138 ntmps138 results138 h
theorem M4(k b:Int)(R:Rt)(h:R (.ret (vj (.modes k b))) S):ao prog w0 140 [.int .i64 k,.int .i64 b] S R:=by
 unfold vj at h
 exact γR0 func140 ntmps140 results140 h
theorem IG(a m:Nat)(es:List (AV × AV))(pv:Int)(it:List UInt8)(fn:Int)(v:AV)(ha:S[a]? = some (.cells [.mown m] none))(hm:S[m]? = some (.mp false es))(hall:(es.all fun x=>fh prog 140 x.1)=true)
  (hnew:es.any (fun e=>kR (.agg [.int .u8 pv,.str it,.int .u8 fn]) e.1)=false) (hlt:nB S.length (es++[(.agg [.int .u8 pv,.str it,.int .u8 fn],v)])=true) (R:Rt)
  (h:R (.ret (.tup [])) (S.set m (.mp false (es++[(.agg [.int .u8 pv,.str it,.int .u8 fn],v)])))):ao prog w0 137 [.int .u8 pv,.str it,.int .u8 fn,v,.own a 0] S R:=by
 have HN:=ab hnew
 have HA:=ab hall
 have HL:=ab hlt
 have H:=ab h
 clear hnew hall hlt h
 refine eN func137 rfl ntmps137 fun hO=>?_
 refine ε0 ?_
 apply IW
 ·exact ss
 ·rfl
 ·exact ss
 ·exact ss
 ·exact ss
 ·exact ss
 ·exact ss
 ·exact jY pv it fn
 ·exact HA.out
 ·exact HN.out
 ·rfl
 ·rfl
 simp only [putA]
 refine ε0 ?_
 refine K8 results137 ?_ ?_ ?_
 ·exact bH.set hO HL.out
 ·simp
 ·exact H.out
def fG(g:FuncId)(e:AV × AV):AV × AV:=(.agg [.int .u8 0,.str [],e.1],gK (.fn (.func g) [] [.pro e.2.cells]))
def ju:List (AV × AV):=rI.map fun p=>(.int .u8 p.1,.int .i64 p.2)
def ic:List (AV × AV):=pF.map fun p=>(.int .u8 p.1,.int .i64 p.2)
def nU:List (AV × AV):=Af.map fun p=>(.int .u8 p.1,b7 p.2.1 p.2.2 0)
def nY:List (AV × AV):=[]
def mi:List (AV × AV):=nY++ju.map (fG 143)
def ly:List (AV × AV):=mi++ic.map (fG 145)
def uQ:List (AV × AV):=ly++nU.map (fG 147)
theorem p9(S r:List aH)(a b:aH):(S++a::r).set S.length b=S++b::r:=by
 rw [eI _ _ (ba _),la,List.set_cons_zero]
def jo(x:AV × AV):Prop:=(∃ a s b,x.1=.agg [.int .u8 a,.str s,.int .u8 b])∧∀ n,x.2.lt n=true
theorem jo.key{x:AV × AV}(h:jo x):fh prog 140 x.1=true:=by
 obtain⟨⟨a,s,b,e⟩,_⟩:=h
 rw [e];exact jY a s b
theorem jo.lts{es:List (AV × AV)}(h:∀ x∈es,jo x)(n:Nat):nB n es=true:=by
 rw [e_]
 intro x hx
 obtain⟨⟨a,s,b,e⟩,h2⟩:=h x hx
 exact⟨by rw [e];rfl,h2 n⟩
theorem ft{g:FuncId}{e:AV × AV}{n:Int}(h1:e.1=.int .u8 n)(h2:∀ m,Go.Fen.ltL m e.2.cells=true):jo (fG g e):=by
 refine⟨⟨0,[],n,by simp [fG,h1]⟩,fun m=>?_⟩
 simp only [fG,gK,AV.lt,Go.Fen.ltL,h2 m,Bool.and_self]
theorem kC{e:AV × AV}(h:e∈ju):∃ (n k:Int),e=(.int .u8 n,.int .i64 k):=by
 unfold ju at h
 obtain⟨p,hp,rfl⟩:=aN.1 h
 exact⟨_,_,rfl⟩
theorem jF{e:AV × AV}(h:e∈ic):∃ (n k:Int),e=(.int .u8 n,.int .i64 k):=by
 unfold ic at h
 obtain⟨p,hp,rfl⟩:=aN.1 h
 exact⟨_,_,rfl⟩
theorem mE{e:AV × AV}(h:e∈nU):∃ (n k a:Int),e=(.int .u8 n,b7 k a 0):=by
 unfold nU at h
 obtain⟨p,hp,rfl⟩:=aN.1 h
 exact⟨_,_,_,rfl⟩
theorem uR:∀ x∈nY,jo x:=by intro x hx;cases hx
theorem qD:∀ x∈mi,jo x:=by
 intro x hx
 rcases bV.1 hx with hx|hx
 ·exact uR x hx
 ·obtain⟨y,hy,rfl⟩:=aN.1 hx
  obtain⟨n,k,rfl⟩:=kC hy
  exact ft rfl fun m=>rfl
theorem qC:∀ x∈ly,jo x:=by
 intro x hx
 rcases bV.1 hx with hx|hx
 ·exact qD x hx
 ·obtain⟨y,hy,rfl⟩:=aN.1 hx
  obtain⟨n,k,rfl⟩:=jF hy
  exact ft rfl fun m=>rfl
theorem Ch:∀ x∈uQ,jo x:=by
 intro x hx
 rcases bV.1 hx with hx|hx
 ·exact qC x hx
 ·obtain⟨y,hy,rfl⟩:=aN.1 hx
  obtain⟨n,k,a,rfl⟩:=mE hy
  exact ft rfl fun m=>rfl
theorem Eb:(uQ.map cP).Nodup:=by
 simp [uQ,ly,mi,nY,ju,rI,ic,pF,nU,Af,fG]
theorem Ec:(ly.map cP).Nodup:=by
 have h:=Eb
 unfold uQ at h
 rw [aM] at h
 exact(ig.1 h).1
theorem KJ:(mi.map cP).Nodup:=by
 have h:=Ec
 unfold ly at h
 rw [aM] at h
 exact(ig.1 h).1
theorem M2(R:Rt)(h:R (.ret (.mval FL)) S):ao prog w0 75 [] S R:=by
 have hac:=yx w0
 have H:=ab h
 have Hac:=ab hac
 clear h
 refine eN func75 rfl ntmps75 fun hO=>?_
 have HO:=ab hO
 repeat' ((fail_if_success (apply ci 6));first|refine st ?_|(refine ca ?_;apply hac)|(refine br ?_ ?_<;>intro hb)|fail)
 refine i8 (S.length+2) ss ?_
 refine ε0 ?_
 refine cD (fun (p:Option (AV × AV) × List (AV × AV) × List (AV × AV)) env S2=>ju.Perm (p.2.1++p.2.2)∧(∀ n,(aH.mit p.1 []).ltB n=true)∧env 1000000=.dfr []∧env 1=.own (S.length+1) 0∧env 2=.fn (.func 137) [] [.own (S.length+1) 0]∧env 3=.fn (.func 138) [] []∧env 4=.fn (.func 140) [] []∧env 27=.own (S.length+3) 0 ∧
  S2=S++[.mp false (nY++p.2.1.map (fG 143)),.cells [.mown S.length] none,.mp true ju,.mit p.1 p.2.2]) (fun p=>p.2.2.length) (none,[],ju) ?_ ?_
 ·exact⟨.refl _,fun _=>rfl,ss,ss,ss,ss,ss,ss,rfl⟩
 rintro⟨cur,vis,rest⟩ env S2 ⟨hp,hcur,e0,e1,e2,e3,e4,eit,rfl⟩ IH
 have HI:=ab IH
 have HP:=ab hp
 clear IH hp hac
 simp only at hcur
 refine ε0 ?_
 apply ry
 ·exact ss
 ·rfl
 ·exact ss
 ·exact ss
 ·rfl
 rotate_left
 ·intro e rest' hr
  have hp:ju.Perm (vis++e::rest'):=HP.out.trans (iR _ hr)
  have hnew:=vS (f:=fG 143) KJ hp
  obtain⟨n,k,rfl⟩:=kC (hp.mem_iff.2 (dF _ (dG ..)))
  have hkeys:∀ x∈nY++vis.map (fG 143),jo x:=by
   intro x hx
   rcases bV.1 hx with hx|hx
   ·exact uR x hx
   ·obtain⟨y,hy,rfl⟩:=aN.1 hx
    obtain⟨n,k,rfl⟩:=kC (hp.mem_iff.2 (lA _ hy))
    exact ft rfl fun m=>rfl
  have HN:=ab hnew
  have HK:=ab hkeys
  have HP2:=ab hp
  have HR:=ab hr
  have HL2:CC (∀ n,nB n rest'=true∧nB n ju=true):=ab (by
   intro m
   constructor
   ·rw [e_]
    intro x hx
    obtain⟨n,k,rfl⟩:=kC (hp.mem_iff.2 (dF _ (iv _ hx)))
    exact⟨rfl,rfl⟩
   ·rw [e_]
    intro x hx
    obtain⟨n,k,rfl⟩:=kC hx
    exact⟨rfl,rfl⟩)
  clear hp hnew hkeys hr
  simp only [putA,b7]
  repeat' ((fail_if_success (apply dk 33 rfl));first|refine st ?_|(refine br ?_ ?_<;>intro hb)|fail)
  refine oT (t:=7) (a:=S.length+4) (o:=0) ss ss ?_
  simp only [cQ]
  have hone:=fun S'=>E_ w0 S' 143 [.pro [.int .i64 k]] rfl (fun _=>rfl)
  unfold gK at hone
  repeat' ((fail_if_success (apply dk 38 rfl));first|refine st ?_|(refine ca ?_;apply hone)|(refine br ?_ ?_<;>intro hb)|fail)
  apply df []
  ·exact ss
  ·rfl
  ·exact ss
  ·rfl
  ·exact ss
  ·exact ss
  have hke:jo (fG 143 (.int .u8 n,.int .i64 k)):=ft rfl fun m=>rfl
  refine IG w0 _ (S.length+1) S.length (nY++vis.map (fG 143)) 0 [] n _ ?_ ?_ (aD.2 fun x hx=>(HK.out x hx).key) (lP (jY 0 [] n) (fun x hx=>(HK.out x hx).key) HN.out) (jo.lts (es:=(nY++vis.map (fG 143))++[fG 143 (.int .u8 n,.int .i64 k)]) (by
   intro x hx
   rcases bV.1 hx with hx|hx
   ·exact HK.out x hx
   ·rw [a_.1 hx];exact hke) _) _ ?_
  ·exact ss
  ·exact ss
  rw [p9]
  clear hke
  refine ε0 ?_
  refine bX HO.out 4 [1,2,3,4,27] rfl ss ss ?_ ?_
  ·have hke:jo (fG 143 (.int .u8 n,.int .i64 k)):=ft rfl fun m=>rfl
   have l1:=jo.lts (es:=(nY++vis.map (fG 143))++[fG 143 (.int .u8 n,.int .i64 k)]) (by
    intro x hx
    rcases bV.1 hx with hx|hx
    ·exact HK.out x hx
    ·rw [a_.1 hx];exact hke)
   have l2:=fun n=>(HL2.out n).1
   have l3:=fun n=>(HL2.out n).2
   clear hke
   simp only [fG,gK,AV.cells,b7,aP] at l1 ⊢
   (simp only [go_sem, *];try rfl)
  simp only [aR,aO]
  refine HI.out (some (.int .u8 n,.int .i64 k),vis++[(.int .u8 n,.int .i64 k)],rest') _ _ ?_ ⟨?_, ?_, ?_, ?_, ?_, ?_, ?_, ?_, ?_⟩
  ·have:=HR.out.length_eq;simp at this ⊢;omega
  ·simpa using HP2.out
  ·intro n;rfl
  ·exact ss
  ·exact ss
  ·exact ss
  ·exact ss
  ·exact ss
  ·exact ss
  ·simp [fG,gK,b7,AV.cells]
 intro hr
 have hp:=HP.out
 rw [hr,aG] at hp
 subst hr
 simp only [putA]
 refine oO S.length (es':=mi) ss ((hp.symm.map (fG 143)).append_left nY) ss ?_
 clear hp HI HP
 repeat' ((fail_if_success (apply ci 10));first|refine st ?_|(refine br ?_ ?_<;>intro hb)|fail)
 refine bX HO.out 2 [1,2,3,4] rfl ss ss ?_ ?_
 ·have l1:=jo.lts qD
  (simp only [go_sem, *];try rfl)
 simp only [aR,aO]
 have Hac2:=Hac.out
 repeat' ((fail_if_success (apply ci 11));first|refine st ?_|(refine ca ?_;apply Hac2)|(refine br ?_ ?_<;>intro hb)|fail)
 refine i8 (S.length+2) ss ?_
 refine ε0 ?_
 refine cD (fun (p:Option (AV × AV) × List (AV × AV) × List (AV × AV)) env S2=>ic.Perm (p.2.1++p.2.2)∧(∀ n,(aH.mit p.1 []).ltB n=true)∧env 1000000=.dfr []∧env 1=.own (S.length+1) 0∧env 2=.fn (.func 137) [] [.own (S.length+1) 0]∧env 3=.fn (.func 138) [] []∧env 4=.fn (.func 140) [] []∧env 42=.own (S.length+3) 0 ∧
  S2=S++[.mp false (mi++p.2.1.map (fG 145)),.cells [.mown S.length] none,.mp true ic,.mit p.1 p.2.2]) (fun p=>p.2.2.length) (none,[],ic) ?_ ?_
 ·exact⟨.refl _,fun _=>rfl,ss,ss,ss,ss,ss,ss,by simp only [aj,aG];rfl⟩
 clear e0 e1 e2 e3 e4 eit hcur
 rintro⟨cur,vis,rest⟩ env S2 ⟨hp,hcur,e0,e1,e2,e3,e4,eit,rfl⟩ IH
 have HI:=ab IH
 have HP:=ab hp
 clear IH hp
 simp only at hcur
 refine ε0 ?_
 apply ry
 ·exact ss
 ·rfl
 ·exact ss
 ·exact ss
 ·rfl
 rotate_left
 ·intro e rest' hr
  have hp:ic.Perm (vis++e::rest'):=HP.out.trans (iR _ hr)
  have hnew:=vS (f:=fG 145) Ec hp
  obtain⟨n,k,rfl⟩:=jF (hp.mem_iff.2 (dF _ (dG ..)))
  have hkeys:∀ x∈mi++vis.map (fG 145),jo x:=by
   intro x hx
   rcases bV.1 hx with hx|hx
   ·exact qD x hx
   ·obtain⟨y,hy,rfl⟩:=aN.1 hx
    obtain⟨n,k,rfl⟩:=jF (hp.mem_iff.2 (lA _ hy))
    exact ft rfl fun m=>rfl
  have HN:=ab hnew
  have HK:=ab hkeys
  have HP2:=ab hp
  have HR:=ab hr
  have HL2:CC (∀ n,nB n rest'=true∧nB n ic=true):=ab (by
   intro m
   constructor
   ·rw [e_]
    intro x hx
    obtain⟨n,k,rfl⟩:=jF (hp.mem_iff.2 (dF _ (iv _ hx)))
    exact⟨rfl,rfl⟩
   ·rw [e_]
    intro x hx
    obtain⟨n,k,rfl⟩:=jF hx
    exact⟨rfl,rfl⟩)
  clear hp hnew hkeys hr
  simp only [putA,b7]
  repeat' ((fail_if_success (apply dk 48 rfl));first|refine st ?_|(refine br ?_ ?_<;>intro hb)|fail)
  refine oT (t:=10) (a:=S.length+4) (o:=0) ss ss ?_
  simp only [cQ]
  have hone:=fun S'=>E_ w0 S' 145 [.pro [.int .i64 k]] rfl (fun _=>rfl)
  unfold gK at hone
  repeat' ((fail_if_success (apply dk 53 rfl));first|refine st ?_|(refine ca ?_;apply hone)|(refine br ?_ ?_<;>intro hb)|fail)
  apply df []
  ·exact ss
  ·rfl
  ·exact ss
  ·rfl
  ·exact ss
  ·exact ss
  have hke:jo (fG 145 (.int .u8 n,.int .i64 k)):=ft rfl fun m=>rfl
  refine IG w0 _ (S.length+1) S.length (mi++vis.map (fG 145)) 0 [] n _ ?_ ?_ (aD.2 fun x hx=>(HK.out x hx).key) (lP (jY 0 [] n) (fun x hx=>(HK.out x hx).key) HN.out) (jo.lts (es:=(mi++vis.map (fG 145))++[fG 145 (.int .u8 n,.int .i64 k)]) (by
   intro x hx
   rcases bV.1 hx with hx|hx
   ·exact HK.out x hx
   ·rw [a_.1 hx];exact hke) _) _ ?_
  ·exact ss
  ·exact ss
  rw [p9]
  clear hke
  refine ε0 ?_
  refine bX HO.out 4 [1,2,3,4,42] rfl ss ss ?_ ?_
  ·have hke:jo (fG 145 (.int .u8 n,.int .i64 k)):=ft rfl fun m=>rfl
   have l1:=jo.lts (es:=(mi++vis.map (fG 145))++[fG 145 (.int .u8 n,.int .i64 k)]) (by
    intro x hx
    rcases bV.1 hx with hx|hx
    ·exact HK.out x hx
    ·rw [a_.1 hx];exact hke)
   have l2:=fun n=>(HL2.out n).1
   have l3:=fun n=>(HL2.out n).2
   clear hke
   simp only [fG,gK,AV.cells,b7,aP] at l1 ⊢
   (simp only [go_sem, *];try rfl)
  simp only [aR,aO]
  refine HI.out (some (.int .u8 n,.int .i64 k),vis++[(.int .u8 n,.int .i64 k)],rest') _ _ ?_ ⟨?_, ?_, ?_, ?_, ?_, ?_, ?_, ?_, ?_⟩
  ·have:=HR.out.length_eq;simp at this ⊢;omega
  ·simpa using HP2.out
  ·intro n;rfl
  ·exact ss
  ·exact ss
  ·exact ss
  ·exact ss
  ·exact ss
  ·exact ss
  ·simp [fG,gK,b7,AV.cells]
 intro hr
 have hp:=HP.out
 rw [hr,aG] at hp
 subst hr
 simp only [putA]
 refine oO S.length (es':=ly) ss ((hp.symm.map (fG 145)).append_left mi) ss ?_
 clear hp HI HP
 repeat' ((fail_if_success (apply ci 15));first|refine st ?_|(refine br ?_ ?_<;>intro hb)|fail)
 refine bX HO.out 2 [1,2,3,4] rfl ss ss ?_ ?_
 ·have l1:=jo.lts qC
  (simp only [go_sem, *];try rfl)
 simp only [aR,aO]
 repeat' ((fail_if_success (apply ci 16));first|refine st ?_|(refine ca ?_;apply Hac2)|(refine br ?_ ?_<;>intro hb)|fail)
 refine i8 (S.length+2) ss ?_
 refine ε0 ?_
 refine cD (fun (p:Option (AV × AV) × List (AV × AV) × List (AV × AV)) env S2=>nU.Perm (p.2.1++p.2.2)∧(∀ n,(aH.mit p.1 []).ltB n=true)∧env 1000000=.dfr []∧env 1=.own (S.length+1) 0∧env 2=.fn (.func 137) [] [.own (S.length+1) 0]∧env 3=.fn (.func 138) [] []∧env 4=.fn (.func 140) [] []∧env 65=.own (S.length+3) 0 ∧
  S2=S++[.mp false (ly++p.2.1.map (fG 147)),.cells [.mown S.length] none,.mp true nU,.mit p.1 p.2.2]) (fun p=>p.2.2.length) (none,[],nU) ?_ ?_
 ·exact⟨.refl _,fun _=>rfl,ss,ss,ss,ss,ss,ss,by simp only [aj,aG];rfl⟩
 clear e0 e1 e2 e3 e4 eit hcur
 rintro⟨cur,vis,rest⟩ env S2 ⟨hp,hcur,e0,e1,e2,e3,e4,eit,rfl⟩ IH
 have HI:=ab IH
 have HP:=ab hp
 clear IH hp
 simp only at hcur
 refine ε0 ?_
 apply ry
 ·exact ss
 ·rfl
 ·exact ss
 ·exact ss
 ·rfl
 rotate_left
 ·intro e rest' hr
  have hp:nU.Perm (vis++e::rest'):=HP.out.trans (iR _ hr)
  have hnew:=vS (f:=fG 147) Eb hp
  obtain⟨n,k,a,rfl⟩:=mE (hp.mem_iff.2 (dF _ (dG ..)))
  have hkeys:∀ x∈ly++vis.map (fG 147),jo x:=by
   intro x hx
   rcases bV.1 hx with hx|hx
   ·exact qC x hx
   ·obtain⟨y,hy,rfl⟩:=aN.1 hx
    obtain⟨n,k,a,rfl⟩:=mE (hp.mem_iff.2 (lA _ hy))
    exact ft rfl fun m=>rfl
  have HN:=ab hnew
  have HK:=ab hkeys
  have HP2:=ab hp
  have HR:=ab hr
  have HL2:CC (∀ n,nB n rest'=true∧nB n nU=true):=ab (by
   intro m
   constructor
   ·rw [e_]
    intro x hx
    obtain⟨n,k,a,rfl⟩:=mE (hp.mem_iff.2 (dF _ (iv _ hx)))
    exact⟨rfl,rfl⟩
   ·rw [e_]
    intro x hx
    obtain⟨n,k,a,rfl⟩:=mE hx
    exact⟨rfl,rfl⟩)
  clear hp hnew hkeys hr
  simp only [putA,b7]
  repeat' ((fail_if_success (apply dk 71 rfl));first|refine st ?_|(refine br ?_ ?_<;>intro hb)|fail)
  refine oT (t:=13) (a:=S.length+4) (o:=0) ss ss ?_
  simp only [cQ]
  have hone:=fun S'=>E_ w0 S' 147 [.pro [.int .i64 k,.int .i64 a,.int .i64 0,.int .i64 0,.int .i64 0,.str []]] rfl (fun _=>rfl)
  unfold gK at hone
  repeat' ((fail_if_success (apply dk 76 rfl));first|refine st ?_|(refine ca ?_;apply hone)|(refine br ?_ ?_<;>intro hb)|fail)
  apply df []
  ·exact ss
  ·rfl
  ·exact ss
  ·rfl
  ·exact ss
  ·exact ss
  have hke:jo (fG 147 (.int .u8 n,b7 k a 0)):=ft rfl fun m=>rfl
  refine IG w0 _ (S.length+1) S.length (ly++vis.map (fG 147)) 0 [] n _ ?_ ?_ (aD.2 fun x hx=>(HK.out x hx).key) (lP (jY 0 [] n) (fun x hx=>(HK.out x hx).key) HN.out) (jo.lts (es:=(ly++vis.map (fG 147))++[fG 147 (.int .u8 n,b7 k a 0)]) (by
   intro x hx
   rcases bV.1 hx with hx|hx
   ·exact HK.out x hx
   ·rw [a_.1 hx];exact hke) _) _ ?_
  ·exact ss
  ·exact ss
  rw [p9]
  clear hke
  refine ε0 ?_
  refine bX HO.out 4 [1,2,3,4,65] rfl ss ss ?_ ?_
  ·have hke:jo (fG 147 (.int .u8 n,b7 k a 0)):=ft rfl fun m=>rfl
   have l1:=jo.lts (es:=(ly++vis.map (fG 147))++[fG 147 (.int .u8 n,b7 k a 0)]) (by
    intro x hx
    rcases bV.1 hx with hx|hx
    ·exact HK.out x hx
    ·rw [a_.1 hx];exact hke)
   have l2:=fun n=>(HL2.out n).1
   have l3:=fun n=>(HL2.out n).2
   clear hke
   simp only [fG,gK,AV.cells,b7,aP] at l1 ⊢
   (simp only [go_sem, *];try rfl)
  simp only [aR,aO]
  refine HI.out (some (.int .u8 n,b7 k a 0),vis++[(.int .u8 n,b7 k a 0)],rest') _ _ ?_ ⟨?_, ?_, ?_, ?_, ?_, ?_, ?_, ?_, ?_⟩
  ·have:=HR.out.length_eq;simp at this ⊢;omega
  ·simpa using HP2.out
  ·intro n;rfl
  ·exact ss
  ·exact ss
  ·exact ss
  ·exact ss
  ·exact ss
  ·exact ss
  ·simp [fG,gK,b7,AV.cells]
 intro hr
 have hp:=HP.out
 rw [hr,aG] at hp
 subst hr
 simp only [putA]
 refine oO S.length (es':=uQ) ss ((hp.symm.map (fG 147)).append_left ly) ss ?_
 clear hp HI HP
 repeat' ((fail_if_success (apply ci 20));first|refine st ?_|(refine br ?_ ?_<;>intro hb)|fail)
 refine bX HO.out 2 [1,2,3,4] rfl ss ss ?_ ?_
 ·have l1:=jo.lts Ch
  (simp only [go_sem, *];try rfl)
 simp only [aR,aO]
 simp only [uQ,ly,mi,nY,ju,rI,ic,pF,nU,Af,fG,gK,AV.cells,b7,al,aj,gu,fQ,bA]
 have hput:=IG w0
 have hwk:=jY
 have hone:=fun S' g=>E_ w0 S' g [] rfl (fun _=>rfl)
 have heach:=M4 w0
 unfold gK at hone
 unfold vj at heach
 have hone2:=fun S' n=>E_ w0 S' 158 [.pro [.int .i64 n]] rfl (fun _=>rfl)
 unfold gK at hone2
 repeat' ((fail_if_success (apply dk 112 rfl));first|refine st ?_|(refine ca ?_;first|apply hone|apply heach|(apply hput;(iterate 5 (· simp only [go_sem, *];try rfl)))|apply hone2)|(refine br ?_ ?_<;>intro hb)|apply cS|apply gn|fail)
 refine oT (t:=18) (a:=S.length+2) (o:=0) ss ss ?_
 simp only [cQ]
 repeat' ((fail_if_success (apply dk 113 rfl));first|refine st ?_|(refine br ?_ ?_<;>intro hb)|fail)
 repeat' ((fail_if_success (apply dk 112 rfl));first|refine st ?_|(refine ca ?_;first|apply hone|apply heach|(apply hput;(iterate 5 (· simp only [go_sem, *];try rfl)))|apply hone2)|(refine br ?_ ?_<;>intro hb)|apply cS|apply gn|fail)
 refine oT (t:=18) (a:=S.length+3) (o:=0) ss ss ?_
 simp only [cQ]
 repeat' ((fail_if_success (apply dk 113 rfl));first|refine st ?_|(refine br ?_ ?_<;>intro hb)|fail)
 repeat' ((fail_if_success (apply dk 145 rfl));first|refine st ?_|(refine ca ?_;first|apply hone|apply heach|(apply hput;(iterate 5 (· simp only [go_sem, *];try rfl)))|apply hone2)|(refine br ?_ ?_<;>intro hb)|apply cS|apply gn|fail)
 refine oT (t:=20) (a:=S.length+4) (o:=0) ss ss ?_
 simp only [cQ]
 repeat' ((fail_if_success (apply dk 146 rfl));first|refine st ?_|(refine br ?_ ?_<;>intro hb)|fail)
 repeat' ((fail_if_success (apply dk 145 rfl));first|refine st ?_|(refine ca ?_;first|apply hone|apply heach|(apply hput;(iterate 5 (· simp only [go_sem, *];try rfl)))|apply hone2)|(refine br ?_ ?_<;>intro hb)|apply cS|apply gn|fail)
 refine oT (t:=20) (a:=S.length+5) (o:=0) ss ss ?_
 simp only [cQ]
 repeat' ((fail_if_success (apply dk 146 rfl));first|refine st ?_|(refine br ?_ ?_<;>intro hb)|fail)
 repeat' first|refine st ?_|(refine ca ?_;first|apply hone|apply heach|(apply hput;(iterate 5 (· simp only [go_sem, *];try rfl)))|apply hone2)|(refine br ?_ ?_<;>intro hb)|apply cS|apply gn|fail
 refine fR results75 ?_
 exact H.out
end Go.Proofs.YthdbijpefkapnaaGreatDoor
